/-
  THE WALK OF THE STATEMENT: the greatest common divisor asks for no order, and takes common factors with it.
-/
import Derived.Test.YtkcagkcphobmfaaZt
set_option linter.unusedVariables false
set_option linter.unusedSimpArgs false
namespace Go.Proofs.Ytkcagkcphobmfaa
open Go.RowKit

theorem gs_1 (a b c : Int) : ((gcdL [a, b, c] : Nat) : Int) = ((gcdL [c, ((gcdL [b, a] : Nat) : Int)] : Nat) : Int) := by
  rw [gcdL_3, gcdL_2, gcdL_2, Int.natAbs_natCast, Nat.gcd_comm c.natAbs, Nat.gcd_comm b.natAbs]
theorem gs_2 (a b c : Int) : ((gcdL [a, b, c] : Nat) : Int) = ((gcdL [-a, c, b, a] : Nat) : Int) := by
  rw [gcdL_3, gcdL_4, Int.natAbs_neg]
  congr 1
  generalize a.natAbs = A; generalize b.natAbs = B; generalize c.natAbs = D
  apply Nat.dvd_antisymm
  · refine Nat.dvd_gcd (Nat.dvd_gcd (Nat.dvd_gcd ?_ ?_) ?_) ?_
    · exact Nat.dvd_trans (Nat.gcd_dvd_left _ _) (Nat.gcd_dvd_left _ _)
    · exact Nat.gcd_dvd_right _ _
    · exact Nat.dvd_trans (Nat.gcd_dvd_left _ _) (Nat.gcd_dvd_right _ _)
    · exact Nat.dvd_trans (Nat.gcd_dvd_left _ _) (Nat.gcd_dvd_left _ _)
  · refine Nat.dvd_gcd (Nat.dvd_gcd ?_ ?_) ?_
    · exact Nat.gcd_dvd_right _ _
    · exact Nat.dvd_trans (Nat.gcd_dvd_left _ _) (Nat.gcd_dvd_right _ _)
    · exact Nat.dvd_trans (Nat.dvd_trans (Nat.gcd_dvd_left _ _) (Nat.gcd_dvd_left _ _)) (Nat.gcd_dvd_right _ _)
theorem gs_3 (a : Int) : ((gcdL [a] : Nat) : Int) = (Int.natAbs a : Int) := by rw [gcdL_1]
theorem gs_4 (a b c m : Int) : ((gcdL [a * m, b * m, c * m] : Nat) : Int) = ((gcdL [a, b, c] : Nat) : Int) * (Int.natAbs m : Int) := by
  rw [gcdL_3, gcdL_3, Int.natAbs_mul, Int.natAbs_mul, Int.natAbs_mul, Nat.gcd_mul_right, Nat.gcd_mul_right, Int.natCast_mul]
theorem gs_5 (a b m : Int) : ((gcdL [a + b * m, b] : Nat) : Int) = ((gcdL [a, b] : Nat) : Int) := by
  rw [gcdL_2, gcdL_2]
  congr 1
  apply Nat.dvd_antisymm
  · refine Nat.dvd_gcd ?_ (Nat.gcd_dvd_right _ _)
    have h1 : ((Nat.gcd (a + b * m).natAbs b.natAbs : Nat) : Int) ∣ a + b * m := Int.ofNat_dvd_left.2 (Nat.gcd_dvd_left _ _)
    have h2 : ((Nat.gcd (a + b * m).natAbs b.natAbs : Nat) : Int) ∣ b := Int.ofNat_dvd_left.2 (Nat.gcd_dvd_right _ _)
    have h3 := Int.dvd_sub h1 (Int.dvd_mul_of_dvd_left h2 (c := m))
    rw [show a + b * m - b * m = a by omega] at h3
    exact Int.ofNat_dvd_left.1 h3
  · refine Nat.dvd_gcd ?_ (Nat.gcd_dvd_right _ _)
    have h1 : ((Nat.gcd a.natAbs b.natAbs : Nat) : Int) ∣ a := Int.ofNat_dvd_left.2 (Nat.gcd_dvd_left _ _)
    have h2 : ((Nat.gcd a.natAbs b.natAbs : Nat) : Int) ∣ b := Int.ofNat_dvd_left.2 (Nat.gcd_dvd_right _ _)
    exact Int.ofNat_dvd_left.1 (Int.dvd_add h1 (Int.dvd_mul_of_dvd_left h2 (c := m)))

set_option maxRecDepth 100000 in
set_option maxHeartbeats 8000000 in
theorem wholeShared_walk {w : World} {s0 : Bool} {a0 : Option Addr} {n0 c0 : Nat} {x0 : Int} {s1 : Bool} {a1 : Option Addr} {n1 c1 : Nat} {x1 : Int} {s2 : Bool} {a2 : Option Addr} {n2 c2 : Nat} {x2 : Int} {s3 : Bool} {a3 : Option Addr} {n3 c3 : Nat} {x3 : Int} (h0 : Za 9223372036854775807 w s0 a0 n0 c0 x0) (h1 : Za 9223372036854775807 w s1 a1 n1 c1 x1) (h2 : Za 9223372036854775807 w s2 a2 n2 c2 x2) (h3 : Za 9223372036854775807 w s3 a3 n3 c3 x3) :
    Calls Try.prog 8 #[.agg #[.bool s0, .slice a0 n0 c0], .agg #[.bool s1, .slice a1 n1 c1], .agg #[.bool s2, .slice a2 n2 c2], .agg #[.bool s3, .slice a3 n3 c3]] w (RetV (.bool true) w) := by
  go_enter Try.func8, Try.ntmps8
  have hB := Below.refl w.heap.size w
  go_wp2_with fail
  obtain ⟨w1, g2, hw3, hg4, hb5, al6, ge7, sz8⟩ := mk_alloc w [(.bool s0), (.slice a0 n0 c0)] 24 (N := w.heap.size) rfl
  rw [← hw3]
  have G9 := below_ge hB ge7
  replace hB := ext_trans hB al6
  replace h0 := h0.ext al6
  replace h1 := h1.ext al6
  replace h2 := h2.ext al6
  replace h3 := h3.ext al6
  clear hw3 al6 ge7
  obtain ⟨w10, g11, hw12, hg13, hb14, al15, ge16, sz17⟩ := mk_alloc w1 [(.bool s1), (.slice a1 n1 c1)] 24 (N := w.heap.size + 1) sz8
  rw [← hw12]
  have Ng2_g11 := hb5.ne ge16
  have G18 := below_ge hB ge16
  replace hB := ext_trans hB al15
  replace h0 := h0.ext al15
  replace h1 := h1.ext al15
  replace h2 := h2.ext al15
  replace h3 := h3.ext al15
  replace hb5 := hb5.ext al15
  clear hw12 al15 ge16
  obtain ⟨w19, g20, hw21, hg22, hb23, al24, ge25, sz26⟩ := mk_alloc w10 [(.bool s2), (.slice a2 n2 c2)] 24 (N := w.heap.size + 1 + 1) sz17
  rw [← hw21]
  have Ng2_g20 := hb5.ne ge25
  have Ng11_g20 := hb14.ne ge25
  have G27 := below_ge hB ge25
  replace hB := ext_trans hB al24
  replace h0 := h0.ext al24
  replace h1 := h1.ext al24
  replace h2 := h2.ext al24
  replace h3 := h3.ext al24
  replace hb5 := hb5.ext al24
  replace hb14 := hb14.ext al24
  clear hw21 al24 ge25
  obtain ⟨w28, g29, hw30, hg31, hb32, al33, ge34, sz35⟩ := mk_alloc w19 [(.bool s3), (.slice a3 n3 c3)] 24 (N := w.heap.size + 1 + 1 + 1) sz26
  rw [← hw30]
  have Ng2_g29 := hb5.ne ge34
  have Ng11_g29 := hb14.ne ge34
  have Ng20_g29 := hb23.ne ge34
  have G36 := below_ge hB ge34
  replace hB := ext_trans hB al33
  replace h0 := h0.ext al33
  replace h1 := h1.ext al33
  replace h2 := h2.ext al33
  replace h3 := h3.ext al33
  replace hb5 := hb5.ext al33
  replace hb14 := hb14.ext al33
  replace hb23 := hb23.ext al33
  clear hw30 al33 ge34
  try rw [show w.heap.size + 3 = g29 from hg31.symm]
  try rw [← hg31]
  try rw [show w.heap.size + 2 = g20 from hg22.symm]
  try rw [← hg22]
  rw [← hg13]
  rw [← hg4]
  clear hg4 hg13 hg22 hg31 sz8 sz17 sz26 sz35
  refine (lof 4 h0).mono ?_
  rintro e w38 ⟨m37, z37, p37, q37, d37, r37, rfl, h37, k37, hb39⟩
  replace h0 := h0.ext hb39
  replace h1 := h1.ext hb39
  replace h2 := h2.ext hb39
  replace h3 := h3.ext hb39
  replace hb5 := hb5.ext hb39
  replace hb14 := hb14.ext hb39
  replace hb23 := hb23.ext hb39
  replace hb32 := hb32.ext hb39
  replace hB := ext_trans hB hb39
  clear hb39
  obtain ⟨a40, a41, f42, f43⟩ := cells2 hb5
  have l44 := hb5.lt
  obtain ⟨a45, a46, f47, f48⟩ := cells2 hb14
  have l49 := hb14.lt
  have Mg11_g2 := hid_ne Ng2_g11
  have e50 := Mg11_g2.out
  go_wp2_with fail
  clear a40 a41 f42 f43 l44 a45 a46 f47 f48 l49 e50
  obtain ⟨w51, hw52, hu53, hb54, sz55⟩ := mk_set2 hb5 (.bool s0) (.slice a0 m37 c0) (N := w38.heap.size) rfl
  rw [← hw52]
  replace h0 := h0.upd hb5 (noInt_zz _ _ _ _) hu53
  replace h1 := h1.upd hb5 (noInt_zz _ _ _ _) hu53
  replace h2 := h2.upd hb5 (noInt_zz _ _ _ _) hu53
  replace h3 := h3.upd hb5 (noInt_zz _ _ _ _) hu53
  replace h37 := h37.upd hb5 (noInt_zz _ _ _ _) hu53
  replace k37 := k37.upd hb5 (noInt_zz _ _ _ _) hu53
  replace hB := below_upd hB G9.out hb5.lt hu53
  replace hb14 := hb14.upd Mg11_g2.out hu53
  have Mg20_g2 := hid_ne Ng2_g20
  replace hb23 := hb23.upd Mg20_g2.out hu53
  have Mg29_g2 := hid_ne Ng2_g29
  replace hb32 := hb32.upd Mg29_g2.out hu53
  clear hw52 hu53 hb5
  clear sz55
  refine (lof 4 h1).mono ?_
  rintro e w57 ⟨m56, z56, p56, q56, d56, r56, rfl, h56, k56, hb58⟩
  replace h0 := h0.ext hb58
  replace h1 := h1.ext hb58
  replace h2 := h2.ext hb58
  replace h3 := h3.ext hb58
  replace h37 := h37.ext hb58
  replace k37 := k37.ext hb58
  replace hb54 := hb54.ext hb58
  replace hb14 := hb14.ext hb58
  replace hb23 := hb23.ext hb58
  replace hb32 := hb32.ext hb58
  replace hB := ext_trans hB hb58
  clear hb58
  obtain ⟨a59, a60, f61, f62⟩ := cells2 hb14
  have l63 := hb14.lt
  obtain ⟨a64, a65, f66, f67⟩ := cells2 hb23
  have l68 := hb23.lt
  have Mg20_g11 := hid_ne Ng11_g20
  have e69 := Mg20_g11.out
  go_wp2_with fail
  clear a59 a60 f61 f62 l63 a64 a65 f66 f67 l68 e69
  obtain ⟨w70, hw71, hu72, hb73, sz74⟩ := mk_set2 hb14 (.bool s1) (.slice a1 m56 c1) (N := w57.heap.size) rfl
  rw [← hw71]
  replace h0 := h0.upd hb14 (noInt_zz _ _ _ _) hu72
  replace h1 := h1.upd hb14 (noInt_zz _ _ _ _) hu72
  replace h2 := h2.upd hb14 (noInt_zz _ _ _ _) hu72
  replace h3 := h3.upd hb14 (noInt_zz _ _ _ _) hu72
  replace h37 := h37.upd hb14 (noInt_zz _ _ _ _) hu72
  replace k37 := k37.upd hb14 (noInt_zz _ _ _ _) hu72
  replace h56 := h56.upd hb14 (noInt_zz _ _ _ _) hu72
  replace k56 := k56.upd hb14 (noInt_zz _ _ _ _) hu72
  replace hB := below_upd hB G18.out hb14.lt hu72
  replace hb54 := hb54.upd Ng2_g11.out hu72
  replace hb23 := hb23.upd Mg20_g11.out hu72
  have Mg29_g11 := hid_ne Ng11_g29
  replace hb32 := hb32.upd Mg29_g11.out hu72
  clear hw71 hu72 hb14
  clear sz74
  refine (lof 4 h2).mono ?_
  rintro e w76 ⟨m75, z75, p75, q75, d75, r75, rfl, h75, k75, hb77⟩
  replace h0 := h0.ext hb77
  replace h1 := h1.ext hb77
  replace h2 := h2.ext hb77
  replace h3 := h3.ext hb77
  replace h37 := h37.ext hb77
  replace k37 := k37.ext hb77
  replace h56 := h56.ext hb77
  replace k56 := k56.ext hb77
  replace hb54 := hb54.ext hb77
  replace hb73 := hb73.ext hb77
  replace hb23 := hb23.ext hb77
  replace hb32 := hb32.ext hb77
  replace hB := ext_trans hB hb77
  clear hb77
  obtain ⟨a78, a79, f80, f81⟩ := cells2 hb23
  have l82 := hb23.lt
  obtain ⟨a83, a84, f85, f86⟩ := cells2 hb32
  have l87 := hb32.lt
  have Mg29_g20 := hid_ne Ng20_g29
  have e88 := Mg29_g20.out
  go_wp2_with fail
  clear a78 a79 f80 f81 l82 a83 a84 f85 f86 l87 e88
  obtain ⟨w89, hw90, hu91, hb92, sz93⟩ := mk_set2 hb23 (.bool s2) (.slice a2 m75 c2) (N := w76.heap.size) rfl
  rw [← hw90]
  replace h0 := h0.upd hb23 (noInt_zz _ _ _ _) hu91
  replace h1 := h1.upd hb23 (noInt_zz _ _ _ _) hu91
  replace h2 := h2.upd hb23 (noInt_zz _ _ _ _) hu91
  replace h3 := h3.upd hb23 (noInt_zz _ _ _ _) hu91
  replace h37 := h37.upd hb23 (noInt_zz _ _ _ _) hu91
  replace k37 := k37.upd hb23 (noInt_zz _ _ _ _) hu91
  replace h56 := h56.upd hb23 (noInt_zz _ _ _ _) hu91
  replace k56 := k56.upd hb23 (noInt_zz _ _ _ _) hu91
  replace h75 := h75.upd hb23 (noInt_zz _ _ _ _) hu91
  replace k75 := k75.upd hb23 (noInt_zz _ _ _ _) hu91
  replace hB := below_upd hB G27.out hb23.lt hu91
  replace hb54 := hb54.upd Ng2_g20.out hu91
  replace hb73 := hb73.upd Ng11_g20.out hu91
  replace hb32 := hb32.upd Mg29_g20.out hu91
  clear hw90 hu91 hb23
  clear sz93
  refine (lof 3 h3).mono ?_
  rintro e w95 ⟨m94, z94, p94, q94, d94, r94, rfl, h94, k94, hb96⟩
  replace h0 := h0.ext hb96
  replace h1 := h1.ext hb96
  replace h2 := h2.ext hb96
  replace h3 := h3.ext hb96
  replace h37 := h37.ext hb96
  replace k37 := k37.ext hb96
  replace h56 := h56.ext hb96
  replace k56 := k56.ext hb96
  replace h75 := h75.ext hb96
  replace k75 := k75.ext hb96
  replace hb54 := hb54.ext hb96
  replace hb73 := hb73.ext hb96
  replace hb92 := hb92.ext hb96
  replace hb32 := hb32.ext hb96
  replace hB := ext_trans hB hb96
  clear hb96
  obtain ⟨a97, a98, f99, f100⟩ := cells2 hb32
  have l101 := hb32.lt
  obtain ⟨a102, a103, f104, f105⟩ := cells2 hb54
  have l106 := hb54.lt
  obtain ⟨a107, a108, f109, f110⟩ := cells2 hb73
  have l111 := hb73.lt
  obtain ⟨a112, a113, f114, f115⟩ := cells2 hb92
  have l116 := hb92.lt
  have e117 := Ng2_g29.out
  have e118 := Ng11_g29.out
  have e119 := Ng20_g29.out
  go_wp2_with fail
  clear a97 a98 f99 f100 l101 a102 a103 f104 f105 l106 a107 a108 f109 f110 l111 a112 a113 f114 f115 l116 e117 e118 e119
  obtain ⟨w120, hw121, hu122, hb123, sz124⟩ := mk_set2 hb32 (.bool s3) (.slice a3 m94 c3) (N := w95.heap.size) rfl
  rw [← hw121]
  replace h0 := h0.upd hb32 (noInt_zz _ _ _ _) hu122
  replace h1 := h1.upd hb32 (noInt_zz _ _ _ _) hu122
  replace h2 := h2.upd hb32 (noInt_zz _ _ _ _) hu122
  replace h3 := h3.upd hb32 (noInt_zz _ _ _ _) hu122
  replace h37 := h37.upd hb32 (noInt_zz _ _ _ _) hu122
  replace k37 := k37.upd hb32 (noInt_zz _ _ _ _) hu122
  replace h56 := h56.upd hb32 (noInt_zz _ _ _ _) hu122
  replace k56 := k56.upd hb32 (noInt_zz _ _ _ _) hu122
  replace h75 := h75.upd hb32 (noInt_zz _ _ _ _) hu122
  replace k75 := k75.upd hb32 (noInt_zz _ _ _ _) hu122
  replace h94 := h94.upd hb32 (noInt_zz _ _ _ _) hu122
  replace k94 := k94.upd hb32 (noInt_zz _ _ _ _) hu122
  replace hB := below_upd hB G36.out hb32.lt hu122
  replace hb54 := hb54.upd Ng2_g29.out hu122
  replace hb73 := hb73.upd Ng11_g29.out hu122
  replace hb92 := hb92.upd Ng20_g29.out hu122
  clear hw121 hu122 hb32
  obtain ⟨w125, g126, hw127, hg128, hb129, al130, ge131, sz132⟩ := mk_alloc w120 [(.bool s0), (.slice a0 m37 c0), (.bool s1), (.slice a1 m56 c1), (.bool s2), (.slice a2 m75 c2)] 24 (N := w95.heap.size) sz124
  rw [← hw127]
  have Ng2_g126 := hb54.ne ge131
  have Ng11_g126 := hb73.ne ge131
  have Ng20_g126 := hb92.ne ge131
  have Ng29_g126 := hb123.ne ge131
  have G133 := below_ge hB ge131
  replace hB := ext_trans hB al130
  replace h0 := h0.ext al130
  replace h1 := h1.ext al130
  replace h2 := h2.ext al130
  replace h3 := h3.ext al130
  replace h37 := h37.ext al130
  replace k37 := k37.ext al130
  replace h56 := h56.ext al130
  replace k56 := k56.ext al130
  replace h75 := h75.ext al130
  replace k75 := k75.ext al130
  replace h94 := h94.ext al130
  replace k94 := k94.ext al130
  replace hb54 := hb54.ext al130
  replace hb73 := hb73.ext al130
  replace hb92 := hb92.ext al130
  replace hb123 := hb123.ext al130
  clear hw127 al130 ge131
  rw [← hg128]
  clear hg128 sz124 sz132
  refine (wGcd (in_blk3 (K := 4) hb129 ((h37)) ((h56)) ((h75)))).mono ?_
  rintro e w135 ⟨r134, o134, n134, c134, rfl, h134, hb136⟩
  replace h0 := h0.ext hb136
  replace h1 := h1.ext hb136
  replace h2 := h2.ext hb136
  replace h3 := h3.ext hb136
  replace h37 := h37.ext hb136
  replace k37 := k37.ext hb136
  replace h56 := h56.ext hb136
  replace k56 := k56.ext hb136
  replace h75 := h75.ext hb136
  replace k75 := k75.ext hb136
  replace h94 := h94.ext hb136
  replace k94 := k94.ext hb136
  replace hb54 := hb54.ext hb136
  replace hb73 := hb73.ext hb136
  replace hb92 := hb92.ext hb136
  replace hb123 := hb123.ext hb136
  replace hb129 := hb129.ext hb136
  replace hB := ext_trans hB hb136
  clear hb136
  go_wp2_with fail
  obtain ⟨w137, g138, hw139, hg140, hb141, al142, ge143, sz144⟩ := mk_alloc w135 [(.bool r134), (.slice o134 n134 c134)] 24 (N := w135.heap.size) rfl
  rw [← hw139]
  have Ng2_g138 := hb54.ne ge143
  have Ng11_g138 := hb73.ne ge143
  have Ng20_g138 := hb92.ne ge143
  have Ng29_g138 := hb123.ne ge143
  have Ng126_g138 := hb129.ne ge143
  have G145 := below_ge hB ge143
  replace hB := ext_trans hB al142
  replace h0 := h0.ext al142
  replace h1 := h1.ext al142
  replace h2 := h2.ext al142
  replace h3 := h3.ext al142
  replace h37 := h37.ext al142
  replace k37 := k37.ext al142
  replace h56 := h56.ext al142
  replace k56 := k56.ext al142
  replace h75 := h75.ext al142
  replace k75 := k75.ext al142
  replace h94 := h94.ext al142
  replace k94 := k94.ext al142
  replace h134 := h134.ext al142
  replace hb54 := hb54.ext al142
  replace hb73 := hb73.ext al142
  replace hb92 := hb92.ext al142
  replace hb123 := hb123.ext al142
  replace hb129 := hb129.ext al142
  clear hw139 al142 ge143
  rw [← hg140]
  clear hg140 sz144
  obtain ⟨Φs, hΦ⟩ : ∃ Φ : List PV, Φ = [PV.eq (.agg #[(.bool r134), (.slice o134 n134 c134)]), PV.eq (.agg #[(.bool s2), (.slice a2 m75 c2)]), PV.eq (.agg #[(.bool s1), (.slice a1 m56 c1)]), PV.eq (.agg #[(.bool s0), (.slice a0 m37 c0)]), PV.inn 4 2 [z56, z37], PV.zn 4 ((gcdL [z56, z37] : Nat) : Int), PV.inn 4 2 [z75, ((gcdL [z56, z37] : Nat) : Int)], PV.zn 4 ((gcdL [z75, ((gcdL [z56, z37] : Nat) : Int)] : Nat) : Int), PV.eq (.bool true), PV.eq (.bool false), PV.eq (.bool false), PV.eq (.agg #[(.bool r134), (.slice o134 n134 c134)]), PV.eq (.agg #[(.bool s0), (.slice a0 m37 c0)]), PV.zn 4 (-z37), PV.eq (.agg #[(.bool s2), (.slice a2 m75 c2)]), PV.eq (.agg #[(.bool s1), (.slice a1 m56 c1)]), PV.eq (.agg #[(.bool s0), (.slice a0 m37 c0)]), PV.inn 4 4 [(-z37), z75, z56, z37], PV.zn 4 ((gcdL [(-z37), z75, z56, z37] : Nat) : Int), PV.eq (.bool true), PV.eq (.bool false), PV.eq (.bool false), PV.eq (.bool false), PV.eq (.agg #[(.bool s0), (.slice a0 m37 c0)]), PV.inn 4 1 [z37], PV.zn 4 ((gcdL [z37] : Nat) : Int), PV.eq (.agg #[(.bool s0), (.slice a0 m37 c0)]), PV.zn 4 (Int.natAbs z37 : Int), PV.eq (.bool true), PV.eq (.bool false), PV.eq (.bool false)] := ⟨_, rfl⟩
  have ph0 : Φs[0]? = some (PV.eq (.agg #[(.bool r134), (.slice o134 n134 c134)])) := by rw [hΦ]; rfl
  have ph1 : Φs[1]? = some (PV.eq (.agg #[(.bool s2), (.slice a2 m75 c2)])) := by rw [hΦ]; rfl
  have ph2 : Φs[2]? = some (PV.eq (.agg #[(.bool s1), (.slice a1 m56 c1)])) := by rw [hΦ]; rfl
  have ph3 : Φs[3]? = some (PV.eq (.agg #[(.bool s0), (.slice a0 m37 c0)])) := by rw [hΦ]; rfl
  have ph4 : Φs[4]? = some (PV.inn 4 2 [z56, z37]) := by rw [hΦ]; rfl
  have ph5 : Φs[5]? = some (PV.zn 4 ((gcdL [z56, z37] : Nat) : Int)) := by rw [hΦ]; rfl
  have ph6 : Φs[6]? = some (PV.inn 4 2 [z75, ((gcdL [z56, z37] : Nat) : Int)]) := by rw [hΦ]; rfl
  have ph7 : Φs[7]? = some (PV.zn 4 ((gcdL [z75, ((gcdL [z56, z37] : Nat) : Int)] : Nat) : Int)) := by rw [hΦ]; rfl
  have ph8 : Φs[8]? = some (PV.eq (.bool true)) := by rw [hΦ]; rfl
  have ph9 : Φs[9]? = some (PV.eq (.bool false)) := by rw [hΦ]; rfl
  have ph10 : Φs[10]? = some (PV.eq (.bool false)) := by rw [hΦ]; rfl
  have ph11 : Φs[11]? = some (PV.eq (.agg #[(.bool r134), (.slice o134 n134 c134)])) := by rw [hΦ]; rfl
  have ph12 : Φs[12]? = some (PV.eq (.agg #[(.bool s0), (.slice a0 m37 c0)])) := by rw [hΦ]; rfl
  have ph13 : Φs[13]? = some (PV.zn 4 (-z37)) := by rw [hΦ]; rfl
  have ph14 : Φs[14]? = some (PV.eq (.agg #[(.bool s2), (.slice a2 m75 c2)])) := by rw [hΦ]; rfl
  have ph15 : Φs[15]? = some (PV.eq (.agg #[(.bool s1), (.slice a1 m56 c1)])) := by rw [hΦ]; rfl
  have ph16 : Φs[16]? = some (PV.eq (.agg #[(.bool s0), (.slice a0 m37 c0)])) := by rw [hΦ]; rfl
  have ph17 : Φs[17]? = some (PV.inn 4 4 [(-z37), z75, z56, z37]) := by rw [hΦ]; rfl
  have ph18 : Φs[18]? = some (PV.zn 4 ((gcdL [(-z37), z75, z56, z37] : Nat) : Int)) := by rw [hΦ]; rfl
  have ph19 : Φs[19]? = some (PV.eq (.bool true)) := by rw [hΦ]; rfl
  have ph20 : Φs[20]? = some (PV.eq (.bool false)) := by rw [hΦ]; rfl
  have ph21 : Φs[21]? = some (PV.eq (.bool false)) := by rw [hΦ]; rfl
  have ph22 : Φs[22]? = some (PV.eq (.bool false)) := by rw [hΦ]; rfl
  have ph23 : Φs[23]? = some (PV.eq (.agg #[(.bool s0), (.slice a0 m37 c0)])) := by rw [hΦ]; rfl
  have ph24 : Φs[24]? = some (PV.inn 4 1 [z37]) := by rw [hΦ]; rfl
  have ph25 : Φs[25]? = some (PV.zn 4 ((gcdL [z37] : Nat) : Int)) := by rw [hΦ]; rfl
  have ph26 : Φs[26]? = some (PV.eq (.agg #[(.bool s0), (.slice a0 m37 c0)])) := by rw [hΦ]; rfl
  have ph27 : Φs[27]? = some (PV.zn 4 (Int.natAbs z37 : Int)) := by rw [hΦ]; rfl
  have ph28 : Φs[28]? = some (PV.eq (.bool true)) := by rw [hΦ]; rfl
  have ph29 : Φs[29]? = some (PV.eq (.bool false)) := by rw [hΦ]; rfl
  have ph30 : Φs[30]? = some (PV.eq (.bool false)) := by rw [hΦ]; rfl
  clear hΦ
  refine wp_region_rel 31 100 Φs (by kernel_rfl) rfl rfl (by kernel_rfl) ?_ ?_
  · simp only [List.take_succ_cons, List.take_zero, stepsR]
    refine ⟨?_, ?_, ?_, ?_, ?_, ?_, ?_, ?_, ?_, ?_, ?_, ?_, ?_, ?_, ?_, ?_, ?_, ?_, ?_, ?_, ?_, ?_, ?_, ?_, ?_, ?_, ?_, ?_, ?_, ?_, ?_, trivial⟩
    · intro vs w' hE hp
      simp only [Nat.reduceAdd, Act.put, List.setIfInBounds_toArray, List.set_cons_zero, List.set_cons_succ]
      refine ifW_pos (by rfl) ?_
      obtain ⟨a0, a1, a2, a3⟩ := cells2 (hb141.ext (trans_drew hE))
      refine wp_hideK (fun K' hK => ?_)
      go_wp2_with fail
      exact ⟨rfl, Below.refl _ _, (phi_iff ph0).2 rfl⟩
    · intro vs w' hE hp
      simp only [Nat.reduceAdd, Act.put, List.setIfInBounds_toArray, List.set_cons_zero, List.set_cons_succ]
      refine ifW_pos (by rfl) ?_
      obtain ⟨a0, a1, a2, a3⟩ := cells2 (hb92.ext (trans_drew hE))
      refine wp_hideK (fun K' hK => ?_)
      go_wp2_with fail
      exact ⟨rfl, Below.refl _ _, (phi_iff ph1).2 rfl⟩
    · intro vs w' hE hp
      simp only [Nat.reduceAdd, Act.put, List.setIfInBounds_toArray, List.set_cons_zero, List.set_cons_succ]
      refine ifW_pos (by rfl) ?_
      obtain ⟨a0, a1, a2, a3⟩ := cells2 (hb73.ext (trans_drew hE))
      refine wp_hideK (fun K' hK => ?_)
      go_wp2_with fail
      exact ⟨rfl, Below.refl _ _, (phi_iff ph2).2 rfl⟩
    · intro vs w' hE hp
      simp only [Nat.reduceAdd, Act.put, List.setIfInBounds_toArray, List.set_cons_zero, List.set_cons_succ]
      refine ifW_pos (by rfl) ?_
      obtain ⟨a0, a1, a2, a3⟩ := cells2 (hb54.ext (trans_drew hE))
      refine wp_hideK (fun K' hK => ?_)
      go_wp2_with fail
      exact ⟨rfl, Below.refl _ _, (phi_iff ph3).2 rfl⟩
    · intro vs w' hE hp
      have p2_4 : vs 2 = (.agg #[(.bool s1), (.slice a1 m56 c1)]) := (phi_iff ph2).1 (hp 2 rfl)
      have p3_4 : vs 3 = (.agg #[(.bool s0), (.slice a0 m37 c0)]) := (phi_iff ph3).1 (hp 3 rfl)
      simp only [Nat.reduceAdd, Act.put, List.setIfInBounds_toArray, List.set_cons_zero, List.set_cons_succ, p2_4, p3_4]
      refine ifW_pos (by rfl) ?_
      have h56 := h56.ext (trans_drew hE)
      have h37 := h37.ext (trans_drew hE)
      refine wp_hideK (fun K' hK => ?_)
      go_wp2_with fail
      exact ⟨rfl, alloc_ext _ _, (phi_iff ph4).2 (new_in (fun w2 g hb hblk => in_blk2 (K := 4) hblk ((h56).ext hb) ((h37).ext hb)))⟩
    · intro vs w' hE hp
      obtain ⟨g4_5, p4_5, q4_5⟩ : ∃ g, vs 4 = .slice (some ⟨g, 0, none⟩) 2 2 ∧ In 4 w' (some ⟨g, 0, none⟩) 2 2 [z56, z37] := (phi_iff ph4).1 (hp 4 rfl)
      simp only [Nat.reduceAdd, Act.put, List.setIfInBounds_toArray, List.set_cons_zero, List.set_cons_succ, p4_5]
      refine ifW_pos (by rfl) ?_
      refine wp_hideK (fun K' hK => ?_)
      go_wp2_with fail
      refine (wGcd q4_5).mono ?_
      rintro e w2 ⟨r146, o146, n146, c146, rfl, h146, hb⟩
      go_wp2_with fail
      exact ⟨rfl, hb, (phi_iff ph5).2 ⟨_, _, _, _, rfl, h146.mono (by decide)⟩⟩
    · intro vs w' hE hp
      have p1_6 : vs 1 = (.agg #[(.bool s2), (.slice a2 m75 c2)]) := (phi_iff ph1).1 (hp 1 rfl)
      obtain ⟨r5_6, o5_6, n5_6, c5_6, p5_6, q5_6⟩ : ∃ r o n c, vs 5 = .agg #[.bool r, .slice o n c] ∧ Zn 4 w' r o n c ((gcdL [z56, z37] : Nat) : Int) := (phi_iff ph5).1 (hp 5 rfl)
      simp only [Nat.reduceAdd, Act.put, List.setIfInBounds_toArray, List.set_cons_zero, List.set_cons_succ, p1_6, p5_6]
      refine ifW_pos (by rfl) ?_
      have h75 := h75.ext (trans_drew hE)
      refine wp_hideK (fun K' hK => ?_)
      go_wp2_with fail
      exact ⟨rfl, alloc_ext _ _, (phi_iff ph6).2 (new_in (fun w2 g hb hblk => in_blk2 (K := 4) hblk ((h75).ext hb) ((q5_6.any).ext hb)))⟩
    · intro vs w' hE hp
      obtain ⟨g6_7, p6_7, q6_7⟩ : ∃ g, vs 6 = .slice (some ⟨g, 0, none⟩) 2 2 ∧ In 4 w' (some ⟨g, 0, none⟩) 2 2 [z75, ((gcdL [z56, z37] : Nat) : Int)] := (phi_iff ph6).1 (hp 6 rfl)
      simp only [Nat.reduceAdd, Act.put, List.setIfInBounds_toArray, List.set_cons_zero, List.set_cons_succ, p6_7]
      refine ifW_pos (by rfl) ?_
      refine wp_hideK (fun K' hK => ?_)
      go_wp2_with fail
      refine (wGcd q6_7).mono ?_
      rintro e w2 ⟨r147, o147, n147, c147, rfl, h147, hb⟩
      go_wp2_with fail
      exact ⟨rfl, hb, (phi_iff ph7).2 ⟨_, _, _, _, rfl, h147.mono (by decide)⟩⟩
    · intro vs w' hE hp
      have p0_8 : vs 0 = (.agg #[(.bool r134), (.slice o134 n134 c134)]) := (phi_iff ph0).1 (hp 0 rfl)
      obtain ⟨r7_8, o7_8, n7_8, c7_8, p7_8, q7_8⟩ : ∃ r o n c, vs 7 = .agg #[.bool r, .slice o n c] ∧ Zn 4 w' r o n c ((gcdL [z75, ((gcdL [z56, z37] : Nat) : Int)] : Nat) : Int) := (phi_iff ph7).1 (hp 7 rfl)
      simp only [Nat.reduceAdd, Act.put, List.setIfInBounds_toArray, List.set_cons_zero, List.set_cons_succ, p0_8, p7_8]
      refine ifW_pos (by rfl) ?_
      have h134 := h134.ext (trans_drew hE)
      refine wp_hideK (fun K' hK => ?_)
      go_wp2_with fail
      refine (kSameInt h134 q7_8 (gs_1 _ _ _)).mono ?_
      rintro e w2 ⟨rfl, hb⟩
      go_wp2_with fail
      exact ⟨rfl, hb, (phi_iff ph8).2 rfl⟩
    · intro vs w' hE hp
      have p8_9 : vs 8 = (.bool true) := (phi_iff ph8).1 (hp 8 rfl)
      simp only [Nat.reduceAdd, Act.put, List.setIfInBounds_toArray, List.set_cons_zero, List.set_cons_succ, p8_9]
      refine ifW_pos (by rfl) ?_
      refine wp_hideK (fun K' hK => ?_)
      go_wp2_with fail
      exact ⟨rfl, Below.refl _ _, (phi_iff ph9).2 rfl⟩
    · intro vs w' hE hp
      have p9_10 : vs 9 = (.bool false) := (phi_iff ph9).1 (hp 9 rfl)
      simp only [Nat.reduceAdd, Act.put, List.setIfInBounds_toArray, List.set_cons_zero, List.set_cons_succ, p9_10]
      refine ifW_pos (by rfl) ?_
      refine wp_hideK (fun K' hK => ?_)
      go_wp2_with fail
      exact ⟨rfl, Below.refl _ _, (phi_iff ph10).2 rfl⟩
    · intro vs w' hE hp
      have p10_11 : vs 10 = (.bool false) := (phi_iff ph10).1 (hp 10 rfl)
      simp only [Nat.reduceAdd, Act.put, List.setIfInBounds_toArray, List.set_cons_zero, List.set_cons_succ, p10_11]
      refine ifW_pos (by rfl) ?_
      obtain ⟨a0, a1, a2, a3⟩ := cells2 (hb141.ext (trans_drew hE))
      refine wp_hideK (fun K' hK => ?_)
      go_wp2_with fail
      exact ⟨rfl, Below.refl _ _, (phi_iff ph11).2 rfl⟩
    · intro vs w' hE hp
      have p10_12 : vs 10 = (.bool false) := (phi_iff ph10).1 (hp 10 rfl)
      simp only [Nat.reduceAdd, Act.put, List.setIfInBounds_toArray, List.set_cons_zero, List.set_cons_succ, p10_12]
      refine ifW_pos (by rfl) ?_
      obtain ⟨a0, a1, a2, a3⟩ := cells2 (hb54.ext (trans_drew hE))
      refine wp_hideK (fun K' hK => ?_)
      go_wp2_with fail
      exact ⟨rfl, Below.refl _ _, (phi_iff ph12).2 rfl⟩
    · intro vs w' hE hp
      have p12_13 : vs 12 = (.agg #[(.bool s0), (.slice a0 m37 c0)]) := (phi_iff ph12).1 (hp 12 rfl)
      have p10_13 : vs 10 = (.bool false) := (phi_iff ph10).1 (hp 10 rfl)
      simp only [Nat.reduceAdd, Act.put, List.setIfInBounds_toArray, List.set_cons_zero, List.set_cons_succ, p12_13, p10_13]
      refine ifW_pos (by rfl) ?_
      have h37 := h37.ext (trans_drew hE)
      refine wp_hideK (fun K' hK => ?_)
      go_wp2_with fail
      refine (wNeg h37).mono ?_
      rintro e w2 ⟨r148, o148, n148, c148, rfl, h148, _, hb⟩
      go_wp2_with fail
      exact ⟨rfl, hb, (phi_iff ph13).2 ⟨_, _, _, _, rfl, h148.mono (by decide)⟩⟩
    · intro vs w' hE hp
      have p10_14 : vs 10 = (.bool false) := (phi_iff ph10).1 (hp 10 rfl)
      simp only [Nat.reduceAdd, Act.put, List.setIfInBounds_toArray, List.set_cons_zero, List.set_cons_succ, p10_14]
      refine ifW_pos (by rfl) ?_
      obtain ⟨a0, a1, a2, a3⟩ := cells2 (hb92.ext (trans_drew hE))
      refine wp_hideK (fun K' hK => ?_)
      go_wp2_with fail
      exact ⟨rfl, Below.refl _ _, (phi_iff ph14).2 rfl⟩
    · intro vs w' hE hp
      have p10_15 : vs 10 = (.bool false) := (phi_iff ph10).1 (hp 10 rfl)
      simp only [Nat.reduceAdd, Act.put, List.setIfInBounds_toArray, List.set_cons_zero, List.set_cons_succ, p10_15]
      refine ifW_pos (by rfl) ?_
      obtain ⟨a0, a1, a2, a3⟩ := cells2 (hb73.ext (trans_drew hE))
      refine wp_hideK (fun K' hK => ?_)
      go_wp2_with fail
      exact ⟨rfl, Below.refl _ _, (phi_iff ph15).2 rfl⟩
    · intro vs w' hE hp
      have p10_16 : vs 10 = (.bool false) := (phi_iff ph10).1 (hp 10 rfl)
      simp only [Nat.reduceAdd, Act.put, List.setIfInBounds_toArray, List.set_cons_zero, List.set_cons_succ, p10_16]
      refine ifW_pos (by rfl) ?_
      obtain ⟨a0, a1, a2, a3⟩ := cells2 (hb54.ext (trans_drew hE))
      refine wp_hideK (fun K' hK => ?_)
      go_wp2_with fail
      exact ⟨rfl, Below.refl _ _, (phi_iff ph16).2 rfl⟩
    · intro vs w' hE hp
      obtain ⟨r13_17, o13_17, n13_17, c13_17, p13_17, q13_17⟩ : ∃ r o n c, vs 13 = .agg #[.bool r, .slice o n c] ∧ Zn 4 w' r o n c (-z37) := (phi_iff ph13).1 (hp 13 rfl)
      have p14_17 : vs 14 = (.agg #[(.bool s2), (.slice a2 m75 c2)]) := (phi_iff ph14).1 (hp 14 rfl)
      have p15_17 : vs 15 = (.agg #[(.bool s1), (.slice a1 m56 c1)]) := (phi_iff ph15).1 (hp 15 rfl)
      have p16_17 : vs 16 = (.agg #[(.bool s0), (.slice a0 m37 c0)]) := (phi_iff ph16).1 (hp 16 rfl)
      have p10_17 : vs 10 = (.bool false) := (phi_iff ph10).1 (hp 10 rfl)
      simp only [Nat.reduceAdd, Act.put, List.setIfInBounds_toArray, List.set_cons_zero, List.set_cons_succ, p13_17, p14_17, p15_17, p16_17, p10_17]
      refine ifW_pos (by rfl) ?_
      have h75 := h75.ext (trans_drew hE)
      have h56 := h56.ext (trans_drew hE)
      have h37 := h37.ext (trans_drew hE)
      refine wp_hideK (fun K' hK => ?_)
      go_wp2_with fail
      exact ⟨rfl, alloc_ext _ _, (phi_iff ph17).2 (new_in (fun w2 g hb hblk => in_blk4 (K := 4) hblk ((q13_17.any).ext hb) ((h75).ext hb) ((h56).ext hb) ((h37).ext hb)))⟩
    · intro vs w' hE hp
      obtain ⟨g17_18, p17_18, q17_18⟩ : ∃ g, vs 17 = .slice (some ⟨g, 0, none⟩) 4 4 ∧ In 4 w' (some ⟨g, 0, none⟩) 4 4 [(-z37), z75, z56, z37] := (phi_iff ph17).1 (hp 17 rfl)
      have p10_18 : vs 10 = (.bool false) := (phi_iff ph10).1 (hp 10 rfl)
      simp only [Nat.reduceAdd, Act.put, List.setIfInBounds_toArray, List.set_cons_zero, List.set_cons_succ, p17_18, p10_18]
      refine ifW_pos (by rfl) ?_
      refine wp_hideK (fun K' hK => ?_)
      go_wp2_with fail
      refine (wGcd q17_18).mono ?_
      rintro e w2 ⟨r149, o149, n149, c149, rfl, h149, hb⟩
      go_wp2_with fail
      exact ⟨rfl, hb, (phi_iff ph18).2 ⟨_, _, _, _, rfl, h149.mono (by decide)⟩⟩
    · intro vs w' hE hp
      have p11_19 : vs 11 = (.agg #[(.bool r134), (.slice o134 n134 c134)]) := (phi_iff ph11).1 (hp 11 rfl)
      obtain ⟨r18_19, o18_19, n18_19, c18_19, p18_19, q18_19⟩ : ∃ r o n c, vs 18 = .agg #[.bool r, .slice o n c] ∧ Zn 4 w' r o n c ((gcdL [(-z37), z75, z56, z37] : Nat) : Int) := (phi_iff ph18).1 (hp 18 rfl)
      have p10_19 : vs 10 = (.bool false) := (phi_iff ph10).1 (hp 10 rfl)
      simp only [Nat.reduceAdd, Act.put, List.setIfInBounds_toArray, List.set_cons_zero, List.set_cons_succ, p11_19, p18_19, p10_19]
      refine ifW_pos (by rfl) ?_
      have h134 := h134.ext (trans_drew hE)
      refine wp_hideK (fun K' hK => ?_)
      go_wp2_with fail
      refine (kSameInt h134 q18_19 (gs_2 _ _ _)).mono ?_
      rintro e w2 ⟨rfl, hb⟩
      go_wp2_with fail
      exact ⟨rfl, hb, (phi_iff ph19).2 rfl⟩
    · intro vs w' hE hp
      have p19_20 : vs 19 = (.bool true) := (phi_iff ph19).1 (hp 19 rfl)
      have p10_20 : vs 10 = (.bool false) := (phi_iff ph10).1 (hp 10 rfl)
      simp only [Nat.reduceAdd, Act.put, List.setIfInBounds_toArray, List.set_cons_zero, List.set_cons_succ, p19_20, p10_20]
      refine ifW_pos (by rfl) ?_
      refine wp_hideK (fun K' hK => ?_)
      go_wp2_with fail
      exact ⟨rfl, Below.refl _ _, (phi_iff ph20).2 rfl⟩
    · intro vs w' hE hp
      have p10_21 : vs 10 = (.bool false) := (phi_iff ph10).1 (hp 10 rfl)
      have p20_21 : vs 20 = (.bool false) := (phi_iff ph20).1 (hp 20 rfl)
      simp only [Nat.reduceAdd, Act.put, List.setIfInBounds_toArray, List.set_cons_zero, List.set_cons_succ, p10_21, p20_21]
      refine ifW_pos (by rfl) ?_
      refine wp_hideK (fun K' hK => ?_)
      go_wp2_with fail
      exact ⟨rfl, Below.refl _ _, (phi_iff ph21).2 rfl⟩
    · intro vs w' hE hp
      have p21_22 : vs 21 = (.bool false) := (phi_iff ph21).1 (hp 21 rfl)
      simp only [Nat.reduceAdd, Act.put, List.setIfInBounds_toArray, List.set_cons_zero, List.set_cons_succ, p21_22]
      refine ifW_pos (by rfl) ?_
      refine wp_hideK (fun K' hK => ?_)
      go_wp2_with fail
      exact ⟨rfl, Below.refl _ _, (phi_iff ph22).2 rfl⟩
    · intro vs w' hE hp
      have p22_23 : vs 22 = (.bool false) := (phi_iff ph22).1 (hp 22 rfl)
      simp only [Nat.reduceAdd, Act.put, List.setIfInBounds_toArray, List.set_cons_zero, List.set_cons_succ, p22_23]
      refine ifW_pos (by rfl) ?_
      obtain ⟨a0, a1, a2, a3⟩ := cells2 (hb54.ext (trans_drew hE))
      refine wp_hideK (fun K' hK => ?_)
      go_wp2_with fail
      exact ⟨rfl, Below.refl _ _, (phi_iff ph23).2 rfl⟩
    · intro vs w' hE hp
      have p23_24 : vs 23 = (.agg #[(.bool s0), (.slice a0 m37 c0)]) := (phi_iff ph23).1 (hp 23 rfl)
      have p22_24 : vs 22 = (.bool false) := (phi_iff ph22).1 (hp 22 rfl)
      simp only [Nat.reduceAdd, Act.put, List.setIfInBounds_toArray, List.set_cons_zero, List.set_cons_succ, p23_24, p22_24]
      refine ifW_pos (by rfl) ?_
      have h37 := h37.ext (trans_drew hE)
      refine wp_hideK (fun K' hK => ?_)
      go_wp2_with fail
      exact ⟨rfl, alloc_ext _ _, (phi_iff ph24).2 (new_in (fun w2 g hb hblk => in_blk1 (K := 4) hblk ((h37).ext hb)))⟩
    · intro vs w' hE hp
      obtain ⟨g24_25, p24_25, q24_25⟩ : ∃ g, vs 24 = .slice (some ⟨g, 0, none⟩) 1 1 ∧ In 4 w' (some ⟨g, 0, none⟩) 1 1 [z37] := (phi_iff ph24).1 (hp 24 rfl)
      have p22_25 : vs 22 = (.bool false) := (phi_iff ph22).1 (hp 22 rfl)
      simp only [Nat.reduceAdd, Act.put, List.setIfInBounds_toArray, List.set_cons_zero, List.set_cons_succ, p24_25, p22_25]
      refine ifW_pos (by rfl) ?_
      refine wp_hideK (fun K' hK => ?_)
      go_wp2_with fail
      refine (wGcd q24_25).mono ?_
      rintro e w2 ⟨r150, o150, n150, c150, rfl, h150, hb⟩
      go_wp2_with fail
      exact ⟨rfl, hb, (phi_iff ph25).2 ⟨_, _, _, _, rfl, h150.mono (by decide)⟩⟩
    · intro vs w' hE hp
      have p22_26 : vs 22 = (.bool false) := (phi_iff ph22).1 (hp 22 rfl)
      simp only [Nat.reduceAdd, Act.put, List.setIfInBounds_toArray, List.set_cons_zero, List.set_cons_succ, p22_26]
      refine ifW_pos (by rfl) ?_
      obtain ⟨a0, a1, a2, a3⟩ := cells2 (hb54.ext (trans_drew hE))
      refine wp_hideK (fun K' hK => ?_)
      go_wp2_with fail
      exact ⟨rfl, Below.refl _ _, (phi_iff ph26).2 rfl⟩
    · intro vs w' hE hp
      have p26_27 : vs 26 = (.agg #[(.bool s0), (.slice a0 m37 c0)]) := (phi_iff ph26).1 (hp 26 rfl)
      have p22_27 : vs 22 = (.bool false) := (phi_iff ph22).1 (hp 22 rfl)
      simp only [Nat.reduceAdd, Act.put, List.setIfInBounds_toArray, List.set_cons_zero, List.set_cons_succ, p26_27, p22_27]
      refine ifW_pos (by rfl) ?_
      have h37 := h37.ext (trans_drew hE)
      refine wp_hideK (fun K' hK => ?_)
      go_wp2_with fail
      refine (wAbs h37).mono ?_
      rintro e w2 ⟨r151, o151, n151, c151, rfl, h151, _, hb⟩
      go_wp2_with fail
      exact ⟨rfl, hb, (phi_iff ph27).2 ⟨_, _, _, _, rfl, h151.mono (by decide)⟩⟩
    · intro vs w' hE hp
      obtain ⟨r25_28, o25_28, n25_28, c25_28, p25_28, q25_28⟩ : ∃ r o n c, vs 25 = .agg #[.bool r, .slice o n c] ∧ Zn 4 w' r o n c ((gcdL [z37] : Nat) : Int) := (phi_iff ph25).1 (hp 25 rfl)
      obtain ⟨r27_28, o27_28, n27_28, c27_28, p27_28, q27_28⟩ : ∃ r o n c, vs 27 = .agg #[.bool r, .slice o n c] ∧ Zn 4 w' r o n c (Int.natAbs z37 : Int) := (phi_iff ph27).1 (hp 27 rfl)
      have p22_28 : vs 22 = (.bool false) := (phi_iff ph22).1 (hp 22 rfl)
      simp only [Nat.reduceAdd, Act.put, List.setIfInBounds_toArray, List.set_cons_zero, List.set_cons_succ, p25_28, p27_28, p22_28]
      refine ifW_pos (by rfl) ?_
      refine wp_hideK (fun K' hK => ?_)
      go_wp2_with fail
      refine (kSameInt q25_28 q27_28 (gs_3 _)).mono ?_
      rintro e w2 ⟨rfl, hb⟩
      go_wp2_with fail
      exact ⟨rfl, hb, (phi_iff ph28).2 rfl⟩
    · intro vs w' hE hp
      have p28_29 : vs 28 = (.bool true) := (phi_iff ph28).1 (hp 28 rfl)
      have p22_29 : vs 22 = (.bool false) := (phi_iff ph22).1 (hp 22 rfl)
      simp only [Nat.reduceAdd, Act.put, List.setIfInBounds_toArray, List.set_cons_zero, List.set_cons_succ, p28_29, p22_29]
      refine ifW_pos (by rfl) ?_
      refine wp_hideK (fun K' hK => ?_)
      go_wp2_with fail
      exact ⟨rfl, Below.refl _ _, (phi_iff ph29).2 rfl⟩
    · intro vs w' hE hp
      have p22_30 : vs 22 = (.bool false) := (phi_iff ph22).1 (hp 22 rfl)
      have p29_30 : vs 29 = (.bool false) := (phi_iff ph29).1 (hp 29 rfl)
      simp only [Nat.reduceAdd, Act.put, List.setIfInBounds_toArray, List.set_cons_zero, List.set_cons_succ, p22_30, p29_30]
      refine ifW_pos (by rfl) ?_
      refine wp_hideK (fun K' hK => ?_)
      go_wp2_with fail
      exact ⟨rfl, Below.refl _ _, (phi_iff ph30).2 rfl⟩
  · intro vs w152 hE hphi
    have p30e : vs 30 = (.bool false) := (phi_iff ph30).1 (hphi 30 (by decide))
    replace h0 := h0.ext (trans_drew hE)
    replace h1 := h1.ext (trans_drew hE)
    replace h2 := h2.ext (trans_drew hE)
    replace h3 := h3.ext (trans_drew hE)
    replace h37 := h37.ext (trans_drew hE)
    replace k37 := k37.ext (trans_drew hE)
    replace h56 := h56.ext (trans_drew hE)
    replace k56 := k56.ext (trans_drew hE)
    replace h75 := h75.ext (trans_drew hE)
    replace k75 := k75.ext (trans_drew hE)
    replace h94 := h94.ext (trans_drew hE)
    replace k94 := k94.ext (trans_drew hE)
    replace h134 := h134.ext (trans_drew hE)
    replace hb54 := hb54.ext (trans_drew hE)
    replace hb73 := hb73.ext (trans_drew hE)
    replace hb92 := hb92.ext (trans_drew hE)
    replace hb123 := hb123.ext (trans_drew hE)
    replace hb129 := hb129.ext (trans_drew hE)
    replace hb141 := hb141.ext (trans_drew hE)
    replace hB := ext_trans hB (trans_drew hE)
    clear hphi hE ph0 ph1 ph2 ph3 ph4 ph5 ph6 ph7 ph8 ph9 ph10 ph11 ph12 ph13 ph14 ph15 ph16 ph17 ph18 ph19 ph20 ph21 ph22 ph23 ph24 ph25 ph26 ph27 ph28 ph29 ph30
    simp only [putsR, List.take_succ_cons, List.take_zero, List.drop_succ_cons, List.drop_zero, List.drop_nil, Nat.reduceAdd, Act.put, List.setIfInBounds_toArray, List.set_cons_zero, List.set_cons_succ, p30e]
    clear p30e
    go_wp2_with fail
    obtain ⟨Φs, hΦ⟩ : ∃ Φ : List PV, Φ = [PV.eq (.agg #[(.bool s0), (.slice a0 m37 c0)]), PV.eq (.agg #[(.bool s3), (.slice a3 m94 c3)]), PV.zn 7 (z37 * z94), PV.eq (.agg #[(.bool s1), (.slice a1 m56 c1)]), PV.eq (.agg #[(.bool s3), (.slice a3 m94 c3)]), PV.zn 7 (z56 * z94), PV.eq (.agg #[(.bool s2), (.slice a2 m75 c2)]), PV.eq (.agg #[(.bool s3), (.slice a3 m94 c3)]), PV.zn 7 (z75 * z94), PV.inn 7 3 [(z37 * z94), (z56 * z94), (z75 * z94)], PV.zn 7 ((gcdL [(z37 * z94), (z56 * z94), (z75 * z94)] : Nat) : Int), PV.eq (.agg #[(.bool r134), (.slice o134 n134 c134)]), PV.eq (.agg #[(.bool s3), (.slice a3 m94 c3)]), PV.zn 3 (Int.natAbs z94 : Int), PV.zn 7 (((gcdL [z37, z56, z75] : Nat) : Int) * (Int.natAbs z94 : Int)), PV.eq (.bool true), PV.eq (.bool true), PV.eq (.agg #[(.bool s0), (.slice a0 m37 c0)]), PV.eq (.agg #[(.bool s1), (.slice a1 m56 c1)]), PV.eq (.agg #[(.bool s3), (.slice a3 m94 c3)]), PV.zn 7 (z56 * z94), PV.zn 8 (z37 + (z56 * z94)), PV.eq (.agg #[(.bool s1), (.slice a1 m56 c1)]), PV.inn 8 2 [(z37 + (z56 * z94)), z56], PV.zn 8 ((gcdL [(z37 + (z56 * z94)), z56] : Nat) : Int), PV.eq (.agg #[(.bool s0), (.slice a0 m37 c0)]), PV.eq (.agg #[(.bool s1), (.slice a1 m56 c1)]), PV.inn 4 2 [z37, z56], PV.zn 4 ((gcdL [z37, z56] : Nat) : Int), PV.eq (.bool true), PV.eq (.bool true), PV.eq (.bool true), PV.eq (.bool true), PV.eq (.bool true), PV.eq (.bool true)] := ⟨_, rfl⟩
    have ph0 : Φs[0]? = some (PV.eq (.agg #[(.bool s0), (.slice a0 m37 c0)])) := by rw [hΦ]; rfl
    have ph1 : Φs[1]? = some (PV.eq (.agg #[(.bool s3), (.slice a3 m94 c3)])) := by rw [hΦ]; rfl
    have ph2 : Φs[2]? = some (PV.zn 7 (z37 * z94)) := by rw [hΦ]; rfl
    have ph3 : Φs[3]? = some (PV.eq (.agg #[(.bool s1), (.slice a1 m56 c1)])) := by rw [hΦ]; rfl
    have ph4 : Φs[4]? = some (PV.eq (.agg #[(.bool s3), (.slice a3 m94 c3)])) := by rw [hΦ]; rfl
    have ph5 : Φs[5]? = some (PV.zn 7 (z56 * z94)) := by rw [hΦ]; rfl
    have ph6 : Φs[6]? = some (PV.eq (.agg #[(.bool s2), (.slice a2 m75 c2)])) := by rw [hΦ]; rfl
    have ph7 : Φs[7]? = some (PV.eq (.agg #[(.bool s3), (.slice a3 m94 c3)])) := by rw [hΦ]; rfl
    have ph8 : Φs[8]? = some (PV.zn 7 (z75 * z94)) := by rw [hΦ]; rfl
    have ph9 : Φs[9]? = some (PV.inn 7 3 [(z37 * z94), (z56 * z94), (z75 * z94)]) := by rw [hΦ]; rfl
    have ph10 : Φs[10]? = some (PV.zn 7 ((gcdL [(z37 * z94), (z56 * z94), (z75 * z94)] : Nat) : Int)) := by rw [hΦ]; rfl
    have ph11 : Φs[11]? = some (PV.eq (.agg #[(.bool r134), (.slice o134 n134 c134)])) := by rw [hΦ]; rfl
    have ph12 : Φs[12]? = some (PV.eq (.agg #[(.bool s3), (.slice a3 m94 c3)])) := by rw [hΦ]; rfl
    have ph13 : Φs[13]? = some (PV.zn 3 (Int.natAbs z94 : Int)) := by rw [hΦ]; rfl
    have ph14 : Φs[14]? = some (PV.zn 7 (((gcdL [z37, z56, z75] : Nat) : Int) * (Int.natAbs z94 : Int))) := by rw [hΦ]; rfl
    have ph15 : Φs[15]? = some (PV.eq (.bool true)) := by rw [hΦ]; rfl
    have ph16 : Φs[16]? = some (PV.eq (.bool true)) := by rw [hΦ]; rfl
    have ph17 : Φs[17]? = some (PV.eq (.agg #[(.bool s0), (.slice a0 m37 c0)])) := by rw [hΦ]; rfl
    have ph18 : Φs[18]? = some (PV.eq (.agg #[(.bool s1), (.slice a1 m56 c1)])) := by rw [hΦ]; rfl
    have ph19 : Φs[19]? = some (PV.eq (.agg #[(.bool s3), (.slice a3 m94 c3)])) := by rw [hΦ]; rfl
    have ph20 : Φs[20]? = some (PV.zn 7 (z56 * z94)) := by rw [hΦ]; rfl
    have ph21 : Φs[21]? = some (PV.zn 8 (z37 + (z56 * z94))) := by rw [hΦ]; rfl
    have ph22 : Φs[22]? = some (PV.eq (.agg #[(.bool s1), (.slice a1 m56 c1)])) := by rw [hΦ]; rfl
    have ph23 : Φs[23]? = some (PV.inn 8 2 [(z37 + (z56 * z94)), z56]) := by rw [hΦ]; rfl
    have ph24 : Φs[24]? = some (PV.zn 8 ((gcdL [(z37 + (z56 * z94)), z56] : Nat) : Int)) := by rw [hΦ]; rfl
    have ph25 : Φs[25]? = some (PV.eq (.agg #[(.bool s0), (.slice a0 m37 c0)])) := by rw [hΦ]; rfl
    have ph26 : Φs[26]? = some (PV.eq (.agg #[(.bool s1), (.slice a1 m56 c1)])) := by rw [hΦ]; rfl
    have ph27 : Φs[27]? = some (PV.inn 4 2 [z37, z56]) := by rw [hΦ]; rfl
    have ph28 : Φs[28]? = some (PV.zn 4 ((gcdL [z37, z56] : Nat) : Int)) := by rw [hΦ]; rfl
    have ph29 : Φs[29]? = some (PV.eq (.bool true)) := by rw [hΦ]; rfl
    have ph30 : Φs[30]? = some (PV.eq (.bool true)) := by rw [hΦ]; rfl
    have ph31 : Φs[31]? = some (PV.eq (.bool true)) := by rw [hΦ]; rfl
    have ph32 : Φs[32]? = some (PV.eq (.bool true)) := by rw [hΦ]; rfl
    have ph33 : Φs[33]? = some (PV.eq (.bool true)) := by rw [hΦ]; rfl
    have ph34 : Φs[34]? = some (PV.eq (.bool true)) := by rw [hΦ]; rfl
    clear hΦ
    refine wp_region_rel 35 100 Φs (by kernel_rfl) rfl rfl (by kernel_rfl) ?_ ?_
    · simp only [List.take_succ_cons, List.take_zero, stepsR]
      refine ⟨?_, ?_, ?_, ?_, ?_, ?_, ?_, ?_, ?_, ?_, ?_, ?_, ?_, ?_, ?_, ?_, ?_, ?_, ?_, ?_, ?_, ?_, ?_, ?_, ?_, ?_, ?_, ?_, ?_, ?_, ?_, ?_, ?_, ?_, ?_, trivial⟩
      · intro vs w' hE hp
        simp only [Nat.reduceAdd, Act.put, List.setIfInBounds_toArray, List.set_cons_zero, List.set_cons_succ]
        refine ifW_pos (by rfl) ?_
        obtain ⟨a0, a1, a2, a3⟩ := cells2 (hb54.ext (trans_drew hE))
        refine wp_hideK (fun K' hK => ?_)
        go_wp2_with fail
        exact ⟨rfl, Below.refl _ _, (phi_iff ph0).2 rfl⟩
      · intro vs w' hE hp
        simp only [Nat.reduceAdd, Act.put, List.setIfInBounds_toArray, List.set_cons_zero, List.set_cons_succ]
        refine ifW_pos (by rfl) ?_
        obtain ⟨a0, a1, a2, a3⟩ := cells2 (hb123.ext (trans_drew hE))
        refine wp_hideK (fun K' hK => ?_)
        go_wp2_with fail
        exact ⟨rfl, Below.refl _ _, (phi_iff ph1).2 rfl⟩
      · intro vs w' hE hp
        have p0_2 : vs 0 = (.agg #[(.bool s0), (.slice a0 m37 c0)]) := (phi_iff ph0).1 (hp 0 rfl)
        have p1_2 : vs 1 = (.agg #[(.bool s3), (.slice a3 m94 c3)]) := (phi_iff ph1).1 (hp 1 rfl)
        simp only [Nat.reduceAdd, Act.put, List.setIfInBounds_toArray, List.set_cons_zero, List.set_cons_succ, p0_2, p1_2]
        refine ifW_pos (by rfl) ?_
        have h37 := h37.ext (trans_drew hE)
        have h94 := h94.ext (trans_drew hE)
        refine wp_hideK (fun K' hK => ?_)
        go_wp2_with fail
        refine (wMul h37 h94).mono ?_
        rintro e w2 ⟨r153, o153, n153, c153, rfl, h153, _, hb⟩
        go_wp2_with fail
        exact ⟨rfl, hb, (phi_iff ph2).2 ⟨_, _, _, _, rfl, h153.mono (by decide)⟩⟩
      · intro vs w' hE hp
        simp only [Nat.reduceAdd, Act.put, List.setIfInBounds_toArray, List.set_cons_zero, List.set_cons_succ]
        refine ifW_pos (by rfl) ?_
        obtain ⟨a0, a1, a2, a3⟩ := cells2 (hb73.ext (trans_drew hE))
        refine wp_hideK (fun K' hK => ?_)
        go_wp2_with fail
        exact ⟨rfl, Below.refl _ _, (phi_iff ph3).2 rfl⟩
      · intro vs w' hE hp
        simp only [Nat.reduceAdd, Act.put, List.setIfInBounds_toArray, List.set_cons_zero, List.set_cons_succ]
        refine ifW_pos (by rfl) ?_
        obtain ⟨a0, a1, a2, a3⟩ := cells2 (hb123.ext (trans_drew hE))
        refine wp_hideK (fun K' hK => ?_)
        go_wp2_with fail
        exact ⟨rfl, Below.refl _ _, (phi_iff ph4).2 rfl⟩
      · intro vs w' hE hp
        have p3_5 : vs 3 = (.agg #[(.bool s1), (.slice a1 m56 c1)]) := (phi_iff ph3).1 (hp 3 rfl)
        have p4_5 : vs 4 = (.agg #[(.bool s3), (.slice a3 m94 c3)]) := (phi_iff ph4).1 (hp 4 rfl)
        simp only [Nat.reduceAdd, Act.put, List.setIfInBounds_toArray, List.set_cons_zero, List.set_cons_succ, p3_5, p4_5]
        refine ifW_pos (by rfl) ?_
        have h56 := h56.ext (trans_drew hE)
        have h94 := h94.ext (trans_drew hE)
        refine wp_hideK (fun K' hK => ?_)
        go_wp2_with fail
        refine (wMul h56 h94).mono ?_
        rintro e w2 ⟨r154, o154, n154, c154, rfl, h154, _, hb⟩
        go_wp2_with fail
        exact ⟨rfl, hb, (phi_iff ph5).2 ⟨_, _, _, _, rfl, h154.mono (by decide)⟩⟩
      · intro vs w' hE hp
        simp only [Nat.reduceAdd, Act.put, List.setIfInBounds_toArray, List.set_cons_zero, List.set_cons_succ]
        refine ifW_pos (by rfl) ?_
        obtain ⟨a0, a1, a2, a3⟩ := cells2 (hb92.ext (trans_drew hE))
        refine wp_hideK (fun K' hK => ?_)
        go_wp2_with fail
        exact ⟨rfl, Below.refl _ _, (phi_iff ph6).2 rfl⟩
      · intro vs w' hE hp
        simp only [Nat.reduceAdd, Act.put, List.setIfInBounds_toArray, List.set_cons_zero, List.set_cons_succ]
        refine ifW_pos (by rfl) ?_
        obtain ⟨a0, a1, a2, a3⟩ := cells2 (hb123.ext (trans_drew hE))
        refine wp_hideK (fun K' hK => ?_)
        go_wp2_with fail
        exact ⟨rfl, Below.refl _ _, (phi_iff ph7).2 rfl⟩
      · intro vs w' hE hp
        have p6_8 : vs 6 = (.agg #[(.bool s2), (.slice a2 m75 c2)]) := (phi_iff ph6).1 (hp 6 rfl)
        have p7_8 : vs 7 = (.agg #[(.bool s3), (.slice a3 m94 c3)]) := (phi_iff ph7).1 (hp 7 rfl)
        simp only [Nat.reduceAdd, Act.put, List.setIfInBounds_toArray, List.set_cons_zero, List.set_cons_succ, p6_8, p7_8]
        refine ifW_pos (by rfl) ?_
        have h75 := h75.ext (trans_drew hE)
        have h94 := h94.ext (trans_drew hE)
        refine wp_hideK (fun K' hK => ?_)
        go_wp2_with fail
        refine (wMul h75 h94).mono ?_
        rintro e w2 ⟨r155, o155, n155, c155, rfl, h155, _, hb⟩
        go_wp2_with fail
        exact ⟨rfl, hb, (phi_iff ph8).2 ⟨_, _, _, _, rfl, h155.mono (by decide)⟩⟩
      · intro vs w' hE hp
        obtain ⟨r2_9, o2_9, n2_9, c2_9, p2_9, q2_9⟩ : ∃ r o n c, vs 2 = .agg #[.bool r, .slice o n c] ∧ Zn 7 w' r o n c (z37 * z94) := (phi_iff ph2).1 (hp 2 rfl)
        obtain ⟨r5_9, o5_9, n5_9, c5_9, p5_9, q5_9⟩ : ∃ r o n c, vs 5 = .agg #[.bool r, .slice o n c] ∧ Zn 7 w' r o n c (z56 * z94) := (phi_iff ph5).1 (hp 5 rfl)
        obtain ⟨r8_9, o8_9, n8_9, c8_9, p8_9, q8_9⟩ : ∃ r o n c, vs 8 = .agg #[.bool r, .slice o n c] ∧ Zn 7 w' r o n c (z75 * z94) := (phi_iff ph8).1 (hp 8 rfl)
        simp only [Nat.reduceAdd, Act.put, List.setIfInBounds_toArray, List.set_cons_zero, List.set_cons_succ, p2_9, p5_9, p8_9]
        refine ifW_pos (by rfl) ?_
        refine wp_hideK (fun K' hK => ?_)
        go_wp2_with fail
        exact ⟨rfl, alloc_ext _ _, (phi_iff ph9).2 (new_in (fun w2 g hb hblk => in_blk3 (K := 7) hblk ((q2_9.any).ext hb) ((q5_9.any).ext hb) ((q8_9.any).ext hb)))⟩
      · intro vs w' hE hp
        obtain ⟨g9_10, p9_10, q9_10⟩ : ∃ g, vs 9 = .slice (some ⟨g, 0, none⟩) 3 3 ∧ In 7 w' (some ⟨g, 0, none⟩) 3 3 [(z37 * z94), (z56 * z94), (z75 * z94)] := (phi_iff ph9).1 (hp 9 rfl)
        simp only [Nat.reduceAdd, Act.put, List.setIfInBounds_toArray, List.set_cons_zero, List.set_cons_succ, p9_10]
        refine ifW_pos (by rfl) ?_
        refine wp_hideK (fun K' hK => ?_)
        go_wp2_with fail
        refine (wGcd q9_10).mono ?_
        rintro e w2 ⟨r156, o156, n156, c156, rfl, h156, hb⟩
        go_wp2_with fail
        exact ⟨rfl, hb, (phi_iff ph10).2 ⟨_, _, _, _, rfl, h156.mono (by decide)⟩⟩
      · intro vs w' hE hp
        simp only [Nat.reduceAdd, Act.put, List.setIfInBounds_toArray, List.set_cons_zero, List.set_cons_succ]
        refine ifW_pos (by rfl) ?_
        obtain ⟨a0, a1, a2, a3⟩ := cells2 (hb141.ext (trans_drew hE))
        refine wp_hideK (fun K' hK => ?_)
        go_wp2_with fail
        exact ⟨rfl, Below.refl _ _, (phi_iff ph11).2 rfl⟩
      · intro vs w' hE hp
        simp only [Nat.reduceAdd, Act.put, List.setIfInBounds_toArray, List.set_cons_zero, List.set_cons_succ]
        refine ifW_pos (by rfl) ?_
        obtain ⟨a0, a1, a2, a3⟩ := cells2 (hb123.ext (trans_drew hE))
        refine wp_hideK (fun K' hK => ?_)
        go_wp2_with fail
        exact ⟨rfl, Below.refl _ _, (phi_iff ph12).2 rfl⟩
      · intro vs w' hE hp
        have p12_13 : vs 12 = (.agg #[(.bool s3), (.slice a3 m94 c3)]) := (phi_iff ph12).1 (hp 12 rfl)
        simp only [Nat.reduceAdd, Act.put, List.setIfInBounds_toArray, List.set_cons_zero, List.set_cons_succ, p12_13]
        refine ifW_pos (by rfl) ?_
        have h94 := h94.ext (trans_drew hE)
        refine wp_hideK (fun K' hK => ?_)
        go_wp2_with fail
        refine (wAbs h94).mono ?_
        rintro e w2 ⟨r157, o157, n157, c157, rfl, h157, _, hb⟩
        go_wp2_with fail
        exact ⟨rfl, hb, (phi_iff ph13).2 ⟨_, _, _, _, rfl, h157.mono (by decide)⟩⟩
      · intro vs w' hE hp
        have p11_14 : vs 11 = (.agg #[(.bool r134), (.slice o134 n134 c134)]) := (phi_iff ph11).1 (hp 11 rfl)
        obtain ⟨r13_14, o13_14, n13_14, c13_14, p13_14, q13_14⟩ : ∃ r o n c, vs 13 = .agg #[.bool r, .slice o n c] ∧ Zn 3 w' r o n c (Int.natAbs z94 : Int) := (phi_iff ph13).1 (hp 13 rfl)
        simp only [Nat.reduceAdd, Act.put, List.setIfInBounds_toArray, List.set_cons_zero, List.set_cons_succ, p11_14, p13_14]
        refine ifW_pos (by rfl) ?_
        have h134 := h134.ext (trans_drew hE)
        refine wp_hideK (fun K' hK => ?_)
        go_wp2_with fail
        refine (wMul h134.any q13_14.any).mono ?_
        rintro e w2 ⟨r158, o158, n158, c158, rfl, h158, _, hb⟩
        go_wp2_with fail
        exact ⟨rfl, hb, (phi_iff ph14).2 ⟨_, _, _, _, rfl, h158.mono (by decide)⟩⟩
      · intro vs w' hE hp
        obtain ⟨r10_15, o10_15, n10_15, c10_15, p10_15, q10_15⟩ : ∃ r o n c, vs 10 = .agg #[.bool r, .slice o n c] ∧ Zn 7 w' r o n c ((gcdL [(z37 * z94), (z56 * z94), (z75 * z94)] : Nat) : Int) := (phi_iff ph10).1 (hp 10 rfl)
        obtain ⟨r14_15, o14_15, n14_15, c14_15, p14_15, q14_15⟩ : ∃ r o n c, vs 14 = .agg #[.bool r, .slice o n c] ∧ Zn 7 w' r o n c (((gcdL [z37, z56, z75] : Nat) : Int) * (Int.natAbs z94 : Int)) := (phi_iff ph14).1 (hp 14 rfl)
        simp only [Nat.reduceAdd, Act.put, List.setIfInBounds_toArray, List.set_cons_zero, List.set_cons_succ, p10_15, p14_15]
        refine ifW_pos (by rfl) ?_
        refine wp_hideK (fun K' hK => ?_)
        go_wp2_with fail
        refine (kSameInt q10_15 q14_15 (gs_4 _ _ _ _)).mono ?_
        rintro e w2 ⟨rfl, hb⟩
        go_wp2_with fail
        exact ⟨rfl, hb, (phi_iff ph15).2 rfl⟩
      · intro vs w' hE hp
        have p15_16 : vs 15 = (.bool true) := (phi_iff ph15).1 (hp 15 rfl)
        simp only [Nat.reduceAdd, Act.put, List.setIfInBounds_toArray, List.set_cons_zero, List.set_cons_succ, p15_16]
        refine ifW_pos (by rfl) ?_
        refine wp_hideK (fun K' hK => ?_)
        go_wp2_with fail
        exact ⟨rfl, Below.refl _ _, (phi_iff ph16).2 rfl⟩
      · intro vs w' hE hp
        have p16_17 : vs 16 = (.bool true) := (phi_iff ph16).1 (hp 16 rfl)
        simp only [Nat.reduceAdd, Act.put, List.setIfInBounds_toArray, List.set_cons_zero, List.set_cons_succ, p16_17]
        refine ifW_pos (by rfl) ?_
        obtain ⟨a0, a1, a2, a3⟩ := cells2 (hb54.ext (trans_drew hE))
        refine wp_hideK (fun K' hK => ?_)
        go_wp2_with fail
        exact ⟨rfl, Below.refl _ _, (phi_iff ph17).2 rfl⟩
      · intro vs w' hE hp
        have p16_18 : vs 16 = (.bool true) := (phi_iff ph16).1 (hp 16 rfl)
        simp only [Nat.reduceAdd, Act.put, List.setIfInBounds_toArray, List.set_cons_zero, List.set_cons_succ, p16_18]
        refine ifW_pos (by rfl) ?_
        obtain ⟨a0, a1, a2, a3⟩ := cells2 (hb73.ext (trans_drew hE))
        refine wp_hideK (fun K' hK => ?_)
        go_wp2_with fail
        exact ⟨rfl, Below.refl _ _, (phi_iff ph18).2 rfl⟩
      · intro vs w' hE hp
        have p16_19 : vs 16 = (.bool true) := (phi_iff ph16).1 (hp 16 rfl)
        simp only [Nat.reduceAdd, Act.put, List.setIfInBounds_toArray, List.set_cons_zero, List.set_cons_succ, p16_19]
        refine ifW_pos (by rfl) ?_
        obtain ⟨a0, a1, a2, a3⟩ := cells2 (hb123.ext (trans_drew hE))
        refine wp_hideK (fun K' hK => ?_)
        go_wp2_with fail
        exact ⟨rfl, Below.refl _ _, (phi_iff ph19).2 rfl⟩
      · intro vs w' hE hp
        have p18_20 : vs 18 = (.agg #[(.bool s1), (.slice a1 m56 c1)]) := (phi_iff ph18).1 (hp 18 rfl)
        have p19_20 : vs 19 = (.agg #[(.bool s3), (.slice a3 m94 c3)]) := (phi_iff ph19).1 (hp 19 rfl)
        have p16_20 : vs 16 = (.bool true) := (phi_iff ph16).1 (hp 16 rfl)
        simp only [Nat.reduceAdd, Act.put, List.setIfInBounds_toArray, List.set_cons_zero, List.set_cons_succ, p18_20, p19_20, p16_20]
        refine ifW_pos (by rfl) ?_
        have h56 := h56.ext (trans_drew hE)
        have h94 := h94.ext (trans_drew hE)
        refine wp_hideK (fun K' hK => ?_)
        go_wp2_with fail
        refine (wMul h56 h94).mono ?_
        rintro e w2 ⟨r159, o159, n159, c159, rfl, h159, _, hb⟩
        go_wp2_with fail
        exact ⟨rfl, hb, (phi_iff ph20).2 ⟨_, _, _, _, rfl, h159.mono (by decide)⟩⟩
      · intro vs w' hE hp
        have p17_21 : vs 17 = (.agg #[(.bool s0), (.slice a0 m37 c0)]) := (phi_iff ph17).1 (hp 17 rfl)
        obtain ⟨r20_21, o20_21, n20_21, c20_21, p20_21, q20_21⟩ : ∃ r o n c, vs 20 = .agg #[.bool r, .slice o n c] ∧ Zn 7 w' r o n c (z56 * z94) := (phi_iff ph20).1 (hp 20 rfl)
        have p16_21 : vs 16 = (.bool true) := (phi_iff ph16).1 (hp 16 rfl)
        simp only [Nat.reduceAdd, Act.put, List.setIfInBounds_toArray, List.set_cons_zero, List.set_cons_succ, p17_21, p20_21, p16_21]
        refine ifW_pos (by rfl) ?_
        have h37 := h37.ext (trans_drew hE)
        refine wp_hideK (fun K' hK => ?_)
        go_wp2_with fail
        refine (wAdd h37 q20_21.any).mono ?_
        rintro e w2 ⟨r160, o160, n160, c160, rfl, h160, _, hb⟩
        go_wp2_with fail
        exact ⟨rfl, hb, (phi_iff ph21).2 ⟨_, _, _, _, rfl, h160.mono (by decide)⟩⟩
      · intro vs w' hE hp
        have p16_22 : vs 16 = (.bool true) := (phi_iff ph16).1 (hp 16 rfl)
        simp only [Nat.reduceAdd, Act.put, List.setIfInBounds_toArray, List.set_cons_zero, List.set_cons_succ, p16_22]
        refine ifW_pos (by rfl) ?_
        obtain ⟨a0, a1, a2, a3⟩ := cells2 (hb73.ext (trans_drew hE))
        refine wp_hideK (fun K' hK => ?_)
        go_wp2_with fail
        exact ⟨rfl, Below.refl _ _, (phi_iff ph22).2 rfl⟩
      · intro vs w' hE hp
        obtain ⟨r21_23, o21_23, n21_23, c21_23, p21_23, q21_23⟩ : ∃ r o n c, vs 21 = .agg #[.bool r, .slice o n c] ∧ Zn 8 w' r o n c (z37 + (z56 * z94)) := (phi_iff ph21).1 (hp 21 rfl)
        have p22_23 : vs 22 = (.agg #[(.bool s1), (.slice a1 m56 c1)]) := (phi_iff ph22).1 (hp 22 rfl)
        have p16_23 : vs 16 = (.bool true) := (phi_iff ph16).1 (hp 16 rfl)
        simp only [Nat.reduceAdd, Act.put, List.setIfInBounds_toArray, List.set_cons_zero, List.set_cons_succ, p21_23, p22_23, p16_23]
        refine ifW_pos (by rfl) ?_
        have h56 := h56.ext (trans_drew hE)
        refine wp_hideK (fun K' hK => ?_)
        go_wp2_with fail
        exact ⟨rfl, alloc_ext _ _, (phi_iff ph23).2 (new_in (fun w2 g hb hblk => in_blk2 (K := 8) hblk ((q21_23.any).ext hb) (((h56).ext hb).mono (by decide))))⟩
      · intro vs w' hE hp
        obtain ⟨g23_24, p23_24, q23_24⟩ : ∃ g, vs 23 = .slice (some ⟨g, 0, none⟩) 2 2 ∧ In 8 w' (some ⟨g, 0, none⟩) 2 2 [(z37 + (z56 * z94)), z56] := (phi_iff ph23).1 (hp 23 rfl)
        have p16_24 : vs 16 = (.bool true) := (phi_iff ph16).1 (hp 16 rfl)
        simp only [Nat.reduceAdd, Act.put, List.setIfInBounds_toArray, List.set_cons_zero, List.set_cons_succ, p23_24, p16_24]
        refine ifW_pos (by rfl) ?_
        refine wp_hideK (fun K' hK => ?_)
        go_wp2_with fail
        refine (wGcd q23_24).mono ?_
        rintro e w2 ⟨r161, o161, n161, c161, rfl, h161, hb⟩
        go_wp2_with fail
        exact ⟨rfl, hb, (phi_iff ph24).2 ⟨_, _, _, _, rfl, h161.mono (by decide)⟩⟩
      · intro vs w' hE hp
        have p16_25 : vs 16 = (.bool true) := (phi_iff ph16).1 (hp 16 rfl)
        simp only [Nat.reduceAdd, Act.put, List.setIfInBounds_toArray, List.set_cons_zero, List.set_cons_succ, p16_25]
        refine ifW_pos (by rfl) ?_
        obtain ⟨a0, a1, a2, a3⟩ := cells2 (hb54.ext (trans_drew hE))
        refine wp_hideK (fun K' hK => ?_)
        go_wp2_with fail
        exact ⟨rfl, Below.refl _ _, (phi_iff ph25).2 rfl⟩
      · intro vs w' hE hp
        have p16_26 : vs 16 = (.bool true) := (phi_iff ph16).1 (hp 16 rfl)
        simp only [Nat.reduceAdd, Act.put, List.setIfInBounds_toArray, List.set_cons_zero, List.set_cons_succ, p16_26]
        refine ifW_pos (by rfl) ?_
        obtain ⟨a0, a1, a2, a3⟩ := cells2 (hb73.ext (trans_drew hE))
        refine wp_hideK (fun K' hK => ?_)
        go_wp2_with fail
        exact ⟨rfl, Below.refl _ _, (phi_iff ph26).2 rfl⟩
      · intro vs w' hE hp
        have p25_27 : vs 25 = (.agg #[(.bool s0), (.slice a0 m37 c0)]) := (phi_iff ph25).1 (hp 25 rfl)
        have p26_27 : vs 26 = (.agg #[(.bool s1), (.slice a1 m56 c1)]) := (phi_iff ph26).1 (hp 26 rfl)
        have p16_27 : vs 16 = (.bool true) := (phi_iff ph16).1 (hp 16 rfl)
        simp only [Nat.reduceAdd, Act.put, List.setIfInBounds_toArray, List.set_cons_zero, List.set_cons_succ, p25_27, p26_27, p16_27]
        refine ifW_pos (by rfl) ?_
        have h37 := h37.ext (trans_drew hE)
        have h56 := h56.ext (trans_drew hE)
        refine wp_hideK (fun K' hK => ?_)
        go_wp2_with fail
        exact ⟨rfl, alloc_ext _ _, (phi_iff ph27).2 (new_in (fun w2 g hb hblk => in_blk2 (K := 4) hblk ((h37).ext hb) ((h56).ext hb)))⟩
      · intro vs w' hE hp
        obtain ⟨g27_28, p27_28, q27_28⟩ : ∃ g, vs 27 = .slice (some ⟨g, 0, none⟩) 2 2 ∧ In 4 w' (some ⟨g, 0, none⟩) 2 2 [z37, z56] := (phi_iff ph27).1 (hp 27 rfl)
        have p16_28 : vs 16 = (.bool true) := (phi_iff ph16).1 (hp 16 rfl)
        simp only [Nat.reduceAdd, Act.put, List.setIfInBounds_toArray, List.set_cons_zero, List.set_cons_succ, p27_28, p16_28]
        refine ifW_pos (by rfl) ?_
        refine wp_hideK (fun K' hK => ?_)
        go_wp2_with fail
        refine (wGcd q27_28).mono ?_
        rintro e w2 ⟨r162, o162, n162, c162, rfl, h162, hb⟩
        go_wp2_with fail
        exact ⟨rfl, hb, (phi_iff ph28).2 ⟨_, _, _, _, rfl, h162.mono (by decide)⟩⟩
      · intro vs w' hE hp
        obtain ⟨r24_29, o24_29, n24_29, c24_29, p24_29, q24_29⟩ : ∃ r o n c, vs 24 = .agg #[.bool r, .slice o n c] ∧ Zn 8 w' r o n c ((gcdL [(z37 + (z56 * z94)), z56] : Nat) : Int) := (phi_iff ph24).1 (hp 24 rfl)
        obtain ⟨r28_29, o28_29, n28_29, c28_29, p28_29, q28_29⟩ : ∃ r o n c, vs 28 = .agg #[.bool r, .slice o n c] ∧ Zn 4 w' r o n c ((gcdL [z37, z56] : Nat) : Int) := (phi_iff ph28).1 (hp 28 rfl)
        have p16_29 : vs 16 = (.bool true) := (phi_iff ph16).1 (hp 16 rfl)
        simp only [Nat.reduceAdd, Act.put, List.setIfInBounds_toArray, List.set_cons_zero, List.set_cons_succ, p24_29, p28_29, p16_29]
        refine ifW_pos (by rfl) ?_
        refine wp_hideK (fun K' hK => ?_)
        go_wp2_with fail
        refine (kSameInt q24_29 q28_29 (gs_5 _ _ _)).mono ?_
        rintro e w2 ⟨rfl, hb⟩
        go_wp2_with fail
        exact ⟨rfl, hb, (phi_iff ph29).2 rfl⟩
      · intro vs w' hE hp
        have p16_30 : vs 16 = (.bool true) := (phi_iff ph16).1 (hp 16 rfl)
        have p29_30 : vs 29 = (.bool true) := (phi_iff ph29).1 (hp 29 rfl)
        simp only [Nat.reduceAdd, Act.put, List.setIfInBounds_toArray, List.set_cons_zero, List.set_cons_succ, p16_30, p29_30]
        refine ifW_pos (by rfl) ?_
        refine wp_hideK (fun K' hK => ?_)
        go_wp2_with fail
        exact ⟨rfl, Below.refl _ _, (phi_iff ph30).2 rfl⟩
      · intro vs w' hE hp
        have p30_31 : vs 30 = (.bool true) := (phi_iff ph30).1 (hp 30 rfl)
        simp only [Nat.reduceAdd, Act.put, List.setIfInBounds_toArray, List.set_cons_zero, List.set_cons_succ, p30_31]
        refine ifW_pos (by rfl) ?_
        refine wp_hideK (fun K' hK => ?_)
        go_wp2_with fail
        exact ⟨rfl, Below.refl _ _, (phi_iff ph31).2 rfl⟩
      · intro vs w' hE hp
        have p31_32 : vs 31 = (.bool true) := (phi_iff ph31).1 (hp 31 rfl)
        simp only [Nat.reduceAdd, Act.put, List.setIfInBounds_toArray, List.set_cons_zero, List.set_cons_succ, p31_32]
        refine ifW_pos (by rfl) ?_
        refine wp_hideK (fun K' hK => ?_)
        go_wp2_with fail
        refine (lwakes _).mono ?_
        rintro e w2 ⟨rfl, hb⟩
        go_wp2_with fail
        exact ⟨rfl, hb, (phi_iff ph32).2 rfl⟩
      · intro vs w' hE hp
        have p31_33 : vs 31 = (.bool true) := (phi_iff ph31).1 (hp 31 rfl)
        have p32_33 : vs 32 = (.bool true) := (phi_iff ph32).1 (hp 32 rfl)
        simp only [Nat.reduceAdd, Act.put, List.setIfInBounds_toArray, List.set_cons_zero, List.set_cons_succ, p31_33, p32_33]
        refine ifW_pos (by rfl) ?_
        refine wp_hideK (fun K' hK => ?_)
        go_wp2_with fail
        exact ⟨rfl, Below.refl _ _, (phi_iff ph33).2 rfl⟩
      · intro vs w' hE hp
        have p33_34 : vs 33 = (.bool true) := (phi_iff ph33).1 (hp 33 rfl)
        simp only [Nat.reduceAdd, Act.put, List.setIfInBounds_toArray, List.set_cons_zero, List.set_cons_succ, p33_34]
        refine ifW_pos (by rfl) ?_
        refine wp_hideK (fun K' hK => ?_)
        go_wp2_with fail
        exact ⟨rfl, Below.refl _ _, (phi_iff ph34).2 rfl⟩
    · intro vs w163 hE hphi
      have p34e : vs 34 = (.bool true) := (phi_iff ph34).1 (hphi 34 (by decide))
      replace h0 := h0.ext (trans_drew hE)
      replace h1 := h1.ext (trans_drew hE)
      replace h2 := h2.ext (trans_drew hE)
      replace h3 := h3.ext (trans_drew hE)
      replace h37 := h37.ext (trans_drew hE)
      replace k37 := k37.ext (trans_drew hE)
      replace h56 := h56.ext (trans_drew hE)
      replace k56 := k56.ext (trans_drew hE)
      replace h75 := h75.ext (trans_drew hE)
      replace k75 := k75.ext (trans_drew hE)
      replace h94 := h94.ext (trans_drew hE)
      replace k94 := k94.ext (trans_drew hE)
      replace h134 := h134.ext (trans_drew hE)
      replace hb54 := hb54.ext (trans_drew hE)
      replace hb73 := hb73.ext (trans_drew hE)
      replace hb92 := hb92.ext (trans_drew hE)
      replace hb123 := hb123.ext (trans_drew hE)
      replace hb129 := hb129.ext (trans_drew hE)
      replace hb141 := hb141.ext (trans_drew hE)
      replace hB := ext_trans hB (trans_drew hE)
      clear hphi hE ph0 ph1 ph2 ph3 ph4 ph5 ph6 ph7 ph8 ph9 ph10 ph11 ph12 ph13 ph14 ph15 ph16 ph17 ph18 ph19 ph20 ph21 ph22 ph23 ph24 ph25 ph26 ph27 ph28 ph29 ph30 ph31 ph32 ph33 ph34
      simp only [putsR, List.take_succ_cons, List.take_zero, List.drop_succ_cons, List.drop_zero, List.drop_nil, Nat.reduceAdd, Act.put, List.setIfInBounds_toArray, List.set_cons_zero, List.set_cons_succ, p34e]
      clear p34e
      go_wp2
      go_ret
      exact ⟨rfl, hB⟩

end Go.Proofs.Ytkcagkcphobmfaa
