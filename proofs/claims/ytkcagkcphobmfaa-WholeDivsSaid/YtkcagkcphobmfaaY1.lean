/-
  THE WALK OF THE STATEMENT: quotient and remainder.
-/
import Derived.Test.YtkcagkcphobmfaaZl
set_option linter.unusedVariables false
set_option linter.unusedSimpArgs false
namespace Go.Proofs.Ytkcagkcphobmfaa
open Go.RowKit

set_option maxHeartbeats 8000000 in
theorem wholeDivs_walk {w : World} {s0 : Bool} {a0 : Option Addr} {n0 c0 : Nat} {x0 : Int} {s1 : Bool} {a1 : Option Addr} {n1 c1 : Nat} {x1 : Int} (h0 : Za 9223372036854775807 w s0 a0 n0 c0 x0) (h1 : Za 9223372036854775807 w s1 a1 n1 c1 x1) :
    Calls Try.prog 3 #[.agg #[.bool s0, .slice a0 n0 c0], .agg #[.bool s1, .slice a1 n1 c1]] w (RetV (.bool true) w) := by
  go_enter Try.func3, Try.ntmps3
  have hB := Below.refl w.heap.size w
  go_wp2_with fail
  obtain ⟨w1, g2, hw3, hg4, hb5, al6, ge7, sz8⟩ := mk_alloc w [(.bool s0), (.slice a0 n0 c0)] 24 (N := w.heap.size) rfl
  rw [← hw3]
  have G9 := below_ge hB ge7
  replace hB := ext_trans hB al6
  replace h0 := h0.ext al6
  replace h1 := h1.ext al6
  clear hw3 al6 ge7
  obtain ⟨w10, g11, hw12, hg13, hb14, al15, ge16, sz17⟩ := mk_alloc w1 [(.bool s1), (.slice a1 n1 c1)] 24 (N := w.heap.size + 1) sz8
  rw [← hw12]
  have Ng2_g11 := hb5.ne ge16
  have G18 := below_ge hB ge16
  replace hB := ext_trans hB al15
  replace h0 := h0.ext al15
  replace h1 := h1.ext al15
  replace hb5 := hb5.ext al15
  clear hw12 al15 ge16
  rw [← hg13]
  rw [← hg4]
  clear hg4 hg13 sz8 sz17
  refine (lof 12 h0).mono ?_
  rintro e w20 ⟨m19, z19, p19, q19, d19, r19, rfl, h19, k19, hb21⟩
  replace h0 := h0.ext hb21
  replace h1 := h1.ext hb21
  replace hb5 := hb5.ext hb21
  replace hb14 := hb14.ext hb21
  replace hB := ext_trans hB hb21
  clear hb21
  obtain ⟨a22, a23, f24, f25⟩ := cells2 hb5
  have l26 := hb5.lt
  obtain ⟨a27, a28, f29, f30⟩ := cells2 hb14
  have l31 := hb14.lt
  have Mg11_g2 := hid_ne Ng2_g11
  have e32 := Mg11_g2.out
  go_wp2_with fail
  clear a22 a23 f24 f25 l26 a27 a28 f29 f30 l31 e32
  obtain ⟨w33, hw34, hu35, hb36, sz37⟩ := mk_set2 hb5 (.bool s0) (.slice a0 m19 c0) (N := w20.heap.size) rfl
  rw [← hw34]
  replace h0 := h0.upd hb5 (noInt_zz _ _ _ _) hu35
  replace h1 := h1.upd hb5 (noInt_zz _ _ _ _) hu35
  replace h19 := h19.upd hb5 (noInt_zz _ _ _ _) hu35
  replace k19 := k19.upd hb5 (noInt_zz _ _ _ _) hu35
  replace hB := below_upd hB G9.out hb5.lt hu35
  replace hb14 := hb14.upd Mg11_g2.out hu35
  clear hw34 hu35 hb5
  obtain ⟨w38, g39, hw40, hg41, hb42, al43, ge44, sz45⟩ := mk_alloc w33 [(.slice p19 q19 d19), (.bool r19)] 28 (N := w20.heap.size) sz37
  rw [← hw40]
  have Ng2_g39 := hb36.ne ge44
  have Ng11_g39 := hb14.ne ge44
  have G46 := below_ge hB ge44
  replace hB := ext_trans hB al43
  replace h0 := h0.ext al43
  replace h1 := h1.ext al43
  replace h19 := h19.ext al43
  replace k19 := k19.ext al43
  replace hb36 := hb36.ext al43
  replace hb14 := hb14.ext al43
  clear hw40 al43 ge44
  rw [← hg41]
  clear hg41 sz37 sz45
  refine (lof 8 h1).mono ?_
  rintro e w48 ⟨m47, z47, p47, q47, d47, r47, rfl, h47, k47, hb49⟩
  replace h0 := h0.ext hb49
  replace h1 := h1.ext hb49
  replace h19 := h19.ext hb49
  replace k19 := k19.ext hb49
  replace hb36 := hb36.ext hb49
  replace hb14 := hb14.ext hb49
  replace hb42 := hb42.ext hb49
  replace hB := ext_trans hB hb49
  clear hb49
  by_cases hy : z47 = 0
  · have HY := hid hy; clear hy
    obtain ⟨a50, a51, f52, f53⟩ := cells2 hb14
    have l54 := hb14.lt
    obtain ⟨a55, a56, f57, f58⟩ := cells2 hb36
    have l59 := hb36.lt
    have e60 := Ng2_g11.out
    go_wp2_with fail
    clear a50 a51 f52 f53 l54 a55 a56 f57 f58 l59 e60
    obtain ⟨w61, hw62, hu63, hb64, sz65⟩ := mk_set2 hb14 (.bool s1) (.slice a1 m47 c1) (N := w48.heap.size) rfl
    rw [← hw62]
    replace h0 := h0.upd hb14 (noInt_zz _ _ _ _) hu63
    replace h1 := h1.upd hb14 (noInt_zz _ _ _ _) hu63
    replace h19 := h19.upd hb14 (noInt_zz _ _ _ _) hu63
    replace k19 := k19.upd hb14 (noInt_zz _ _ _ _) hu63
    replace h47 := h47.upd hb14 (noInt_zz _ _ _ _) hu63
    replace k47 := k47.upd hb14 (noInt_zz _ _ _ _) hu63
    replace hB := below_upd hB G18.out hb14.lt hu63
    replace hb36 := hb36.upd Ng2_g11.out hu63
    have Mg39_g11 := hid_ne Ng11_g39
    replace hb42 := hb42.upd Mg39_g11.out hu63
    clear hw62 hu63 hb14
    obtain ⟨w66, g67, hw68, hg69, hb70, al71, ge72, sz73⟩ := mk_alloc w61 [(.slice p47 q47 d47), (.bool r47)] 28 (N := w48.heap.size) sz65
    rw [← hw68]
    have Ng2_g67 := hb36.ne ge72
    have Ng11_g67 := hb64.ne ge72
    have Ng39_g67 := hb42.ne ge72
    have G74 := below_ge hB ge72
    replace hB := ext_trans hB al71
    replace h0 := h0.ext al71
    replace h1 := h1.ext al71
    replace h19 := h19.ext al71
    replace k19 := k19.ext al71
    replace h47 := h47.ext al71
    replace k47 := k47.ext al71
    replace hb36 := hb36.ext al71
    replace hb64 := hb64.ext al71
    replace hb42 := hb42.ext al71
    clear hw68 al71 ge72
    rw [← hg69]
    clear hg69 sz65 sz73
    refine (wDiv0 h19 (by rw [← HY.out]; exact h47)).mono ?_
    rintro e w75 ⟨rfl, hb76⟩
    replace h0 := h0.ext hb76
    replace h1 := h1.ext hb76
    replace h19 := h19.ext hb76
    replace k19 := k19.ext hb76
    replace h47 := h47.ext hb76
    replace k47 := k47.ext hb76
    replace hb36 := hb36.ext hb76
    replace hb64 := hb64.ext hb76
    replace hb42 := hb42.ext hb76
    replace hb70 := hb70.ext hb76
    replace hB := ext_trans hB hb76
    clear hb76
    obtain ⟨a77, a78, f79, f80⟩ := cells2 hb70
    have l81 := hb70.lt
    go_wp2_with fail
    clear a77 a78 f79 f80 l81
    obtain ⟨w82, g83, hw84, hg85, hb86, al87, ge88, sz89⟩ := mk_alloc w75 [(.bool false), (.slice none 0 0)] 24 (N := w75.heap.size) rfl
    rw [← hw84]
    have Ng2_g83 := hb36.ne ge88
    have Ng11_g83 := hb64.ne ge88
    have Ng39_g83 := hb42.ne ge88
    have Ng67_g83 := hb70.ne ge88
    have G90 := below_ge hB ge88
    replace hB := ext_trans hB al87
    replace h0 := h0.ext al87
    replace h1 := h1.ext al87
    replace h19 := h19.ext al87
    replace k19 := k19.ext al87
    replace h47 := h47.ext al87
    replace k47 := k47.ext al87
    replace hb36 := hb36.ext al87
    replace hb64 := hb64.ext al87
    replace hb42 := hb42.ext al87
    replace hb70 := hb70.ext al87
    clear hw84 al87 ge88
    obtain ⟨w91, g92, hw93, hg94, hb95, al96, ge97, sz98⟩ := mk_alloc w82 [(.bool false), (.slice none 0 0)] 24 (N := w75.heap.size + 1) sz89
    rw [← hw93]
    have Ng2_g92 := hb36.ne ge97
    have Ng11_g92 := hb64.ne ge97
    have Ng39_g92 := hb42.ne ge97
    have Ng67_g92 := hb70.ne ge97
    have Ng83_g92 := hb86.ne ge97
    have G99 := below_ge hB ge97
    replace hB := ext_trans hB al96
    replace h0 := h0.ext al96
    replace h1 := h1.ext al96
    replace h19 := h19.ext al96
    replace k19 := k19.ext al96
    replace h47 := h47.ext al96
    replace k47 := k47.ext al96
    replace hb36 := hb36.ext al96
    replace hb64 := hb64.ext al96
    replace hb42 := hb42.ext al96
    replace hb70 := hb70.ext al96
    replace hb86 := hb86.ext al96
    clear hw93 al96 ge97
    rw [← hg94]
    rw [← hg85]
    clear hg85 hg94 sz89 sz98
    refine (rZero (b := true) k47 (decide_eq_true HY.out)).mono ?_
    rintro e w100 ⟨rfl, hb101⟩
    replace h0 := h0.ext hb101
    replace h1 := h1.ext hb101
    replace h19 := h19.ext hb101
    replace k19 := k19.ext hb101
    replace h47 := h47.ext hb101
    replace k47 := k47.ext hb101
    replace hb36 := hb36.ext hb101
    replace hb64 := hb64.ext hb101
    replace hb42 := hb42.ext hb101
    replace hb70 := hb70.ext hb101
    replace hb86 := hb86.ext hb101
    replace hb95 := hb95.ext hb101
    replace hB := ext_trans hB hb101
    clear hb101
    obtain ⟨a102, a103, f104, f105⟩ := cells2 hb86
    have l106 := hb86.lt
    go_wp2_with fail
    clear a102 a103 f104 f105 l106
    refine (aZero (b := true) (Zn.zero _) (rfl)).mono ?_
    rintro e w107 ⟨rfl, hb108⟩
    replace h0 := h0.ext hb108
    replace h1 := h1.ext hb108
    replace h19 := h19.ext hb108
    replace k19 := k19.ext hb108
    replace h47 := h47.ext hb108
    replace k47 := k47.ext hb108
    replace hb36 := hb36.ext hb108
    replace hb64 := hb64.ext hb108
    replace hb42 := hb42.ext hb108
    replace hb70 := hb70.ext hb108
    replace hb86 := hb86.ext hb108
    replace hb95 := hb95.ext hb108
    replace hB := ext_trans hB hb108
    clear hb108
    obtain ⟨a109, a110, f111, f112⟩ := cells2 hb95
    have l113 := hb95.lt
    go_wp2_with fail
    clear a109 a110 f111 f112 l113
    refine (aZero (b := true) (Zn.zero _) (rfl)).mono ?_
    rintro e w114 ⟨rfl, hb115⟩
    replace h0 := h0.ext hb115
    replace h1 := h1.ext hb115
    replace h19 := h19.ext hb115
    replace k19 := k19.ext hb115
    replace h47 := h47.ext hb115
    replace k47 := k47.ext hb115
    replace hb36 := hb36.ext hb115
    replace hb64 := hb64.ext hb115
    replace hb42 := hb42.ext hb115
    replace hb70 := hb70.ext hb115
    replace hb86 := hb86.ext hb115
    replace hb95 := hb95.ext hb115
    replace hB := ext_trans hB hb115
    clear hb115
    obtain ⟨a116, a117, f118, f119⟩ := cells2 hb86
    have l120 := hb86.lt
    obtain ⟨a121, a122, f123, f124⟩ := cells2 hb95
    have l125 := hb95.lt
    go_wp2_with fail
    clear a116 a117 f118 f119 l120 a121 a122 f123 f124 l125
    refine (lwakes _).mono ?_
    rintro e w126 ⟨rfl, hb127⟩
    replace h0 := h0.ext hb127
    replace h1 := h1.ext hb127
    replace h19 := h19.ext hb127
    replace k19 := k19.ext hb127
    replace h47 := h47.ext hb127
    replace k47 := k47.ext hb127
    replace hb36 := hb36.ext hb127
    replace hb64 := hb64.ext hb127
    replace hb42 := hb42.ext hb127
    replace hb70 := hb70.ext hb127
    replace hb86 := hb86.ext hb127
    replace hb95 := hb95.ext hb127
    replace hB := ext_trans hB hb127
    clear hb127
    go_wp2
    go_ret
    exact ⟨rfl, hB⟩
  · have HY := hid hy; clear hy
    obtain ⟨a50, a51, f52, f53⟩ := cells2 hb14
    have l54 := hb14.lt
    obtain ⟨a55, a56, f57, f58⟩ := cells2 hb36
    have l59 := hb36.lt
    have e60 := Ng2_g11.out
    go_wp2_with fail
    clear a50 a51 f52 f53 l54 a55 a56 f57 f58 l59 e60
    obtain ⟨w61, hw62, hu63, hb64, sz65⟩ := mk_set2 hb14 (.bool s1) (.slice a1 m47 c1) (N := w48.heap.size) rfl
    rw [← hw62]
    replace h0 := h0.upd hb14 (noInt_zz _ _ _ _) hu63
    replace h1 := h1.upd hb14 (noInt_zz _ _ _ _) hu63
    replace h19 := h19.upd hb14 (noInt_zz _ _ _ _) hu63
    replace k19 := k19.upd hb14 (noInt_zz _ _ _ _) hu63
    replace h47 := h47.upd hb14 (noInt_zz _ _ _ _) hu63
    replace k47 := k47.upd hb14 (noInt_zz _ _ _ _) hu63
    replace hB := below_upd hB G18.out hb14.lt hu63
    replace hb36 := hb36.upd Ng2_g11.out hu63
    have Mg39_g11 := hid_ne Ng11_g39
    replace hb42 := hb42.upd Mg39_g11.out hu63
    clear hw62 hu63 hb14
    obtain ⟨w66, g67, hw68, hg69, hb70, al71, ge72, sz73⟩ := mk_alloc w61 [(.slice p47 q47 d47), (.bool r47)] 28 (N := w48.heap.size) sz65
    rw [← hw68]
    have Ng2_g67 := hb36.ne ge72
    have Ng11_g67 := hb64.ne ge72
    have Ng39_g67 := hb42.ne ge72
    have G74 := below_ge hB ge72
    replace hB := ext_trans hB al71
    replace h0 := h0.ext al71
    replace h1 := h1.ext al71
    replace h19 := h19.ext al71
    replace k19 := k19.ext al71
    replace h47 := h47.ext al71
    replace k47 := k47.ext al71
    replace hb36 := hb36.ext al71
    replace hb64 := hb64.ext al71
    replace hb42 := hb42.ext al71
    clear hw68 al71 ge72
    rw [← hg69]
    clear hg69 sz65 sz73
    refine (wDiv h19 h47 (HY.out)).mono ?_
    rintro e w78 ⟨s75, a75', n75, c75, t75, b75', m75, d75, rfl, h76, h77, hb79⟩
    replace h0 := h0.ext hb79
    replace h1 := h1.ext hb79
    replace h19 := h19.ext hb79
    replace k19 := k19.ext hb79
    replace h47 := h47.ext hb79
    replace k47 := k47.ext hb79
    replace hb36 := hb36.ext hb79
    replace hb64 := hb64.ext hb79
    replace hb42 := hb42.ext hb79
    replace hb70 := hb70.ext hb79
    replace hB := ext_trans hB hb79
    clear hb79
    obtain ⟨a80, a81, f82, f83⟩ := cells2 hb70
    have l84 := hb70.lt
    go_wp2_with fail
    clear a80 a81 f82 f83 l84
    obtain ⟨w85, g86, hw87, hg88, hb89, al90, ge91, sz92⟩ := mk_alloc w78 [(.bool s75), (.slice a75' n75 c75)] 24 (N := w78.heap.size) rfl
    rw [← hw87]
    have Ng2_g86 := hb36.ne ge91
    have Ng11_g86 := hb64.ne ge91
    have Ng39_g86 := hb42.ne ge91
    have Ng67_g86 := hb70.ne ge91
    have G93 := below_ge hB ge91
    replace hB := ext_trans hB al90
    replace h0 := h0.ext al90
    replace h1 := h1.ext al90
    replace h19 := h19.ext al90
    replace k19 := k19.ext al90
    replace h47 := h47.ext al90
    replace k47 := k47.ext al90
    replace h76 := h76.ext al90
    replace h77 := h77.ext al90
    replace hb36 := hb36.ext al90
    replace hb64 := hb64.ext al90
    replace hb42 := hb42.ext al90
    replace hb70 := hb70.ext al90
    clear hw87 al90 ge91
    obtain ⟨w94, g95, hw96, hg97, hb98, al99, ge100, sz101⟩ := mk_alloc w85 [(.bool t75), (.slice b75' m75 d75)] 24 (N := w78.heap.size + 1) sz92
    rw [← hw96]
    have Ng2_g95 := hb36.ne ge100
    have Ng11_g95 := hb64.ne ge100
    have Ng39_g95 := hb42.ne ge100
    have Ng67_g95 := hb70.ne ge100
    have Ng86_g95 := hb89.ne ge100
    have G102 := below_ge hB ge100
    replace hB := ext_trans hB al99
    replace h0 := h0.ext al99
    replace h1 := h1.ext al99
    replace h19 := h19.ext al99
    replace k19 := k19.ext al99
    replace h47 := h47.ext al99
    replace k47 := k47.ext al99
    replace h76 := h76.ext al99
    replace h77 := h77.ext al99
    replace hb36 := hb36.ext al99
    replace hb64 := hb64.ext al99
    replace hb42 := hb42.ext al99
    replace hb70 := hb70.ext al99
    replace hb89 := hb89.ext al99
    clear hw96 al99 ge100
    rw [← hg97]
    rw [← hg88]
    clear hg88 hg97 sz92 sz101
    refine (rZero (b := false) k47 (decide_eq_false HY.out)).mono ?_
    rintro e w103 ⟨rfl, hb104⟩
    replace h0 := h0.ext hb104
    replace h1 := h1.ext hb104
    replace h19 := h19.ext hb104
    replace k19 := k19.ext hb104
    replace h47 := h47.ext hb104
    replace k47 := k47.ext hb104
    replace h76 := h76.ext hb104
    replace h77 := h77.ext hb104
    replace hb36 := hb36.ext hb104
    replace hb64 := hb64.ext hb104
    replace hb42 := hb42.ext hb104
    replace hb70 := hb70.ext hb104
    replace hb89 := hb89.ext hb104
    replace hb98 := hb98.ext hb104
    replace hB := ext_trans hB hb104
    clear hb104
    obtain ⟨a105, a106, f107, f108⟩ := cells2 hb42
    have l109 := hb42.lt
    obtain ⟨a110, a111, f112, f113⟩ := cells2 hb70
    have l114 := hb70.lt
    go_wp2_with fail
    clear a105 a106 f107 f108 l109 a110 a111 f112 f113 l114
    refine (rDiv k19 k47 (HY.out)).mono ?_
    rintro e w118 ⟨a115', n115, c115, s115, b115', m115, d115, t115, rfl, h116, h117, hb119⟩
    replace h0 := h0.ext hb119
    replace h1 := h1.ext hb119
    replace h19 := h19.ext hb119
    replace k19 := k19.ext hb119
    replace h47 := h47.ext hb119
    replace k47 := k47.ext hb119
    replace h76 := h76.ext hb119
    replace h77 := h77.ext hb119
    replace hb36 := hb36.ext hb119
    replace hb64 := hb64.ext hb119
    replace hb42 := hb42.ext hb119
    replace hb70 := hb70.ext hb119
    replace hb89 := hb89.ext hb119
    replace hb98 := hb98.ext hb119
    replace hB := ext_trans hB hb119
    clear hb119
    obtain ⟨a120, a121, f122, f123⟩ := cells2 hb89
    have l124 := hb89.lt
    go_wp2_with fail
    clear a120 a121 f122 f123 l124
    obtain ⟨w125, g126, hw127, hg128, hb129, al130, ge131, sz132⟩ := mk_alloc w118 [(.slice a115' n115 c115), (.bool s115)] 28 (N := w118.heap.size) rfl
    rw [← hw127]
    have Ng2_g126 := hb36.ne ge131
    have Ng11_g126 := hb64.ne ge131
    have Ng39_g126 := hb42.ne ge131
    have Ng67_g126 := hb70.ne ge131
    have Ng86_g126 := hb89.ne ge131
    have Ng95_g126 := hb98.ne ge131
    have G133 := below_ge hB ge131
    replace hB := ext_trans hB al130
    replace h0 := h0.ext al130
    replace h1 := h1.ext al130
    replace h19 := h19.ext al130
    replace k19 := k19.ext al130
    replace h47 := h47.ext al130
    replace k47 := k47.ext al130
    replace h76 := h76.ext al130
    replace h77 := h77.ext al130
    replace h116 := h116.ext al130
    replace h117 := h117.ext al130
    replace hb36 := hb36.ext al130
    replace hb64 := hb64.ext al130
    replace hb42 := hb42.ext al130
    replace hb70 := hb70.ext al130
    replace hb89 := hb89.ext al130
    replace hb98 := hb98.ext al130
    clear hw127 al130 ge131
    obtain ⟨w134, g135, hw136, hg137, hb138, al139, ge140, sz141⟩ := mk_alloc w125 [(.slice b115' m115 d115), (.bool t115)] 28 (N := w118.heap.size + 1) sz132
    rw [← hw136]
    have Ng2_g135 := hb36.ne ge140
    have Ng11_g135 := hb64.ne ge140
    have Ng39_g135 := hb42.ne ge140
    have Ng67_g135 := hb70.ne ge140
    have Ng86_g135 := hb89.ne ge140
    have Ng95_g135 := hb98.ne ge140
    have Ng126_g135 := hb129.ne ge140
    have G142 := below_ge hB ge140
    replace hB := ext_trans hB al139
    replace h0 := h0.ext al139
    replace h1 := h1.ext al139
    replace h19 := h19.ext al139
    replace k19 := k19.ext al139
    replace h47 := h47.ext al139
    replace k47 := k47.ext al139
    replace h76 := h76.ext al139
    replace h77 := h77.ext al139
    replace h116 := h116.ext al139
    replace h117 := h117.ext al139
    replace hb36 := hb36.ext al139
    replace hb64 := hb64.ext al139
    replace hb42 := hb42.ext al139
    replace hb70 := hb70.ext al139
    replace hb89 := hb89.ext al139
    replace hb98 := hb98.ext al139
    replace hb129 := hb129.ext al139
    clear hw136 al139 ge140
    rw [← hg137]
    rw [← hg128]
    clear hg128 hg137 sz132 sz141
    refine (lis h116 h76 (rfl)).mono ?_
    rintro e w143 ⟨rfl, hb144⟩
    replace h0 := h0.ext hb144
    replace h1 := h1.ext hb144
    replace h19 := h19.ext hb144
    replace k19 := k19.ext hb144
    replace h47 := h47.ext hb144
    replace k47 := k47.ext hb144
    replace h76 := h76.ext hb144
    replace h77 := h77.ext hb144
    replace h116 := h116.ext hb144
    replace h117 := h117.ext hb144
    replace hb36 := hb36.ext hb144
    replace hb64 := hb64.ext hb144
    replace hb42 := hb42.ext hb144
    replace hb70 := hb70.ext hb144
    replace hb89 := hb89.ext hb144
    replace hb98 := hb98.ext hb144
    replace hb129 := hb129.ext hb144
    replace hb138 := hb138.ext hb144
    replace hB := ext_trans hB hb144
    clear hb144
    obtain ⟨a145, a146, f147, f148⟩ := cells2 hb138
    have l149 := hb138.lt
    obtain ⟨a150, a151, f152, f153⟩ := cells2 hb98
    have l154 := hb98.lt
    go_wp2_with fail
    clear a145 a146 f147 f148 l149 a150 a151 f152 f153 l154
    refine (lis h117 h77 (rfl)).mono ?_
    rintro e w155 ⟨rfl, hb156⟩
    replace h0 := h0.ext hb156
    replace h1 := h1.ext hb156
    replace h19 := h19.ext hb156
    replace k19 := k19.ext hb156
    replace h47 := h47.ext hb156
    replace k47 := k47.ext hb156
    replace h76 := h76.ext hb156
    replace h77 := h77.ext hb156
    replace h116 := h116.ext hb156
    replace h117 := h117.ext hb156
    replace hb36 := hb36.ext hb156
    replace hb64 := hb64.ext hb156
    replace hb42 := hb42.ext hb156
    replace hb70 := hb70.ext hb156
    replace hb89 := hb89.ext hb156
    replace hb98 := hb98.ext hb156
    replace hb129 := hb129.ext hb156
    replace hb138 := hb138.ext hb156
    replace hB := ext_trans hB hb156
    clear hb156
    go_wp2_with fail
    refine (lwakes _).mono ?_
    rintro e w157 ⟨rfl, hb158⟩
    replace h0 := h0.ext hb158
    replace h1 := h1.ext hb158
    replace h19 := h19.ext hb158
    replace k19 := k19.ext hb158
    replace h47 := h47.ext hb158
    replace k47 := k47.ext hb158
    replace h76 := h76.ext hb158
    replace h77 := h77.ext hb158
    replace h116 := h116.ext hb158
    replace h117 := h117.ext hb158
    replace hb36 := hb36.ext hb158
    replace hb64 := hb64.ext hb158
    replace hb42 := hb42.ext hb158
    replace hb70 := hb70.ext hb158
    replace hb89 := hb89.ext hb158
    replace hb98 := hb98.ext hb158
    replace hb129 := hb129.ext hb158
    replace hb138 := hb138.ext hb158
    replace hB := ext_trans hB hb158
    clear hb158
    go_wp2
    go_ret
    exact ⟨rfl, hB⟩

end Go.Proofs.Ytkcagkcphobmfaa
