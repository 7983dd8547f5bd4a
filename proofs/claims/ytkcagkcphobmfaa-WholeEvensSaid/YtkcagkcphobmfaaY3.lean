/-
  THE WALK OF THE STATEMENT: the quotient where it comes out even.
-/
import Derived.Test.YtkcagkcphobmfaaZn
set_option linter.unusedVariables false
set_option linter.unusedSimpArgs false
namespace Go.Proofs.Ytkcagkcphobmfaa
open Go.RowKit

set_option maxRecDepth 100000 in
set_option maxHeartbeats 16000000 in
theorem wholeEvens_walk {w : World} {s0 : Bool} {a0 : Option Addr} {n0 c0 : Nat} {x0 : Int} {s1 : Bool} {a1 : Option Addr} {n1 c1 : Nat} {x1 : Int} {ev : Bool} (h0 : Za 9223372036854775807 w s0 a0 n0 c0 x0) (h1 : Za 9223372036854775807 w s1 a1 n1 c1 x1) :
    Calls Try.prog 4 #[.agg #[.bool s0, .slice a0 n0 c0], .agg #[.bool s1, .slice a1 n1 c1], .bool ev] w (RetV (.bool true) w) := by
  cases ev
  · skip
    go_enter Try.func4, Try.ntmps4
    have hB := Below.refl w.heap.size w
    go_wp2_with fail
    obtain ⟨w1, g2, hw3, hg4, hb5, al6, ge7, sz8⟩ := mk_alloc w [(.bool s0), (.slice a0 n0 c0)] 24 (N := w.heap.size) rfl
    rw [← hw3]
    have G9 := below_ge hB ge7
    replace hB := ext_trans hB al6
    replace h0 := h0.ext al6
    replace h1 := h1.ext al6
    clear hw3 al6 ge7
    obtain ⟨w10, g11, hw12, hg13, hb14, al15, ge16, sz17⟩ := mk_alloc w1 [(.bool s1), (.slice a1 n1 c1)] 24 (N := w.heap.size + 1) sz8
    rw [← hw12]
    have Ng2_g11 := hb5.ne ge16
    have G18 := below_ge hB ge16
    replace hB := ext_trans hB al15
    replace h0 := h0.ext al15
    replace h1 := h1.ext al15
    replace hb5 := hb5.ext al15
    clear hw12 al15 ge16
    rw [← hg13]
    rw [← hg4]
    clear hg4 hg13 sz8 sz17
    refine (lof 8 h0).mono ?_
    rintro e w20 ⟨m19, z19, p19, q19, d19, r19, rfl, h19, k19, hb21⟩
    replace h0 := h0.ext hb21
    replace h1 := h1.ext hb21
    replace hb5 := hb5.ext hb21
    replace hb14 := hb14.ext hb21
    replace hB := ext_trans hB hb21
    clear hb21
    obtain ⟨a22, a23, f24, f25⟩ := cells2 hb5
    have l26 := hb5.lt
    obtain ⟨a27, a28, f29, f30⟩ := cells2 hb14
    have l31 := hb14.lt
    have Mg11_g2 := hid_ne Ng2_g11
    have e32 := Mg11_g2.out
    go_wp2_with fail
    clear a22 a23 f24 f25 l26 a27 a28 f29 f30 l31 e32
    obtain ⟨w33, hw34, hu35, hb36, sz37⟩ := mk_set2 hb5 (.bool s0) (.slice a0 m19 c0) (N := w20.heap.size) rfl
    rw [← hw34]
    replace h0 := h0.upd hb5 (noInt_zz _ _ _ _) hu35
    replace h1 := h1.upd hb5 (noInt_zz _ _ _ _) hu35
    replace h19 := h19.upd hb5 (noInt_zz _ _ _ _) hu35
    replace k19 := k19.upd hb5 (noInt_zz _ _ _ _) hu35
    replace hB := below_upd hB G9.out hb5.lt hu35
    replace hb14 := hb14.upd Mg11_g2.out hu35
    clear hw34 hu35 hb5
    obtain ⟨w38, g39, hw40, hg41, hb42, al43, ge44, sz45⟩ := mk_alloc w33 [(.slice p19 q19 d19), (.bool r19)] 28 (N := w20.heap.size) sz37
    rw [← hw40]
    have Ng2_g39 := hb36.ne ge44
    have Ng11_g39 := hb14.ne ge44
    have G46 := below_ge hB ge44
    replace hB := ext_trans hB al43
    replace h0 := h0.ext al43
    replace h1 := h1.ext al43
    replace h19 := h19.ext al43
    replace k19 := k19.ext al43
    replace hb36 := hb36.ext al43
    replace hb14 := hb14.ext al43
    clear hw40 al43 ge44
    rw [← hg41]
    clear hg41 sz37 sz45
    refine (lof 6 h1).mono ?_
    rintro e w48 ⟨m47, z47, p47, q47, d47, r47, rfl, h47, k47, hb49⟩
    replace h0 := h0.ext hb49
    replace h1 := h1.ext hb49
    replace h19 := h19.ext hb49
    replace k19 := k19.ext hb49
    replace hb36 := hb36.ext hb49
    replace hb14 := hb14.ext hb49
    replace hb42 := hb42.ext hb49
    replace hB := ext_trans hB hb49
    clear hb49
    by_cases hy : z47 = 0
    · have HY := hid hy; clear hy
      obtain ⟨a50, a51, f52, f53⟩ := cells2 hb14
      have l54 := hb14.lt
      obtain ⟨a55, a56, f57, f58⟩ := cells2 hb36
      have l59 := hb36.lt
      have e60 := Ng2_g11.out
      go_wp2_with fail
      clear a50 a51 f52 f53 l54 a55 a56 f57 f58 l59 e60
      obtain ⟨w61, hw62, hu63, hb64, sz65⟩ := mk_set2 hb14 (.bool s1) (.slice a1 m47 c1) (N := w48.heap.size) rfl
      rw [← hw62]
      replace h0 := h0.upd hb14 (noInt_zz _ _ _ _) hu63
      replace h1 := h1.upd hb14 (noInt_zz _ _ _ _) hu63
      replace h19 := h19.upd hb14 (noInt_zz _ _ _ _) hu63
      replace k19 := k19.upd hb14 (noInt_zz _ _ _ _) hu63
      replace h47 := h47.upd hb14 (noInt_zz _ _ _ _) hu63
      replace k47 := k47.upd hb14 (noInt_zz _ _ _ _) hu63
      replace hB := below_upd hB G18.out hb14.lt hu63
      replace hb36 := hb36.upd Ng2_g11.out hu63
      have Mg39_g11 := hid_ne Ng11_g39
      replace hb42 := hb42.upd Mg39_g11.out hu63
      clear hw62 hu63 hb14
      obtain ⟨w66, g67, hw68, hg69, hb70, al71, ge72, sz73⟩ := mk_alloc w61 [(.slice p47 q47 d47), (.bool r47)] 28 (N := w48.heap.size) sz65
      rw [← hw68]
      have Ng2_g67 := hb36.ne ge72
      have Ng11_g67 := hb64.ne ge72
      have Ng39_g67 := hb42.ne ge72
      have G74 := below_ge hB ge72
      replace hB := ext_trans hB al71
      replace h0 := h0.ext al71
      replace h1 := h1.ext al71
      replace h19 := h19.ext al71
      replace k19 := k19.ext al71
      replace h47 := h47.ext al71
      replace k47 := k47.ext al71
      replace hb36 := hb36.ext al71
      replace hb64 := hb64.ext al71
      replace hb42 := hb42.ext al71
      clear hw68 al71 ge72
      rw [← hg69]
      clear hg69 sz65 sz73
      refine (wExact0 h19 (by rw [← HY.out]; exact h47)).mono ?_
      rintro e w75 ⟨rfl, hb76⟩
      replace h0 := h0.ext hb76
      replace h1 := h1.ext hb76
      replace h19 := h19.ext hb76
      replace k19 := k19.ext hb76
      replace h47 := h47.ext hb76
      replace k47 := k47.ext hb76
      replace hb36 := hb36.ext hb76
      replace hb64 := hb64.ext hb76
      replace hb42 := hb42.ext hb76
      replace hb70 := hb70.ext hb76
      replace hB := ext_trans hB hb76
      clear hb76
      obtain ⟨a77, a78, f79, f80⟩ := cells2 hb70
      have l81 := hb70.lt
      go_wp2_with fail
      clear a77 a78 f79 f80 l81
      obtain ⟨w82, g83, hw84, hg85, hb86, al87, ge88, sz89⟩ := mk_alloc w75 [(.bool false), (.slice none 0 0)] 24 (N := w75.heap.size) rfl
      rw [← hw84]
      have Ng2_g83 := hb36.ne ge88
      have Ng11_g83 := hb64.ne ge88
      have Ng39_g83 := hb42.ne ge88
      have Ng67_g83 := hb70.ne ge88
      have G90 := below_ge hB ge88
      replace hB := ext_trans hB al87
      replace h0 := h0.ext al87
      replace h1 := h1.ext al87
      replace h19 := h19.ext al87
      replace k19 := k19.ext al87
      replace h47 := h47.ext al87
      replace k47 := k47.ext al87
      replace hb36 := hb36.ext al87
      replace hb64 := hb64.ext al87
      replace hb42 := hb42.ext al87
      replace hb70 := hb70.ext al87
      clear hw84 al87 ge88
      rw [← hg85]
      clear hg85 sz89
      refine (rZero (b := true) k47 (decide_eq_true HY.out)).mono ?_
      rintro e w91 ⟨rfl, hb92⟩
      replace h0 := h0.ext hb92
      replace h1 := h1.ext hb92
      replace h19 := h19.ext hb92
      replace k19 := k19.ext hb92
      replace h47 := h47.ext hb92
      replace k47 := k47.ext hb92
      replace hb36 := hb36.ext hb92
      replace hb64 := hb64.ext hb92
      replace hb42 := hb42.ext hb92
      replace hb70 := hb70.ext hb92
      replace hb86 := hb86.ext hb92
      replace hB := ext_trans hB hb92
      clear hb92
      obtain ⟨a93, a94, f95, f96⟩ := cells2 hb86
      have l97 := hb86.lt
      go_wp2_with fail
      clear a93 a94 f95 f96 l97
      refine (aZero (b := true) (Zn.zero _) (rfl)).mono ?_
      rintro e w98 ⟨rfl, hb99⟩
      replace h0 := h0.ext hb99
      replace h1 := h1.ext hb99
      replace h19 := h19.ext hb99
      replace k19 := k19.ext hb99
      replace h47 := h47.ext hb99
      replace k47 := k47.ext hb99
      replace hb36 := hb36.ext hb99
      replace hb64 := hb64.ext hb99
      replace hb42 := hb42.ext hb99
      replace hb70 := hb70.ext hb99
      replace hb86 := hb86.ext hb99
      replace hB := ext_trans hB hb99
      clear hb99
      obtain ⟨a100, a101, f102, f103⟩ := cells2 hb86
      have l104 := hb86.lt
      go_wp2_with fail
      clear a100 a101 f102 f103 l104
      refine (lwakes _).mono ?_
      rintro e w105 ⟨rfl, hb106⟩
      replace h0 := h0.ext hb106
      replace h1 := h1.ext hb106
      replace h19 := h19.ext hb106
      replace k19 := k19.ext hb106
      replace h47 := h47.ext hb106
      replace k47 := k47.ext hb106
      replace hb36 := hb36.ext hb106
      replace hb64 := hb64.ext hb106
      replace hb42 := hb42.ext hb106
      replace hb70 := hb70.ext hb106
      replace hb86 := hb86.ext hb106
      replace hB := ext_trans hB hb106
      clear hb106
      go_wp2
      go_ret
      exact ⟨rfl, hB⟩
    · have HY := hid hy; clear hy
      by_cases hr : z19 % z47 = 0
      · have HR := hid hr; clear hr
        obtain ⟨a50, a51, f52, f53⟩ := cells2 hb14
        have l54 := hb14.lt
        obtain ⟨a55, a56, f57, f58⟩ := cells2 hb36
        have l59 := hb36.lt
        have e60 := Ng2_g11.out
        go_wp2_with fail
        clear a50 a51 f52 f53 l54 a55 a56 f57 f58 l59 e60
        obtain ⟨w61, hw62, hu63, hb64, sz65⟩ := mk_set2 hb14 (.bool s1) (.slice a1 m47 c1) (N := w48.heap.size) rfl
        rw [← hw62]
        replace h0 := h0.upd hb14 (noInt_zz _ _ _ _) hu63
        replace h1 := h1.upd hb14 (noInt_zz _ _ _ _) hu63
        replace h19 := h19.upd hb14 (noInt_zz _ _ _ _) hu63
        replace k19 := k19.upd hb14 (noInt_zz _ _ _ _) hu63
        replace h47 := h47.upd hb14 (noInt_zz _ _ _ _) hu63
        replace k47 := k47.upd hb14 (noInt_zz _ _ _ _) hu63
        replace hB := below_upd hB G18.out hb14.lt hu63
        replace hb36 := hb36.upd Ng2_g11.out hu63
        have Mg39_g11 := hid_ne Ng11_g39
        replace hb42 := hb42.upd Mg39_g11.out hu63
        clear hw62 hu63 hb14
        obtain ⟨w66, g67, hw68, hg69, hb70, al71, ge72, sz73⟩ := mk_alloc w61 [(.slice p47 q47 d47), (.bool r47)] 28 (N := w48.heap.size) sz65
        rw [← hw68]
        have Ng2_g67 := hb36.ne ge72
        have Ng11_g67 := hb64.ne ge72
        have Ng39_g67 := hb42.ne ge72
        have G74 := below_ge hB ge72
        replace hB := ext_trans hB al71
        replace h0 := h0.ext al71
        replace h1 := h1.ext al71
        replace h19 := h19.ext al71
        replace k19 := k19.ext al71
        replace h47 := h47.ext al71
        replace k47 := k47.ext al71
        replace hb36 := hb36.ext al71
        replace hb64 := hb64.ext al71
        replace hb42 := hb42.ext al71
        clear hw68 al71 ge72
        rw [← hg69]
        clear hg69 sz65 sz73
        refine (wExact h19 h47 HY.out HR.out).mono ?_
        rintro e w76 ⟨s75, a75', n75, c75, rfl, h75, hb77⟩
        replace h0 := h0.ext hb77
        replace h1 := h1.ext hb77
        replace h19 := h19.ext hb77
        replace k19 := k19.ext hb77
        replace h47 := h47.ext hb77
        replace k47 := k47.ext hb77
        replace hb36 := hb36.ext hb77
        replace hb64 := hb64.ext hb77
        replace hb42 := hb42.ext hb77
        replace hb70 := hb70.ext hb77
        replace hB := ext_trans hB hb77
        clear hb77
        obtain ⟨a78, a79, f80, f81⟩ := cells2 hb70
        have l82 := hb70.lt
        go_wp2_with fail
        clear a78 a79 f80 f81 l82
        obtain ⟨w83, g84, hw85, hg86, hb87, al88, ge89, sz90⟩ := mk_alloc w76 [(.bool s75), (.slice a75' n75 c75)] 24 (N := w76.heap.size) rfl
        rw [← hw85]
        have Ng2_g84 := hb36.ne ge89
        have Ng11_g84 := hb64.ne ge89
        have Ng39_g84 := hb42.ne ge89
        have Ng67_g84 := hb70.ne ge89
        have G91 := below_ge hB ge89
        replace hB := ext_trans hB al88
        replace h0 := h0.ext al88
        replace h1 := h1.ext al88
        replace h19 := h19.ext al88
        replace k19 := k19.ext al88
        replace h47 := h47.ext al88
        replace k47 := k47.ext al88
        replace h75 := h75.ext al88
        replace hb36 := hb36.ext al88
        replace hb64 := hb64.ext al88
        replace hb42 := hb42.ext al88
        replace hb70 := hb70.ext al88
        clear hw85 al88 ge89
        rw [← hg86]
        clear hg86 sz90
        refine (rZero (b := false) k47 (decide_eq_false HY.out)).mono ?_
        rintro e w92 ⟨rfl, hb93⟩
        replace h0 := h0.ext hb93
        replace h1 := h1.ext hb93
        replace h19 := h19.ext hb93
        replace k19 := k19.ext hb93
        replace h47 := h47.ext hb93
        replace k47 := k47.ext hb93
        replace h75 := h75.ext hb93
        replace hb36 := hb36.ext hb93
        replace hb64 := hb64.ext hb93
        replace hb42 := hb42.ext hb93
        replace hb70 := hb70.ext hb93
        replace hb87 := hb87.ext hb93
        replace hB := ext_trans hB hb93
        clear hb93
        obtain ⟨a94, a95, f96, f97⟩ := cells2 hb42
        have l98 := hb42.lt
        obtain ⟨a99, a100, f101, f102⟩ := cells2 hb70
        have l103 := hb70.lt
        go_wp2_with fail
        clear a94 a95 f96 f97 l98 a99 a100 f101 f102 l103
        refine (rDiv k19 k47 (HY.out)).mono ?_
        rintro e w107 ⟨a104', n104, c104, s104, b104', m104, d104, t104, rfl, h105, h106, hb108⟩
        replace h0 := h0.ext hb108
        replace h1 := h1.ext hb108
        replace h19 := h19.ext hb108
        replace k19 := k19.ext hb108
        replace h47 := h47.ext hb108
        replace k47 := k47.ext hb108
        replace h75 := h75.ext hb108
        replace hb36 := hb36.ext hb108
        replace hb64 := hb64.ext hb108
        replace hb42 := hb42.ext hb108
        replace hb70 := hb70.ext hb108
        replace hb87 := hb87.ext hb108
        replace hB := ext_trans hB hb108
        clear hb108
        go_wp2_with fail
        obtain ⟨w109, g110, hw111, hg112, hb113, al114, ge115, sz116⟩ := mk_alloc w107 [(.slice a104' n104 c104), (.bool s104)] 28 (N := w107.heap.size) rfl
        rw [← hw111]
        have Ng2_g110 := hb36.ne ge115
        have Ng11_g110 := hb64.ne ge115
        have Ng39_g110 := hb42.ne ge115
        have Ng67_g110 := hb70.ne ge115
        have Ng84_g110 := hb87.ne ge115
        have G117 := below_ge hB ge115
        replace hB := ext_trans hB al114
        replace h0 := h0.ext al114
        replace h1 := h1.ext al114
        replace h19 := h19.ext al114
        replace k19 := k19.ext al114
        replace h47 := h47.ext al114
        replace k47 := k47.ext al114
        replace h75 := h75.ext al114
        replace h105 := h105.ext al114
        replace h106 := h106.ext al114
        replace hb36 := hb36.ext al114
        replace hb64 := hb64.ext al114
        replace hb42 := hb42.ext al114
        replace hb70 := hb70.ext al114
        replace hb87 := hb87.ext al114
        clear hw111 al114 ge115
        obtain ⟨w118, g119, hw120, hg121, hb122, al123, ge124, sz125⟩ := mk_alloc w109 [(.slice b104' m104 d104), (.bool t104)] 28 (N := w107.heap.size + 1) sz116
        rw [← hw120]
        have Ng2_g119 := hb36.ne ge124
        have Ng11_g119 := hb64.ne ge124
        have Ng39_g119 := hb42.ne ge124
        have Ng67_g119 := hb70.ne ge124
        have Ng84_g119 := hb87.ne ge124
        have Ng110_g119 := hb113.ne ge124
        have G126 := below_ge hB ge124
        replace hB := ext_trans hB al123
        replace h0 := h0.ext al123
        replace h1 := h1.ext al123
        replace h19 := h19.ext al123
        replace k19 := k19.ext al123
        replace h47 := h47.ext al123
        replace k47 := k47.ext al123
        replace h75 := h75.ext al123
        replace h105 := h105.ext al123
        replace h106 := h106.ext al123
        replace hb36 := hb36.ext al123
        replace hb64 := hb64.ext al123
        replace hb42 := hb42.ext al123
        replace hb70 := hb70.ext al123
        replace hb87 := hb87.ext al123
        replace hb113 := hb113.ext al123
        clear hw120 al123 ge124
        rw [← hg121]
        rw [← hg112]
        clear hg112 hg121 sz116 sz125
        refine (rZero (b := true) h106 (decide_eq_true HR.out)).mono ?_
        rintro e w127 ⟨rfl, hb128⟩
        replace h0 := h0.ext hb128
        replace h1 := h1.ext hb128
        replace h19 := h19.ext hb128
        replace k19 := k19.ext hb128
        replace h47 := h47.ext hb128
        replace k47 := k47.ext hb128
        replace h75 := h75.ext hb128
        replace h105 := h105.ext hb128
        replace h106 := h106.ext hb128
        replace hb36 := hb36.ext hb128
        replace hb64 := hb64.ext hb128
        replace hb42 := hb42.ext hb128
        replace hb70 := hb70.ext hb128
        replace hb87 := hb87.ext hb128
        replace hb113 := hb113.ext hb128
        replace hb122 := hb122.ext hb128
        replace hB := ext_trans hB hb128
        clear hb128
        obtain ⟨a129, a130, f131, f132⟩ := cells2 hb113
        have l133 := hb113.lt
        obtain ⟨a134, a135, f136, f137⟩ := cells2 hb87
        have l138 := hb87.lt
        go_wp2_with fail
        clear a129 a130 f131 f132 l133 a134 a135 f136 f137 l138
        refine (lis h105 h75 (rfl)).mono ?_
        rintro e w139 ⟨rfl, hb140⟩
        replace h0 := h0.ext hb140
        replace h1 := h1.ext hb140
        replace h19 := h19.ext hb140
        replace k19 := k19.ext hb140
        replace h47 := h47.ext hb140
        replace k47 := k47.ext hb140
        replace h75 := h75.ext hb140
        replace h105 := h105.ext hb140
        replace h106 := h106.ext hb140
        replace hb36 := hb36.ext hb140
        replace hb64 := hb64.ext hb140
        replace hb42 := hb42.ext hb140
        replace hb70 := hb70.ext hb140
        replace hb87 := hb87.ext hb140
        replace hb113 := hb113.ext hb140
        replace hb122 := hb122.ext hb140
        replace hB := ext_trans hB hb140
        clear hb140
        go_wp2_with fail
        refine (lwakes _).mono ?_
        rintro e w141 ⟨rfl, hb142⟩
        replace h0 := h0.ext hb142
        replace h1 := h1.ext hb142
        replace h19 := h19.ext hb142
        replace k19 := k19.ext hb142
        replace h47 := h47.ext hb142
        replace k47 := k47.ext hb142
        replace h75 := h75.ext hb142
        replace h105 := h105.ext hb142
        replace h106 := h106.ext hb142
        replace hb36 := hb36.ext hb142
        replace hb64 := hb64.ext hb142
        replace hb42 := hb42.ext hb142
        replace hb70 := hb70.ext hb142
        replace hb87 := hb87.ext hb142
        replace hb113 := hb113.ext hb142
        replace hb122 := hb122.ext hb142
        replace hB := ext_trans hB hb142
        clear hb142
        go_wp2
        go_ret
        exact ⟨rfl, hB⟩
      · have HR := hid hr; clear hr
        obtain ⟨a50, a51, f52, f53⟩ := cells2 hb14
        have l54 := hb14.lt
        obtain ⟨a55, a56, f57, f58⟩ := cells2 hb36
        have l59 := hb36.lt
        have e60 := Ng2_g11.out
        go_wp2_with fail
        clear a50 a51 f52 f53 l54 a55 a56 f57 f58 l59 e60
        obtain ⟨w61, hw62, hu63, hb64, sz65⟩ := mk_set2 hb14 (.bool s1) (.slice a1 m47 c1) (N := w48.heap.size) rfl
        rw [← hw62]
        replace h0 := h0.upd hb14 (noInt_zz _ _ _ _) hu63
        replace h1 := h1.upd hb14 (noInt_zz _ _ _ _) hu63
        replace h19 := h19.upd hb14 (noInt_zz _ _ _ _) hu63
        replace k19 := k19.upd hb14 (noInt_zz _ _ _ _) hu63
        replace h47 := h47.upd hb14 (noInt_zz _ _ _ _) hu63
        replace k47 := k47.upd hb14 (noInt_zz _ _ _ _) hu63
        replace hB := below_upd hB G18.out hb14.lt hu63
        replace hb36 := hb36.upd Ng2_g11.out hu63
        have Mg39_g11 := hid_ne Ng11_g39
        replace hb42 := hb42.upd Mg39_g11.out hu63
        clear hw62 hu63 hb14
        obtain ⟨w66, g67, hw68, hg69, hb70, al71, ge72, sz73⟩ := mk_alloc w61 [(.slice p47 q47 d47), (.bool r47)] 28 (N := w48.heap.size) sz65
        rw [← hw68]
        have Ng2_g67 := hb36.ne ge72
        have Ng11_g67 := hb64.ne ge72
        have Ng39_g67 := hb42.ne ge72
        have G74 := below_ge hB ge72
        replace hB := ext_trans hB al71
        replace h0 := h0.ext al71
        replace h1 := h1.ext al71
        replace h19 := h19.ext al71
        replace k19 := k19.ext al71
        replace h47 := h47.ext al71
        replace k47 := k47.ext al71
        replace hb36 := hb36.ext al71
        replace hb64 := hb64.ext al71
        replace hb42 := hb42.ext al71
        clear hw68 al71 ge72
        rw [← hg69]
        clear hg69 sz65 sz73
        refine (wExactNot h19 h47 HY.out HR.out).mono ?_
        rintro e w75 ⟨rfl, hb76⟩
        replace h0 := h0.ext hb76
        replace h1 := h1.ext hb76
        replace h19 := h19.ext hb76
        replace k19 := k19.ext hb76
        replace h47 := h47.ext hb76
        replace k47 := k47.ext hb76
        replace hb36 := hb36.ext hb76
        replace hb64 := hb64.ext hb76
        replace hb42 := hb42.ext hb76
        replace hb70 := hb70.ext hb76
        replace hB := ext_trans hB hb76
        clear hb76
        obtain ⟨a77, a78, f79, f80⟩ := cells2 hb70
        have l81 := hb70.lt
        go_wp2_with fail
        clear a77 a78 f79 f80 l81
        obtain ⟨w82, g83, hw84, hg85, hb86, al87, ge88, sz89⟩ := mk_alloc w75 [(.bool false), (.slice none 0 0)] 24 (N := w75.heap.size) rfl
        rw [← hw84]
        have Ng2_g83 := hb36.ne ge88
        have Ng11_g83 := hb64.ne ge88
        have Ng39_g83 := hb42.ne ge88
        have Ng67_g83 := hb70.ne ge88
        have G90 := below_ge hB ge88
        replace hB := ext_trans hB al87
        replace h0 := h0.ext al87
        replace h1 := h1.ext al87
        replace h19 := h19.ext al87
        replace k19 := k19.ext al87
        replace h47 := h47.ext al87
        replace k47 := k47.ext al87
        replace hb36 := hb36.ext al87
        replace hb64 := hb64.ext al87
        replace hb42 := hb42.ext al87
        replace hb70 := hb70.ext al87
        clear hw84 al87 ge88
        rw [← hg85]
        clear hg85 sz89
        refine (rZero (b := false) k47 (decide_eq_false HY.out)).mono ?_
        rintro e w91 ⟨rfl, hb92⟩
        replace h0 := h0.ext hb92
        replace h1 := h1.ext hb92
        replace h19 := h19.ext hb92
        replace k19 := k19.ext hb92
        replace h47 := h47.ext hb92
        replace k47 := k47.ext hb92
        replace hb36 := hb36.ext hb92
        replace hb64 := hb64.ext hb92
        replace hb42 := hb42.ext hb92
        replace hb70 := hb70.ext hb92
        replace hb86 := hb86.ext hb92
        replace hB := ext_trans hB hb92
        clear hb92
        obtain ⟨a93, a94, f95, f96⟩ := cells2 hb42
        have l97 := hb42.lt
        obtain ⟨a98, a99, f100, f101⟩ := cells2 hb70
        have l102 := hb70.lt
        go_wp2_with fail
        clear a93 a94 f95 f96 l97 a98 a99 f100 f101 l102
        refine (rDiv k19 k47 (HY.out)).mono ?_
        rintro e w106 ⟨a103', n103, c103, s103, b103', m103, d103, t103, rfl, h104, h105, hb107⟩
        replace h0 := h0.ext hb107
        replace h1 := h1.ext hb107
        replace h19 := h19.ext hb107
        replace k19 := k19.ext hb107
        replace h47 := h47.ext hb107
        replace k47 := k47.ext hb107
        replace hb36 := hb36.ext hb107
        replace hb64 := hb64.ext hb107
        replace hb42 := hb42.ext hb107
        replace hb70 := hb70.ext hb107
        replace hb86 := hb86.ext hb107
        replace hB := ext_trans hB hb107
        clear hb107
        go_wp2_with fail
        obtain ⟨w108, g109, hw110, hg111, hb112, al113, ge114, sz115⟩ := mk_alloc w106 [(.slice a103' n103 c103), (.bool s103)] 28 (N := w106.heap.size) rfl
        rw [← hw110]
        have Ng2_g109 := hb36.ne ge114
        have Ng11_g109 := hb64.ne ge114
        have Ng39_g109 := hb42.ne ge114
        have Ng67_g109 := hb70.ne ge114
        have Ng83_g109 := hb86.ne ge114
        have G116 := below_ge hB ge114
        replace hB := ext_trans hB al113
        replace h0 := h0.ext al113
        replace h1 := h1.ext al113
        replace h19 := h19.ext al113
        replace k19 := k19.ext al113
        replace h47 := h47.ext al113
        replace k47 := k47.ext al113
        replace h104 := h104.ext al113
        replace h105 := h105.ext al113
        replace hb36 := hb36.ext al113
        replace hb64 := hb64.ext al113
        replace hb42 := hb42.ext al113
        replace hb70 := hb70.ext al113
        replace hb86 := hb86.ext al113
        clear hw110 al113 ge114
        obtain ⟨w117, g118, hw119, hg120, hb121, al122, ge123, sz124⟩ := mk_alloc w108 [(.slice b103' m103 d103), (.bool t103)] 28 (N := w106.heap.size + 1) sz115
        rw [← hw119]
        have Ng2_g118 := hb36.ne ge123
        have Ng11_g118 := hb64.ne ge123
        have Ng39_g118 := hb42.ne ge123
        have Ng67_g118 := hb70.ne ge123
        have Ng83_g118 := hb86.ne ge123
        have Ng109_g118 := hb112.ne ge123
        have G125 := below_ge hB ge123
        replace hB := ext_trans hB al122
        replace h0 := h0.ext al122
        replace h1 := h1.ext al122
        replace h19 := h19.ext al122
        replace k19 := k19.ext al122
        replace h47 := h47.ext al122
        replace k47 := k47.ext al122
        replace h104 := h104.ext al122
        replace h105 := h105.ext al122
        replace hb36 := hb36.ext al122
        replace hb64 := hb64.ext al122
        replace hb42 := hb42.ext al122
        replace hb70 := hb70.ext al122
        replace hb86 := hb86.ext al122
        replace hb112 := hb112.ext al122
        clear hw119 al122 ge123
        rw [← hg120]
        rw [← hg111]
        clear hg111 hg120 sz115 sz124
        refine (rZero (b := false) h105 (decide_eq_false HR.out)).mono ?_
        rintro e w126 ⟨rfl, hb127⟩
        replace h0 := h0.ext hb127
        replace h1 := h1.ext hb127
        replace h19 := h19.ext hb127
        replace k19 := k19.ext hb127
        replace h47 := h47.ext hb127
        replace k47 := k47.ext hb127
        replace h104 := h104.ext hb127
        replace h105 := h105.ext hb127
        replace hb36 := hb36.ext hb127
        replace hb64 := hb64.ext hb127
        replace hb42 := hb42.ext hb127
        replace hb70 := hb70.ext hb127
        replace hb86 := hb86.ext hb127
        replace hb112 := hb112.ext hb127
        replace hb121 := hb121.ext hb127
        replace hB := ext_trans hB hb127
        clear hb127
        obtain ⟨a128, a129, f130, f131⟩ := cells2 hb86
        have l132 := hb86.lt
        go_wp2_with fail
        clear a128 a129 f130 f131 l132
        refine (aZero (b := true) (Zn.zero _) (rfl)).mono ?_
        rintro e w133 ⟨rfl, hb134⟩
        replace h0 := h0.ext hb134
        replace h1 := h1.ext hb134
        replace h19 := h19.ext hb134
        replace k19 := k19.ext hb134
        replace h47 := h47.ext hb134
        replace k47 := k47.ext hb134
        replace h104 := h104.ext hb134
        replace h105 := h105.ext hb134
        replace hb36 := hb36.ext hb134
        replace hb64 := hb64.ext hb134
        replace hb42 := hb42.ext hb134
        replace hb70 := hb70.ext hb134
        replace hb86 := hb86.ext hb134
        replace hb112 := hb112.ext hb134
        replace hb121 := hb121.ext hb134
        replace hB := ext_trans hB hb134
        clear hb134
        obtain ⟨a135, a136, f137, f138⟩ := cells2 hb86
        have l139 := hb86.lt
        go_wp2_with fail
        clear a135 a136 f137 f138 l139
        refine (lwakes _).mono ?_
        rintro e w140 ⟨rfl, hb141⟩
        replace h0 := h0.ext hb141
        replace h1 := h1.ext hb141
        replace h19 := h19.ext hb141
        replace k19 := k19.ext hb141
        replace h47 := h47.ext hb141
        replace k47 := k47.ext hb141
        replace h104 := h104.ext hb141
        replace h105 := h105.ext hb141
        replace hb36 := hb36.ext hb141
        replace hb64 := hb64.ext hb141
        replace hb42 := hb42.ext hb141
        replace hb70 := hb70.ext hb141
        replace hb86 := hb86.ext hb141
        replace hb112 := hb112.ext hb141
        replace hb121 := hb121.ext hb141
        replace hB := ext_trans hB hb141
        clear hb141
        go_wp2
        go_ret
        exact ⟨rfl, hB⟩
  · skip
    go_enter Try.func4, Try.ntmps4
    have hB := Below.refl w.heap.size w
    go_wp2_with fail
    obtain ⟨w1, g2, hw3, hg4, hb5, al6, ge7, sz8⟩ := mk_alloc w [(.bool s0), (.slice a0 n0 c0)] 24 (N := w.heap.size) rfl
    rw [← hw3]
    have G9 := below_ge hB ge7
    replace hB := ext_trans hB al6
    replace h0 := h0.ext al6
    replace h1 := h1.ext al6
    clear hw3 al6 ge7
    obtain ⟨w10, g11, hw12, hg13, hb14, al15, ge16, sz17⟩ := mk_alloc w1 [(.bool s1), (.slice a1 n1 c1)] 24 (N := w.heap.size + 1) sz8
    rw [← hw12]
    have Ng2_g11 := hb5.ne ge16
    have G18 := below_ge hB ge16
    replace hB := ext_trans hB al15
    replace h0 := h0.ext al15
    replace h1 := h1.ext al15
    replace hb5 := hb5.ext al15
    clear hw12 al15 ge16
    rw [← hg13]
    rw [← hg4]
    clear hg4 hg13 sz8 sz17
    refine (lof 8 h0).mono ?_
    rintro e w20 ⟨m19, z19, p19, q19, d19, r19, rfl, h19, k19, hb21⟩
    replace h0 := h0.ext hb21
    replace h1 := h1.ext hb21
    replace hb5 := hb5.ext hb21
    replace hb14 := hb14.ext hb21
    replace hB := ext_trans hB hb21
    clear hb21
    obtain ⟨a22, a23, f24, f25⟩ := cells2 hb5
    have l26 := hb5.lt
    obtain ⟨a27, a28, f29, f30⟩ := cells2 hb14
    have l31 := hb14.lt
    have Mg11_g2 := hid_ne Ng2_g11
    have e32 := Mg11_g2.out
    go_wp2_with fail
    clear a22 a23 f24 f25 l26 a27 a28 f29 f30 l31 e32
    obtain ⟨w33, hw34, hu35, hb36, sz37⟩ := mk_set2 hb5 (.bool s0) (.slice a0 m19 c0) (N := w20.heap.size) rfl
    rw [← hw34]
    replace h0 := h0.upd hb5 (noInt_zz _ _ _ _) hu35
    replace h1 := h1.upd hb5 (noInt_zz _ _ _ _) hu35
    replace h19 := h19.upd hb5 (noInt_zz _ _ _ _) hu35
    replace k19 := k19.upd hb5 (noInt_zz _ _ _ _) hu35
    replace hB := below_upd hB G9.out hb5.lt hu35
    replace hb14 := hb14.upd Mg11_g2.out hu35
    clear hw34 hu35 hb5
    obtain ⟨w38, g39, hw40, hg41, hb42, al43, ge44, sz45⟩ := mk_alloc w33 [(.slice p19 q19 d19), (.bool r19)] 28 (N := w20.heap.size) sz37
    rw [← hw40]
    have Ng2_g39 := hb36.ne ge44
    have Ng11_g39 := hb14.ne ge44
    have G46 := below_ge hB ge44
    replace hB := ext_trans hB al43
    replace h0 := h0.ext al43
    replace h1 := h1.ext al43
    replace h19 := h19.ext al43
    replace k19 := k19.ext al43
    replace hb36 := hb36.ext al43
    replace hb14 := hb14.ext al43
    clear hw40 al43 ge44
    rw [← hg41]
    clear hg41 sz37 sz45
    refine (lof 6 h1).mono ?_
    rintro e w48 ⟨m47, z47, p47, q47, d47, r47, rfl, h47, k47, hb49⟩
    replace h0 := h0.ext hb49
    replace h1 := h1.ext hb49
    replace h19 := h19.ext hb49
    replace k19 := k19.ext hb49
    replace hb36 := hb36.ext hb49
    replace hb14 := hb14.ext hb49
    replace hb42 := hb42.ext hb49
    replace hB := ext_trans hB hb49
    clear hb49
    obtain ⟨a50, a51, f52, f53⟩ := cells2 hb14
    have l54 := hb14.lt
    obtain ⟨a55, a56, f57, f58⟩ := cells2 hb42
    have l59 := hb42.lt
    have Mg39_g11 := hid_ne Ng11_g39
    have e60 := Mg39_g11.out
    go_wp2_with fail
    clear a50 a51 f52 f53 l54 a55 a56 f57 f58 l59 e60
    obtain ⟨w61, hw62, hu63, hb64, sz65⟩ := mk_set2 hb14 (.bool s1) (.slice a1 m47 c1) (N := w48.heap.size) rfl
    rw [← hw62]
    replace h0 := h0.upd hb14 (noInt_zz _ _ _ _) hu63
    replace h1 := h1.upd hb14 (noInt_zz _ _ _ _) hu63
    replace h19 := h19.upd hb14 (noInt_zz _ _ _ _) hu63
    replace k19 := k19.upd hb14 (noInt_zz _ _ _ _) hu63
    replace h47 := h47.upd hb14 (noInt_zz _ _ _ _) hu63
    replace k47 := k47.upd hb14 (noInt_zz _ _ _ _) hu63
    replace hB := below_upd hB G18.out hb14.lt hu63
    replace hb36 := hb36.upd Ng2_g11.out hu63
    replace hb42 := hb42.upd Mg39_g11.out hu63
    clear hw62 hu63 hb14
    obtain ⟨w66, g67, hw68, hg69, hb70, al71, ge72, sz73⟩ := mk_alloc w61 [(.slice p47 q47 d47), (.bool r47)] 28 (N := w48.heap.size) sz65
    rw [← hw68]
    have Ng2_g67 := hb36.ne ge72
    have Ng11_g67 := hb64.ne ge72
    have Ng39_g67 := hb42.ne ge72
    have G74 := below_ge hB ge72
    replace hB := ext_trans hB al71
    replace h0 := h0.ext al71
    replace h1 := h1.ext al71
    replace h19 := h19.ext al71
    replace k19 := k19.ext al71
    replace h47 := h47.ext al71
    replace k47 := k47.ext al71
    replace hb36 := hb36.ext al71
    replace hb64 := hb64.ext al71
    replace hb42 := hb42.ext al71
    clear hw68 al71 ge72
    rw [← hg69]
    clear hg69 sz65 sz73
    refine (rMul k19 k47).mono ?_
    rintro e w76 ⟨o75, n75, c75, r75, rfl, h75, hb77⟩
    replace h0 := h0.ext hb77
    replace h1 := h1.ext hb77
    replace h19 := h19.ext hb77
    replace k19 := k19.ext hb77
    replace h47 := h47.ext hb77
    replace k47 := k47.ext hb77
    replace hb36 := hb36.ext hb77
    replace hb64 := hb64.ext hb77
    replace hb42 := hb42.ext hb77
    replace hb70 := hb70.ext hb77
    replace hB := ext_trans hB hb77
    clear hb77
    obtain ⟨a78, a79, f80, f81⟩ := cells2 hb42
    have l82 := hb42.lt
    go_wp2_with fail
    clear a78 a79 f80 f81 l82
    obtain ⟨w83, hw84, hu85, hb86, sz87⟩ := mk_set2 hb42 (.slice o75 n75 c75) (.bool r75) (N := w76.heap.size) rfl
    rw [← hw84]
    replace h0 := h0.upd hb42 (noInt_rr _ _ _ _) hu85
    replace h1 := h1.upd hb42 (noInt_rr _ _ _ _) hu85
    replace h19 := h19.upd hb42 (noInt_rr _ _ _ _) hu85
    replace k19 := k19.upd hb42 (noInt_rr _ _ _ _) hu85
    replace h47 := h47.upd hb42 (noInt_rr _ _ _ _) hu85
    replace k47 := k47.upd hb42 (noInt_rr _ _ _ _) hu85
    replace h75 := h75.upd hb42 (noInt_rr _ _ _ _) hu85
    replace hB := below_upd hB G46.out hb42.lt hu85
    replace hb36 := hb36.upd Ng2_g39.out hu85
    replace hb64 := hb64.upd Ng11_g39.out hu85
    have Mg67_g39 := hid_ne Ng39_g67
    replace hb70 := hb70.upd Mg67_g39.out hu85
    clear hw84 hu85 hb42
    clear sz87
    refine (rTo h75).mono ?_
    rintro e w89 ⟨r88, o88, n88, c88, rfl, h88, hb90⟩
    replace h0 := h0.ext hb90
    replace h1 := h1.ext hb90
    replace h19 := h19.ext hb90
    replace k19 := k19.ext hb90
    replace h47 := h47.ext hb90
    replace k47 := k47.ext hb90
    replace h75 := h75.ext hb90
    replace hb36 := hb36.ext hb90
    replace hb64 := hb64.ext hb90
    replace hb86 := hb86.ext hb90
    replace hb70 := hb70.ext hb90
    replace hB := ext_trans hB hb90
    clear hb90
    by_cases hy : z47 = 0
    · have HY := hid hy; clear hy
      obtain ⟨a91, a92, f93, f94⟩ := cells2 hb36
      have l95 := hb36.lt
      obtain ⟨a96, a97, f98, f99⟩ := cells2 hb64
      have l100 := hb64.lt
      have e101 := Mg11_g2.out
      go_wp2_with fail
      clear a91 a92 f93 f94 l95 a96 a97 f98 f99 l100 e101
      obtain ⟨w102, hw103, hu104, hb105, sz106⟩ := mk_set2 hb36 (.bool r88) (.slice o88 n88 c88) (N := w89.heap.size) rfl
      rw [← hw103]
      replace h0 := h0.upd hb36 (noInt_zz _ _ _ _) hu104
      replace h1 := h1.upd hb36 (noInt_zz _ _ _ _) hu104
      replace h19 := h19.upd hb36 (noInt_zz _ _ _ _) hu104
      replace k19 := k19.upd hb36 (noInt_zz _ _ _ _) hu104
      replace h47 := h47.upd hb36 (noInt_zz _ _ _ _) hu104
      replace k47 := k47.upd hb36 (noInt_zz _ _ _ _) hu104
      replace h75 := h75.upd hb36 (noInt_zz _ _ _ _) hu104
      replace h88 := h88.upd hb36 (noInt_zz _ _ _ _) hu104
      replace hB := below_upd hB G9.out hb36.lt hu104
      replace hb64 := hb64.upd Mg11_g2.out hu104
      have Mg39_g2 := hid_ne Ng2_g39
      replace hb86 := hb86.upd Mg39_g2.out hu104
      have Mg67_g2 := hid_ne Ng2_g67
      replace hb70 := hb70.upd Mg67_g2.out hu104
      clear hw103 hu104 hb36
      clear sz106
      refine (wExact0 h88.any (by rw [← HY.out]; exact h47)).mono ?_
      rintro e w107 ⟨rfl, hb108⟩
      replace h0 := h0.ext hb108
      replace h1 := h1.ext hb108
      replace h19 := h19.ext hb108
      replace k19 := k19.ext hb108
      replace h47 := h47.ext hb108
      replace k47 := k47.ext hb108
      replace h75 := h75.ext hb108
      replace h88 := h88.ext hb108
      replace hb105 := hb105.ext hb108
      replace hb64 := hb64.ext hb108
      replace hb86 := hb86.ext hb108
      replace hb70 := hb70.ext hb108
      replace hB := ext_trans hB hb108
      clear hb108
      obtain ⟨a109, a110, f111, f112⟩ := cells2 hb70
      have l113 := hb70.lt
      go_wp2_with fail
      clear a109 a110 f111 f112 l113
      obtain ⟨w114, g115, hw116, hg117, hb118, al119, ge120, sz121⟩ := mk_alloc w107 [(.bool false), (.slice none 0 0)] 24 (N := w107.heap.size) rfl
      rw [← hw116]
      have Ng2_g115 := hb105.ne ge120
      have Ng11_g115 := hb64.ne ge120
      have Ng39_g115 := hb86.ne ge120
      have Ng67_g115 := hb70.ne ge120
      have G122 := below_ge hB ge120
      replace hB := ext_trans hB al119
      replace h0 := h0.ext al119
      replace h1 := h1.ext al119
      replace h19 := h19.ext al119
      replace k19 := k19.ext al119
      replace h47 := h47.ext al119
      replace k47 := k47.ext al119
      replace h75 := h75.ext al119
      replace h88 := h88.ext al119
      replace hb105 := hb105.ext al119
      replace hb64 := hb64.ext al119
      replace hb86 := hb86.ext al119
      replace hb70 := hb70.ext al119
      clear hw116 al119 ge120
      rw [← hg117]
      clear hg117 sz121
      refine (rZero (b := true) k47 (decide_eq_true HY.out)).mono ?_
      rintro e w123 ⟨rfl, hb124⟩
      replace h0 := h0.ext hb124
      replace h1 := h1.ext hb124
      replace h19 := h19.ext hb124
      replace k19 := k19.ext hb124
      replace h47 := h47.ext hb124
      replace k47 := k47.ext hb124
      replace h75 := h75.ext hb124
      replace h88 := h88.ext hb124
      replace hb105 := hb105.ext hb124
      replace hb64 := hb64.ext hb124
      replace hb86 := hb86.ext hb124
      replace hb70 := hb70.ext hb124
      replace hb118 := hb118.ext hb124
      replace hB := ext_trans hB hb124
      clear hb124
      obtain ⟨a125, a126, f127, f128⟩ := cells2 hb118
      have l129 := hb118.lt
      go_wp2_with fail
      clear a125 a126 f127 f128 l129
      refine (aZero (b := true) (Zn.zero _) (rfl)).mono ?_
      rintro e w130 ⟨rfl, hb131⟩
      replace h0 := h0.ext hb131
      replace h1 := h1.ext hb131
      replace h19 := h19.ext hb131
      replace k19 := k19.ext hb131
      replace h47 := h47.ext hb131
      replace k47 := k47.ext hb131
      replace h75 := h75.ext hb131
      replace h88 := h88.ext hb131
      replace hb105 := hb105.ext hb131
      replace hb64 := hb64.ext hb131
      replace hb86 := hb86.ext hb131
      replace hb70 := hb70.ext hb131
      replace hb118 := hb118.ext hb131
      replace hB := ext_trans hB hb131
      clear hb131
      obtain ⟨a132, a133, f134, f135⟩ := cells2 hb118
      have l136 := hb118.lt
      go_wp2_with fail
      clear a132 a133 f134 f135 l136
      refine (lwakes _).mono ?_
      rintro e w137 ⟨rfl, hb138⟩
      replace h0 := h0.ext hb138
      replace h1 := h1.ext hb138
      replace h19 := h19.ext hb138
      replace k19 := k19.ext hb138
      replace h47 := h47.ext hb138
      replace k47 := k47.ext hb138
      replace h75 := h75.ext hb138
      replace h88 := h88.ext hb138
      replace hb105 := hb105.ext hb138
      replace hb64 := hb64.ext hb138
      replace hb86 := hb86.ext hb138
      replace hb70 := hb70.ext hb138
      replace hb118 := hb118.ext hb138
      replace hB := ext_trans hB hb138
      clear hb138
      go_wp2
      go_ret
      exact ⟨rfl, hB⟩
    · have HY := hid hy; clear hy
      have HR : Hid ((z19 * z47) % z47 = 0) := hid (Int.mul_emod_left _ _)
      obtain ⟨a91, a92, f93, f94⟩ := cells2 hb36
      have l95 := hb36.lt
      obtain ⟨a96, a97, f98, f99⟩ := cells2 hb64
      have l100 := hb64.lt
      have e101 := Mg11_g2.out
      go_wp2_with fail
      clear a91 a92 f93 f94 l95 a96 a97 f98 f99 l100 e101
      obtain ⟨w102, hw103, hu104, hb105, sz106⟩ := mk_set2 hb36 (.bool r88) (.slice o88 n88 c88) (N := w89.heap.size) rfl
      rw [← hw103]
      replace h0 := h0.upd hb36 (noInt_zz _ _ _ _) hu104
      replace h1 := h1.upd hb36 (noInt_zz _ _ _ _) hu104
      replace h19 := h19.upd hb36 (noInt_zz _ _ _ _) hu104
      replace k19 := k19.upd hb36 (noInt_zz _ _ _ _) hu104
      replace h47 := h47.upd hb36 (noInt_zz _ _ _ _) hu104
      replace k47 := k47.upd hb36 (noInt_zz _ _ _ _) hu104
      replace h75 := h75.upd hb36 (noInt_zz _ _ _ _) hu104
      replace h88 := h88.upd hb36 (noInt_zz _ _ _ _) hu104
      replace hB := below_upd hB G9.out hb36.lt hu104
      replace hb64 := hb64.upd Mg11_g2.out hu104
      have Mg39_g2 := hid_ne Ng2_g39
      replace hb86 := hb86.upd Mg39_g2.out hu104
      have Mg67_g2 := hid_ne Ng2_g67
      replace hb70 := hb70.upd Mg67_g2.out hu104
      clear hw103 hu104 hb36
      clear sz106
      refine (wExact h88.any h47 HY.out HR.out).mono ?_
      rintro e w108 ⟨s107, a107', n107, c107, rfl, h107, hb109⟩
      replace h0 := h0.ext hb109
      replace h1 := h1.ext hb109
      replace h19 := h19.ext hb109
      replace k19 := k19.ext hb109
      replace h47 := h47.ext hb109
      replace k47 := k47.ext hb109
      replace h75 := h75.ext hb109
      replace h88 := h88.ext hb109
      replace hb105 := hb105.ext hb109
      replace hb64 := hb64.ext hb109
      replace hb86 := hb86.ext hb109
      replace hb70 := hb70.ext hb109
      replace hB := ext_trans hB hb109
      clear hb109
      obtain ⟨a110, a111, f112, f113⟩ := cells2 hb70
      have l114 := hb70.lt
      go_wp2_with fail
      clear a110 a111 f112 f113 l114
      obtain ⟨w115, g116, hw117, hg118, hb119, al120, ge121, sz122⟩ := mk_alloc w108 [(.bool s107), (.slice a107' n107 c107)] 24 (N := w108.heap.size) rfl
      rw [← hw117]
      have Ng2_g116 := hb105.ne ge121
      have Ng11_g116 := hb64.ne ge121
      have Ng39_g116 := hb86.ne ge121
      have Ng67_g116 := hb70.ne ge121
      have G123 := below_ge hB ge121
      replace hB := ext_trans hB al120
      replace h0 := h0.ext al120
      replace h1 := h1.ext al120
      replace h19 := h19.ext al120
      replace k19 := k19.ext al120
      replace h47 := h47.ext al120
      replace k47 := k47.ext al120
      replace h75 := h75.ext al120
      replace h88 := h88.ext al120
      replace h107 := h107.ext al120
      replace hb105 := hb105.ext al120
      replace hb64 := hb64.ext al120
      replace hb86 := hb86.ext al120
      replace hb70 := hb70.ext al120
      clear hw117 al120 ge121
      rw [← hg118]
      clear hg118 sz122
      refine (rZero (b := false) k47 (decide_eq_false HY.out)).mono ?_
      rintro e w124 ⟨rfl, hb125⟩
      replace h0 := h0.ext hb125
      replace h1 := h1.ext hb125
      replace h19 := h19.ext hb125
      replace k19 := k19.ext hb125
      replace h47 := h47.ext hb125
      replace k47 := k47.ext hb125
      replace h75 := h75.ext hb125
      replace h88 := h88.ext hb125
      replace h107 := h107.ext hb125
      replace hb105 := hb105.ext hb125
      replace hb64 := hb64.ext hb125
      replace hb86 := hb86.ext hb125
      replace hb70 := hb70.ext hb125
      replace hb119 := hb119.ext hb125
      replace hB := ext_trans hB hb125
      clear hb125
      obtain ⟨a126, a127, f128, f129⟩ := cells2 hb86
      have l130 := hb86.lt
      obtain ⟨a131, a132, f133, f134⟩ := cells2 hb70
      have l135 := hb70.lt
      go_wp2_with fail
      clear a126 a127 f128 f129 l130 a131 a132 f133 f134 l135
      refine (rDiv h75 k47 (HY.out)).mono ?_
      rintro e w139 ⟨a136', n136, c136, s136, b136', m136, d136, t136, rfl, h137, h138, hb140⟩
      replace h0 := h0.ext hb140
      replace h1 := h1.ext hb140
      replace h19 := h19.ext hb140
      replace k19 := k19.ext hb140
      replace h47 := h47.ext hb140
      replace k47 := k47.ext hb140
      replace h75 := h75.ext hb140
      replace h88 := h88.ext hb140
      replace h107 := h107.ext hb140
      replace hb105 := hb105.ext hb140
      replace hb64 := hb64.ext hb140
      replace hb86 := hb86.ext hb140
      replace hb70 := hb70.ext hb140
      replace hb119 := hb119.ext hb140
      replace hB := ext_trans hB hb140
      clear hb140
      go_wp2_with fail
      obtain ⟨w141, g142, hw143, hg144, hb145, al146, ge147, sz148⟩ := mk_alloc w139 [(.slice a136' n136 c136), (.bool s136)] 28 (N := w139.heap.size) rfl
      rw [← hw143]
      have Ng2_g142 := hb105.ne ge147
      have Ng11_g142 := hb64.ne ge147
      have Ng39_g142 := hb86.ne ge147
      have Ng67_g142 := hb70.ne ge147
      have Ng116_g142 := hb119.ne ge147
      have G149 := below_ge hB ge147
      replace hB := ext_trans hB al146
      replace h0 := h0.ext al146
      replace h1 := h1.ext al146
      replace h19 := h19.ext al146
      replace k19 := k19.ext al146
      replace h47 := h47.ext al146
      replace k47 := k47.ext al146
      replace h75 := h75.ext al146
      replace h88 := h88.ext al146
      replace h107 := h107.ext al146
      replace h137 := h137.ext al146
      replace h138 := h138.ext al146
      replace hb105 := hb105.ext al146
      replace hb64 := hb64.ext al146
      replace hb86 := hb86.ext al146
      replace hb70 := hb70.ext al146
      replace hb119 := hb119.ext al146
      clear hw143 al146 ge147
      obtain ⟨w150, g151, hw152, hg153, hb154, al155, ge156, sz157⟩ := mk_alloc w141 [(.slice b136' m136 d136), (.bool t136)] 28 (N := w139.heap.size + 1) sz148
      rw [← hw152]
      have Ng2_g151 := hb105.ne ge156
      have Ng11_g151 := hb64.ne ge156
      have Ng39_g151 := hb86.ne ge156
      have Ng67_g151 := hb70.ne ge156
      have Ng116_g151 := hb119.ne ge156
      have Ng142_g151 := hb145.ne ge156
      have G158 := below_ge hB ge156
      replace hB := ext_trans hB al155
      replace h0 := h0.ext al155
      replace h1 := h1.ext al155
      replace h19 := h19.ext al155
      replace k19 := k19.ext al155
      replace h47 := h47.ext al155
      replace k47 := k47.ext al155
      replace h75 := h75.ext al155
      replace h88 := h88.ext al155
      replace h107 := h107.ext al155
      replace h137 := h137.ext al155
      replace h138 := h138.ext al155
      replace hb105 := hb105.ext al155
      replace hb64 := hb64.ext al155
      replace hb86 := hb86.ext al155
      replace hb70 := hb70.ext al155
      replace hb119 := hb119.ext al155
      replace hb145 := hb145.ext al155
      clear hw152 al155 ge156
      rw [← hg153]
      rw [← hg144]
      clear hg144 hg153 sz148 sz157
      refine (rZero (b := true) h138 (decide_eq_true HR.out)).mono ?_
      rintro e w159 ⟨rfl, hb160⟩
      replace h0 := h0.ext hb160
      replace h1 := h1.ext hb160
      replace h19 := h19.ext hb160
      replace k19 := k19.ext hb160
      replace h47 := h47.ext hb160
      replace k47 := k47.ext hb160
      replace h75 := h75.ext hb160
      replace h88 := h88.ext hb160
      replace h107 := h107.ext hb160
      replace h137 := h137.ext hb160
      replace h138 := h138.ext hb160
      replace hb105 := hb105.ext hb160
      replace hb64 := hb64.ext hb160
      replace hb86 := hb86.ext hb160
      replace hb70 := hb70.ext hb160
      replace hb119 := hb119.ext hb160
      replace hb145 := hb145.ext hb160
      replace hb154 := hb154.ext hb160
      replace hB := ext_trans hB hb160
      clear hb160
      obtain ⟨a161, a162, f163, f164⟩ := cells2 hb145
      have l165 := hb145.lt
      obtain ⟨a166, a167, f168, f169⟩ := cells2 hb119
      have l170 := hb119.lt
      go_wp2_with fail
      clear a161 a162 f163 f164 l165 a166 a167 f168 f169 l170
      refine (lis h137 h107 (rfl)).mono ?_
      rintro e w171 ⟨rfl, hb172⟩
      replace h0 := h0.ext hb172
      replace h1 := h1.ext hb172
      replace h19 := h19.ext hb172
      replace k19 := k19.ext hb172
      replace h47 := h47.ext hb172
      replace k47 := k47.ext hb172
      replace h75 := h75.ext hb172
      replace h88 := h88.ext hb172
      replace h107 := h107.ext hb172
      replace h137 := h137.ext hb172
      replace h138 := h138.ext hb172
      replace hb105 := hb105.ext hb172
      replace hb64 := hb64.ext hb172
      replace hb86 := hb86.ext hb172
      replace hb70 := hb70.ext hb172
      replace hb119 := hb119.ext hb172
      replace hb145 := hb145.ext hb172
      replace hb154 := hb154.ext hb172
      replace hB := ext_trans hB hb172
      clear hb172
      go_wp2_with fail
      refine (lwakes _).mono ?_
      rintro e w173 ⟨rfl, hb174⟩
      replace h0 := h0.ext hb174
      replace h1 := h1.ext hb174
      replace h19 := h19.ext hb174
      replace k19 := k19.ext hb174
      replace h47 := h47.ext hb174
      replace k47 := k47.ext hb174
      replace h75 := h75.ext hb174
      replace h88 := h88.ext hb174
      replace h107 := h107.ext hb174
      replace h137 := h137.ext hb174
      replace h138 := h138.ext hb174
      replace hb105 := hb105.ext hb174
      replace hb64 := hb64.ext hb174
      replace hb86 := hb86.ext hb174
      replace hb70 := hb70.ext hb174
      replace hb119 := hb119.ext hb174
      replace hb145 := hb145.ext hb174
      replace hb154 := hb154.ext hb174
      replace hB := ext_trans hB hb174
      clear hb174
      go_wp2
      go_ret
      exact ⟨rfl, hB⟩

end Go.Proofs.Ytkcagkcphobmfaa
