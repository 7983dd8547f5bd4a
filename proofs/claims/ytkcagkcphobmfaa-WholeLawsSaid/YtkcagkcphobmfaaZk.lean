/-
  WALKS: whole.Exact; the example of chapter 2.
-/
import Derived.Test.YtkcagkcphobmfaaZj
set_option linter.unusedVariables false
set_option linter.unusedSimpArgs false
namespace Go.Proofs.Ytkcagkcphobmfaa
open Go.RowKit

/-- The post: a number, and no error. -/
def RetE (K : Nat) (w : World) (z : Int) (e : Ending) (w' : World) : Prop := ∃ s ao n c, e = .returned (.tuple #[.agg #[.bool s, .slice ao n c], .int .i64 0]) ∧ Zn K w' s ao n c z ∧ Below w.heap.size w w'

set_option maxHeartbeats 4000000 in
theorem wExact0 {K L : Nat} {w : World} {s t : Bool} {ao bo : Option Addr} {n c m d : Nat} {x : Int} (h : Za K w s ao n c x) (k : Za L w t bo m d 0)  (hK : K ≤ 1073741000 := by omega) (hL : L ≤ 1073741000 := by omega) :
    Calls Try.prog 23 #[.agg #[.bool s, .slice ao n c], .agg #[.bool t, .slice bo m d]] w (RetV (.tuple #[.agg #[.bool false, .slice none 0 0], .int .i64 2]) w) := by
  go_enter Try.func23, Try.ntmps23
  have hB := Below.refl w.heap.size w
  go_wp2_with fail
  obtain ⟨w1, g2, hw3, hg4, hb5, al6, ge7, sz8⟩ := mk_alloc w [(.bool s), (.slice ao n c)] 24 (N := w.heap.size) rfl
  rw [← hw3]
  have G9 := below_ge hB ge7
  replace hB := ext_trans hB al6
  replace h := h.ext al6
  replace k := k.ext al6
  clear hw3 al6 ge7
  obtain ⟨w10, g11, hw12, hg13, hb14, al15, ge16, sz17⟩ := mk_alloc w1 [(.bool t), (.slice bo m d)] 24 (N := w.heap.size + 1) sz8
  rw [← hw12]
  have Ng2_g11 := hb5.ne ge16
  have G18 := below_ge hB ge16
  replace hB := ext_trans hB al15
  replace h := h.ext al15
  replace k := k.ext al15
  replace hb5 := hb5.ext al15
  clear hw12 al15 ge16
  obtain ⟨w19, g20, hw21, hg22, hb23, al24, ge25, sz26⟩ := mk_alloc w10 [(.bool false), (.slice none 0 0)] 24 (N := w.heap.size + 1 + 1) sz17
  rw [← hw21]
  have Ng2_g20 := hb5.ne ge25
  have Ng11_g20 := hb14.ne ge25
  have G27 := below_ge hB ge25
  replace hB := ext_trans hB al24
  replace h := h.ext al24
  replace k := k.ext al24
  replace hb5 := hb5.ext al24
  replace hb14 := hb14.ext al24
  clear hw21 al24 ge25
  try rw [show w.heap.size + 2 = g20 from hg22.symm]
  try rw [← hg22]
  rw [← hg13]
  rw [← hg4]
  clear hg4 hg13 hg22 sz8 sz17 sz26
  refine (wDiv0 h k).mono ?_
  rintro e w28 ⟨rfl, hb29⟩
  replace h := h.ext hb29
  replace k := k.ext hb29
  replace hb5 := hb5.ext hb29
  replace hb14 := hb14.ext hb29
  replace hb23 := hb23.ext hb29
  replace hB := ext_trans hB hb29
  clear hb29
  obtain ⟨a30, a31, f32, f33⟩ := cells2 hb23
  have l34 := hb23.lt
  go_wp2_with fail
  clear a30 a31 f32 f33 l34
  obtain ⟨w35, hw36, hu37, hb38, sz39⟩ := mk_set2 hb23 (.bool false) (.slice none 0 0) (N := w28.heap.size) rfl
  rw [← hw36]
  replace h := h.upd hb23 (noInt_zz _ _ _ _) hu37
  replace k := k.upd hb23 (noInt_zz _ _ _ _) hu37
  replace hB := below_upd hB G27.out hb23.lt hu37
  replace hb5 := hb5.upd Ng2_g20.out hu37
  replace hb14 := hb14.upd Ng11_g20.out hu37
  clear hw36 hu37 hb23
  obtain ⟨w40, g41, hw42, hg43, hb44, al45, ge46, sz47⟩ := mk_alloc w35 [(.bool false), (.slice none 0 0)] 24 (N := w28.heap.size) sz39
  rw [← hw42]
  have Ng2_g41 := hb5.ne ge46
  have Ng11_g41 := hb14.ne ge46
  have Ng20_g41 := hb38.ne ge46
  have G48 := below_ge hB ge46
  replace hB := ext_trans hB al45
  replace h := h.ext al45
  replace k := k.ext al45
  replace hb5 := hb5.ext al45
  replace hb14 := hb14.ext al45
  replace hb38 := hb38.ext al45
  clear hw42 al45 ge46
  obtain ⟨w49, g50, hw51, hg52, hb53, al54, ge55, sz56⟩ := mk_alloc w40 [(.bool false), (.slice none 0 0)] 24 (N := w28.heap.size + 1) sz47
  rw [← hw51]
  have Ng2_g50 := hb5.ne ge55
  have Ng11_g50 := hb14.ne ge55
  have Ng20_g50 := hb38.ne ge55
  have Ng41_g50 := hb44.ne ge55
  have G57 := below_ge hB ge55
  replace hB := ext_trans hB al54
  replace h := h.ext al54
  replace k := k.ext al54
  replace hb5 := hb5.ext al54
  replace hb14 := hb14.ext al54
  replace hb38 := hb38.ext al54
  replace hb44 := hb44.ext al54
  clear hw51 al54 ge55
  rw [← hg52]
  rw [← hg43]
  clear hg43 hg52 sz39 sz47 sz56
  obtain ⟨a58, a59, f60, f61⟩ := cells2 hb38
  have l62 := hb38.lt
  go_wp2
  refine bodyPost_ret (by simp [results, Try.results23, go_sem, a58, a59]; try rfl) rfl ?_
  exact ⟨rfl, hB⟩

set_option maxHeartbeats 4000000 in
theorem wExact {K L : Nat} {w : World} {s t : Bool} {ao bo : Option Addr} {n c m d : Nat} {x y : Int} (h : Za K w s ao n c x) (k : Za L w t bo m d y) (hy : y ≠ 0) (hr : x % y = 0) (hK : K ≤ 1073741000 := by omega) (hL : L ≤ 1073741000 := by omega) :
    Calls Try.prog 23 #[.agg #[.bool s, .slice ao n c], .agg #[.bool t, .slice bo m d]] w (RetE (K + 2) w (x / y)) := by
  go_enter Try.func23, Try.ntmps23
  have hB := Below.refl w.heap.size w
  go_wp2_with fail
  obtain ⟨w1, g2, hw3, hg4, hb5, al6, ge7, sz8⟩ := mk_alloc w [(.bool s), (.slice ao n c)] 24 (N := w.heap.size) rfl
  rw [← hw3]
  have G9 := below_ge hB ge7
  replace hB := ext_trans hB al6
  replace h := h.ext al6
  replace k := k.ext al6
  clear hw3 al6 ge7
  obtain ⟨w10, g11, hw12, hg13, hb14, al15, ge16, sz17⟩ := mk_alloc w1 [(.bool t), (.slice bo m d)] 24 (N := w.heap.size + 1) sz8
  rw [← hw12]
  have Ng2_g11 := hb5.ne ge16
  have G18 := below_ge hB ge16
  replace hB := ext_trans hB al15
  replace h := h.ext al15
  replace k := k.ext al15
  replace hb5 := hb5.ext al15
  clear hw12 al15 ge16
  obtain ⟨w19, g20, hw21, hg22, hb23, al24, ge25, sz26⟩ := mk_alloc w10 [(.bool false), (.slice none 0 0)] 24 (N := w.heap.size + 1 + 1) sz17
  rw [← hw21]
  have Ng2_g20 := hb5.ne ge25
  have Ng11_g20 := hb14.ne ge25
  have G27 := below_ge hB ge25
  replace hB := ext_trans hB al24
  replace h := h.ext al24
  replace k := k.ext al24
  replace hb5 := hb5.ext al24
  replace hb14 := hb14.ext al24
  clear hw21 al24 ge25
  try rw [show w.heap.size + 2 = g20 from hg22.symm]
  try rw [← hg22]
  rw [← hg13]
  rw [← hg4]
  clear hg4 hg13 hg22 sz8 sz17 sz26
  refine (wDiv h k (hy)).mono ?_
  rintro e w31 ⟨s28, a28', n28, c28, t28, b28', m28, d28, rfl, h29, h30, hb32⟩
  replace h := h.ext hb32
  replace k := k.ext hb32
  replace hb5 := hb5.ext hb32
  replace hb14 := hb14.ext hb32
  replace hb23 := hb23.ext hb32
  replace hB := ext_trans hB hb32
  clear hb32
  have HN : Hid (m28 = 0) := hid (h30.nz.2 hr)
  have e1 : decide ((0 : Int) < (m28 : Int)) = false := by rw [decide_eq_false_iff_not]; have := HN.out; omega
  have e2 : decide (0 < m28) = false := by rw [decide_eq_false_iff_not]; have := HN.out; omega
  have HR := hid hr; clear hr
  obtain ⟨a33, a34, f35, f36⟩ := cells2 hb23
  have l37 := hb23.lt
  go_wp2_with fail
  clear a33 a34 f35 f36 l37
  obtain ⟨w38, hw39, hu40, hb41, sz42⟩ := mk_set2 hb23 (.bool s28) (.slice a28' n28 c28) (N := w31.heap.size) rfl
  rw [← hw39]
  replace h := h.upd hb23 (noInt_zz _ _ _ _) hu40
  replace k := k.upd hb23 (noInt_zz _ _ _ _) hu40
  replace h29 := h29.upd hb23 (noInt_zz _ _ _ _) hu40
  replace h30 := h30.upd hb23 (noInt_zz _ _ _ _) hu40
  replace hB := below_upd hB G27.out hb23.lt hu40
  replace hb5 := hb5.upd Ng2_g20.out hu40
  replace hb14 := hb14.upd Ng11_g20.out hu40
  clear hw39 hu40 hb23
  obtain ⟨w43, g44, hw45, hg46, hb47, al48, ge49, sz50⟩ := mk_alloc w38 [(.bool s28), (.slice a28' n28 c28)] 24 (N := w31.heap.size) sz42
  rw [← hw45]
  have Ng2_g44 := hb5.ne ge49
  have Ng11_g44 := hb14.ne ge49
  have Ng20_g44 := hb41.ne ge49
  have G51 := below_ge hB ge49
  replace hB := ext_trans hB al48
  replace h := h.ext al48
  replace k := k.ext al48
  replace h29 := h29.ext al48
  replace h30 := h30.ext al48
  replace hb5 := hb5.ext al48
  replace hb14 := hb14.ext al48
  replace hb41 := hb41.ext al48
  clear hw45 al48 ge49
  obtain ⟨w52, g53, hw54, hg55, hb56, al57, ge58, sz59⟩ := mk_alloc w43 [(.bool t28), (.slice b28' m28 d28)] 24 (N := w31.heap.size + 1) sz50
  rw [← hw54]
  have Ng2_g53 := hb5.ne ge58
  have Ng11_g53 := hb14.ne ge58
  have Ng20_g53 := hb41.ne ge58
  have Ng44_g53 := hb47.ne ge58
  have G60 := below_ge hB ge58
  replace hB := ext_trans hB al57
  replace h := h.ext al57
  replace k := k.ext al57
  replace h29 := h29.ext al57
  replace h30 := h30.ext al57
  replace hb5 := hb5.ext al57
  replace hb14 := hb14.ext al57
  replace hb41 := hb41.ext al57
  replace hb47 := hb47.ext al57
  clear hw54 al57 ge58
  rw [← hg55]
  rw [← hg46]
  clear hg46 hg55 sz42 sz50 sz59
  obtain ⟨a61, a62, f63, f64⟩ := cells2 hb41
  have l65 := hb41.lt
  go_wp2
  refine bodyPost_ret (by simp [results, Try.results23, go_sem, a61, a62]; try rfl) rfl ?_
  exact ⟨_, _, _, _, rfl, h29, hB⟩

set_option maxHeartbeats 4000000 in
theorem wExactNot {K L : Nat} {w : World} {s t : Bool} {ao bo : Option Addr} {n c m d : Nat} {x y : Int} (h : Za K w s ao n c x) (k : Za L w t bo m d y) (hy : y ≠ 0) (hr : ¬ x % y = 0) (hK : K ≤ 1073741000 := by omega) (hL : L ≤ 1073741000 := by omega) :
    Calls Try.prog 23 #[.agg #[.bool s, .slice ao n c], .agg #[.bool t, .slice bo m d]] w (RetV (.tuple #[.agg #[.bool false, .slice none 0 0], .int .i64 3]) w) := by
  go_enter Try.func23, Try.ntmps23
  have hB := Below.refl w.heap.size w
  go_wp2_with fail
  obtain ⟨w1, g2, hw3, hg4, hb5, al6, ge7, sz8⟩ := mk_alloc w [(.bool s), (.slice ao n c)] 24 (N := w.heap.size) rfl
  rw [← hw3]
  have G9 := below_ge hB ge7
  replace hB := ext_trans hB al6
  replace h := h.ext al6
  replace k := k.ext al6
  clear hw3 al6 ge7
  obtain ⟨w10, g11, hw12, hg13, hb14, al15, ge16, sz17⟩ := mk_alloc w1 [(.bool t), (.slice bo m d)] 24 (N := w.heap.size + 1) sz8
  rw [← hw12]
  have Ng2_g11 := hb5.ne ge16
  have G18 := below_ge hB ge16
  replace hB := ext_trans hB al15
  replace h := h.ext al15
  replace k := k.ext al15
  replace hb5 := hb5.ext al15
  clear hw12 al15 ge16
  obtain ⟨w19, g20, hw21, hg22, hb23, al24, ge25, sz26⟩ := mk_alloc w10 [(.bool false), (.slice none 0 0)] 24 (N := w.heap.size + 1 + 1) sz17
  rw [← hw21]
  have Ng2_g20 := hb5.ne ge25
  have Ng11_g20 := hb14.ne ge25
  have G27 := below_ge hB ge25
  replace hB := ext_trans hB al24
  replace h := h.ext al24
  replace k := k.ext al24
  replace hb5 := hb5.ext al24
  replace hb14 := hb14.ext al24
  clear hw21 al24 ge25
  try rw [show w.heap.size + 2 = g20 from hg22.symm]
  try rw [← hg22]
  rw [← hg13]
  rw [← hg4]
  clear hg4 hg13 hg22 sz8 sz17 sz26
  refine (wDiv h k (hy)).mono ?_
  rintro e w31 ⟨s28, a28', n28, c28, t28, b28', m28, d28, rfl, h29, h30, hb32⟩
  replace h := h.ext hb32
  replace k := k.ext hb32
  replace hb5 := hb5.ext hb32
  replace hb14 := hb14.ext hb32
  replace hb23 := hb23.ext hb32
  replace hB := ext_trans hB hb32
  clear hb32
  have HN : Hid (m28 ≠ 0) := hid (fun e => hr (h30.nz.1 e))
  have e1 : decide ((0 : Int) < (m28 : Int)) = true := by rw [decide_eq_true_eq]; have := HN.out; omega
  have e2 : decide (0 < m28) = true := by rw [decide_eq_true_eq]; have := HN.out; omega
  have HR := hid hr; clear hr
  obtain ⟨a33, a34, f35, f36⟩ := cells2 hb23
  have l37 := hb23.lt
  go_wp2_with fail
  clear a33 a34 f35 f36 l37
  obtain ⟨w38, hw39, hu40, hb41, sz42⟩ := mk_set2 hb23 (.bool false) (.slice none 0 0) (N := w31.heap.size) rfl
  rw [← hw39]
  replace h := h.upd hb23 (noInt_zz _ _ _ _) hu40
  replace k := k.upd hb23 (noInt_zz _ _ _ _) hu40
  replace h29 := h29.upd hb23 (noInt_zz _ _ _ _) hu40
  replace h30 := h30.upd hb23 (noInt_zz _ _ _ _) hu40
  replace hB := below_upd hB G27.out hb23.lt hu40
  replace hb5 := hb5.upd Ng2_g20.out hu40
  replace hb14 := hb14.upd Ng11_g20.out hu40
  clear hw39 hu40 hb23
  obtain ⟨w43, g44, hw45, hg46, hb47, al48, ge49, sz50⟩ := mk_alloc w38 [(.bool s28), (.slice a28' n28 c28)] 24 (N := w31.heap.size) sz42
  rw [← hw45]
  have Ng2_g44 := hb5.ne ge49
  have Ng11_g44 := hb14.ne ge49
  have Ng20_g44 := hb41.ne ge49
  have G51 := below_ge hB ge49
  replace hB := ext_trans hB al48
  replace h := h.ext al48
  replace k := k.ext al48
  replace h29 := h29.ext al48
  replace h30 := h30.ext al48
  replace hb5 := hb5.ext al48
  replace hb14 := hb14.ext al48
  replace hb41 := hb41.ext al48
  clear hw45 al48 ge49
  obtain ⟨w52, g53, hw54, hg55, hb56, al57, ge58, sz59⟩ := mk_alloc w43 [(.bool t28), (.slice b28' m28 d28)] 24 (N := w31.heap.size + 1) sz50
  rw [← hw54]
  have Ng2_g53 := hb5.ne ge58
  have Ng11_g53 := hb14.ne ge58
  have Ng20_g53 := hb41.ne ge58
  have Ng44_g53 := hb47.ne ge58
  have G60 := below_ge hB ge58
  replace hB := ext_trans hB al57
  replace h := h.ext al57
  replace k := k.ext al57
  replace h29 := h29.ext al57
  replace h30 := h30.ext al57
  replace hb5 := hb5.ext al57
  replace hb14 := hb14.ext al57
  replace hb41 := hb41.ext al57
  replace hb47 := hb47.ext al57
  clear hw54 al57 ge58
  rw [← hg55]
  rw [← hg46]
  clear hg46 hg55 sz42 sz50 sz59
  obtain ⟨a61, a62, f63, f64⟩ := cells2 hb41
  have l65 := hb41.lt
  go_wp2
  refine bodyPost_ret (by simp [results, Try.results23, go_sem, a61, a62]; try rfl) rfl ?_
  exact ⟨rfl, hB⟩

set_option maxHeartbeats 4000000 in
theorem lwakes (w : World) : Calls Try.prog 18 #[] w (RetV (.bool true) w) := by
  go_enter Try.func18, Try.ntmps18
  have hB := Below.refl w.heap.size w
  go_wp2_with fail
  refine (wOf (-7) _ (by omega) (by omega)).mono ?_
  rintro e w2 ⟨r1, o1, n1, c1, rfl, h1, hb3⟩
  replace hB := ext_trans hB hb3
  clear hb3
  go_wp2_with fail
  refine (wOf 2 _ (by omega) (by omega)).mono ?_
  rintro e w5 ⟨r4, o4, n4, c4, rfl, h4, hb6⟩
  replace h1 := h1.ext hb6
  replace hB := ext_trans hB hb6
  clear hb6
  go_wp2_with fail
  refine (wDiv h1.any h4.any (by decide)).mono ?_
  rintro e w10 ⟨s7, a7', n7, c7, t7, b7', m7, d7, rfl, h8, h9, hb11⟩
  replace h1 := h1.ext hb11
  replace h4 := h4.ext hb11
  replace hB := ext_trans hB hb11
  clear hb11
  go_wp2_with fail
  obtain ⟨w12, g13, hw14, hg15, hb16, al17, ge18, sz19⟩ := mk_alloc w10 [(.bool s7), (.slice a7' n7 c7)] 24 (N := w10.heap.size) rfl
  rw [← hw14]
  have G20 := below_ge hB ge18
  replace hB := ext_trans hB al17
  replace h1 := h1.ext al17
  replace h4 := h4.ext al17
  replace h8 := h8.ext al17
  replace h9 := h9.ext al17
  clear hw14 al17 ge18
  obtain ⟨w21, g22, hw23, hg24, hb25, al26, ge27, sz28⟩ := mk_alloc w12 [(.bool t7), (.slice b7' m7 d7)] 24 (N := w10.heap.size + 1) sz19
  rw [← hw23]
  have Ng13_g22 := hb16.ne ge27
  have G29 := below_ge hB ge27
  replace hB := ext_trans hB al26
  replace h1 := h1.ext al26
  replace h4 := h4.ext al26
  replace h8 := h8.ext al26
  replace h9 := h9.ext al26
  replace hb16 := hb16.ext al26
  clear hw23 al26 ge27
  rw [← hg24]
  rw [← hg15]
  clear hg15 hg24 sz19 sz28
  replace h1 := h1.drew
  replace h4 := h4.drew
  replace h8 := h8.drew
  replace h9 := h9.drew
  replace hB := hB.drew
  replace hb16 := hb16.drew
  replace hb25 := hb25.drew
  have hS30 : Hid (∀ w', Below w21.drew.heap.size w21.drew w' → w'.cell? ⟨g13, 0, none⟩ = some (.bool s7) ∧ w'.cell? ⟨g13, 1, none⟩ = some (.slice a7' n7 c7) ∧ w'.cell? ⟨g22, 0, none⟩ = some (.bool t7) ∧ w'.cell? ⟨g22, 1, none⟩ = some (.slice b7' m7 d7)) := hid (fun w' hb => ⟨(cells2 (hb16.ext hb)).1, (cells2 (hb16.ext hb)).2.1, (cells2 (hb25.ext hb)).1, (cells2 (hb25.ext hb)).2.1⟩)
  have Q31 := Below.refl w21.drew.heap.size w21.drew
  go_region_held3 (fun w' => w'.cell? ⟨g13, 0, none⟩ = some (.bool s7) ∧ w'.cell? ⟨g13, 1, none⟩ = some (.slice a7' n7 c7) ∧ w'.cell? ⟨g22, 0, none⟩ = some (.bool t7) ∧ w'.cell? ⟨g22, 1, none⟩ = some (.slice b7' m7 d7))
    (first | with_reducible exact hS30.out _ Q45 | with_reducible exact hS30.out _ Q42 | with_reducible exact hS30.out _ Q38 | with_reducible exact hS30.out _ Q35 | with_reducible exact hS30.out _ Q31)
    (first
      | (go_at_call 24; (with_reducible refine (rOf (-4) _ (by omega) (by omega)).mono ?_); rintro e w33 ⟨o32, n32, c32, r32, rfl, h32, hb34⟩; have Q35 := ext_trans Q31 hb34; replace h1 := h1.ext hb34; replace h4 := h4.ext hb34; replace h8 := h8.ext hb34; replace h9 := h9.ext hb34; clear hb34)
      | (go_at_call 20; (with_reducible refine (lis h32 h8 (by decide)).mono ?_); rintro e w36 ⟨rfl, hb37⟩; have Q38 := ext_trans Q35 hb37; replace h1 := h1.ext hb37; replace h4 := h4.ext hb37; replace h8 := h8.ext hb37; replace h9 := h9.ext hb37; replace h32 := h32.ext hb37; clear hb37)
      | (go_at_call 24; (with_reducible refine (rOf 1 _ (by omega) (by omega)).mono ?_); rintro e w40 ⟨o39, n39, c39, r39, rfl, h39, hb41⟩; have Q42 := ext_trans Q38 hb41; replace h1 := h1.ext hb41; replace h4 := h4.ext hb41; replace h8 := h8.ext hb41; replace h9 := h9.ext hb41; replace h32 := h32.ext hb41; clear hb41)
      | (go_at_call 20; (with_reducible refine (lis h39 h9 (by decide)).mono ?_); rintro e w43 ⟨rfl, hb44⟩; have Q45 := ext_trans Q42 hb44; replace h1 := h1.ext hb44; replace h4 := h4.ext hb44; replace h8 := h8.ext hb44; replace h9 := h9.ext hb44; replace h32 := h32.ext hb44; replace h39 := h39.ext hb44; clear hb44))
  replace hb16 := hb16.ext Q45
  replace hb25 := hb25.ext Q45
  replace hB := ext_trans hB Q45
  clear hS30 Q31 Q35 Q38 Q42 Q45
  go_wp2
  go_ret
  exact ⟨rfl, hB⟩

end Go.Proofs.Ytkcagkcphobmfaa
