/-
  WALKS: the plain reckoning of whole numbers: Neg, Add, Sub, Mul.
-/
import Derived.Test.YtkcagkcphobmfaaZc
set_option linter.unusedVariables false
set_option linter.unusedSimpArgs false
namespace Go.Proofs.Ytkcagkcphobmfaa
open Go.RowKit

theorem zv_of (z : Int) : zv (decide (z < 0)) z.natAbs = z := zv_natAbs z
theorem zv_neg_of (z : Int) : zv (!decide (z < 0)) z.natAbs = -z := by rw [zv_not, zv_natAbs]
theorem zv_mul_of (x y : Int) : zv (decide (x < 0) != decide (y < 0)) (x.natAbs * y.natAbs) = x * y := by rw [zv_mul, zv_natAbs, zv_natAbs]
theorem zv_add_of {x y : Int} (h : decide (x < 0) = decide (y < 0)) : zv (decide (x < 0)) (x.natAbs + y.natAbs) = x + y := by
  rw [decide_eq_decide] at h
  unfold zv
  by_cases hx : x < 0
  · rw [decide_eq_true hx, if_pos rfl]; omega
  · rw [decide_eq_false hx, if_neg (by simp)]; omega
theorem zv_sub_of {x y : Int} (h : ¬ decide (x < 0) = decide (y < 0)) (hle : y.natAbs ≤ x.natAbs) : zv (decide (x < 0)) (x.natAbs - y.natAbs) = x + y := by
  rw [decide_eq_decide] at h
  unfold zv
  by_cases hx : x < 0
  · rw [decide_eq_true hx, if_pos rfl]; omega
  · rw [decide_eq_false hx, if_neg (by simp)]; omega
theorem beq_false_of {s t : Bool} (h : ¬ s = t) : (s == t) = false := by rw [beq_eq_false_iff_ne]; exact h

set_option maxHeartbeats 2000000 in
theorem rNeg {K : Nat} {w : World} {s : Bool} {ao : Option Addr} {n c : Nat} {x : Int} (h : Rn K w ao n c s x) (hK : K ≤ 1073741824 := by omega) :
    Calls Try.prog 42 #[.agg #[.slice ao n c, .bool s]] w (RetR (K) w (-x)) := by
  have HS : Hid (s = decide (x < 0)) := hid h.sgn
  go_enter Try.func42, Try.ntmps42
  have hB := Below.refl w.heap.size w
  go_wp2_with fail
  obtain ⟨w1, g2, hw3, hg4, hb5, al6, ge7, sz8⟩ := mk_alloc w [(.slice ao n c), (.bool s)] 28 (N := w.heap.size) rfl
  rw [← hw3]
  have G9 := below_ge hB ge7
  replace hB := ext_trans hB al6
  replace h := h.ext al6
  clear hw3 al6 ge7
  obtain ⟨w10, g11, hw12, hg13, hb14, al15, ge16, sz17⟩ := mk_alloc w1 [(.slice none 0 0), (.bool false)] 28 (N := w.heap.size + 1) sz8
  rw [← hw12]
  have Ng2_g11 := hb5.ne ge16
  have G18 := below_ge hB ge16
  replace hB := ext_trans hB al15
  replace h := h.ext al15
  replace hb5 := hb5.ext al15
  clear hw12 al15 ge16
  rw [← hg13]
  rw [← hg4]
  clear hg4 hg13 sz8 sz17
  refine (rMade (x := (-x)) (h.dg).2 (by rw [HS.out]; exact zv_neg_of x) (h.dg.lt)).mono ?_
  rintro e w20 ⟨o19, n19, c19, r19, rfl, h19, hb21⟩
  replace h := h.ext hb21
  replace hb5 := hb5.ext hb21
  replace hb14 := hb14.ext hb21
  replace hB := ext_trans hB hb21
  clear hb21
  obtain ⟨a22, a23, f24, f25⟩ := cells2 hb14
  have l26 := hb14.lt
  go_wp2_with fail
  clear a22 a23 f24 f25 l26
  obtain ⟨w27, hw28, hu29, hb30, sz31⟩ := mk_set2 hb14 (.slice o19 n19 c19) (.bool r19) (N := w20.heap.size) rfl
  rw [← hw28]
  replace h := h.upd hb14 (noInt_rr _ _ _ _) hu29
  replace h19 := h19.upd hb14 (noInt_rr _ _ _ _) hu29
  replace hB := below_upd hB G18.out hb14.lt hu29
  replace hb5 := hb5.upd Ng2_g11.out hu29
  clear hw28 hu29 hb14
  clear sz31
  obtain ⟨a32, a33, f34, f35⟩ := cells2 hb30
  have l36 := hb30.lt
  go_wp2
  refine bodyPost_ret (by simp [results, Try.results42, go_sem, a32, a33]; try rfl) rfl ?_
  exact ⟨_, _, _, _, rfl, h19, hB⟩

set_option maxHeartbeats 4000000 in
theorem rMul {K L : Nat} {w : World} {s t : Bool} {ao bo : Option Addr} {n c m d : Nat} {x y : Int} (h : Rn K w ao n c s x) (k : Rn L w bo m d t y) (hK : K ≤ 1073741000 := by omega) (hL : L ≤ 1073741000 := by omega) :
    Calls Try.prog 21 #[.agg #[.slice ao n c, .bool s], .agg #[.slice bo m d, .bool t]] w (RetR (K + L) w (x * y)) := by
  have HS : Hid (s = decide (x < 0)) := hid h.sgn
  have HT : Hid (t = decide (y < 0)) := hid k.sgn
  go_enter Try.func21, Try.ntmps21
  have hB := Below.refl w.heap.size w
  go_wp2_with fail
  obtain ⟨w1, g2, hw3, hg4, hb5, al6, ge7, sz8⟩ := mk_alloc w [(.slice ao n c), (.bool s)] 28 (N := w.heap.size) rfl
  rw [← hw3]
  have G9 := below_ge hB ge7
  replace hB := ext_trans hB al6
  replace h := h.ext al6
  replace k := k.ext al6
  clear hw3 al6 ge7
  obtain ⟨w10, g11, hw12, hg13, hb14, al15, ge16, sz17⟩ := mk_alloc w1 [(.slice bo m d), (.bool t)] 28 (N := w.heap.size + 1) sz8
  rw [← hw12]
  have Ng2_g11 := hb5.ne ge16
  have G18 := below_ge hB ge16
  replace hB := ext_trans hB al15
  replace h := h.ext al15
  replace k := k.ext al15
  replace hb5 := hb5.ext al15
  clear hw12 al15 ge16
  obtain ⟨w19, g20, hw21, hg22, hb23, al24, ge25, sz26⟩ := mk_alloc w10 [(.slice none 0 0), (.bool false)] 28 (N := w.heap.size + 1 + 1) sz17
  rw [← hw21]
  have Ng2_g20 := hb5.ne ge25
  have Ng11_g20 := hb14.ne ge25
  have G27 := below_ge hB ge25
  replace hB := ext_trans hB al24
  replace h := h.ext al24
  replace k := k.ext al24
  replace hb5 := hb5.ext al24
  replace hb14 := hb14.ext al24
  clear hw21 al24 ge25
  try rw [show w.heap.size + 2 = g20 from hg22.symm]
  try rw [← hg22]
  rw [← hg13]
  rw [← hg4]
  clear hg4 hg13 hg22 sz8 sz17 sz26
  replace h := h.drew
  replace k := k.drew
  replace hB := hB.drew
  replace hb5 := hb5.drew
  replace hb14 := hb14.drew
  replace hb23 := hb23.drew
  have hS28 : Hid (∀ w', Below w19.drew.heap.size w19.drew w' → w'.cell? ⟨g2, 0, none⟩ = some (.slice ao n c) ∧ w'.cell? ⟨g2, 1, none⟩ = some (.bool s) ∧ w'.cell? ⟨g11, 0, none⟩ = some (.slice bo m d) ∧ w'.cell? ⟨g11, 1, none⟩ = some (.bool t)) := hid (fun w' hb => ⟨(hb5.ext hb).cell 0 (by simp), (hb5.ext hb).cell 1 (by simp), (hb14.ext hb).cell 0 (by simp), (hb14.ext hb).cell 1 (by simp)⟩)
  have Q29 := Below.refl w19.drew.heap.size w19.drew
  go_region_held3 (fun w' => w'.cell? ⟨g2, 0, none⟩ = some (.slice ao n c) ∧ w'.cell? ⟨g2, 1, none⟩ = some (.bool s) ∧ w'.cell? ⟨g11, 0, none⟩ = some (.slice bo m d) ∧ w'.cell? ⟨g11, 1, none⟩ = some (.bool t))
    (first | exact hS28.out _ Q37 | exact hS28.out _ Q33 | exact hS28.out _ Q29 | exact ⟨((hb5.ext Q37).upd Ng2_g20.out (Upd.s2 _ _ _ _)).cell 0 (by simp), ((hb5.ext Q37).upd Ng2_g20.out (Upd.s2 _ _ _ _)).cell 1 (by simp), ((hb14.ext Q37).upd Ng11_g20.out (Upd.s2 _ _ _ _)).cell 0 (by simp), ((hb14.ext Q37).upd Ng11_g20.out (Upd.s2 _ _ _ _)).cell 1 (by simp)⟩)
    (first
      | (go_at_call 61; refine (nMul h.dg k.dg).mono ?_; rintro e w31 ⟨o30, n30, c30, rfl, h30, hb32⟩; have Q33 := ext_trans Q29 hb32; replace h := h.ext hb32; replace k := k.ext hb32; clear hb32)
      | (go_at_call 59; refine (rMade (x := (x * y)) (h30).2 (by rw [HS.out, HT.out]; exact zv_mul_of x y) (h30.lt)).mono ?_; rintro e w35 ⟨o34, n34, c34, r34, rfl, h34, hb36⟩; have Q37 := ext_trans Q33 hb36; replace h := h.ext hb36; replace k := k.ext hb36; replace h30 := h30.ext hb36; clear hb36; obtain ⟨a38, a39, a40, a41⟩ := cells2 (hb23.ext Q37)))
  replace hb5 := hb5.ext Q37
  replace hb14 := hb14.ext Q37
  replace hb23 := hb23.ext Q37
  replace hB := ext_trans hB Q37
  clear hS28 Q29 Q33 Q37
  clear a38 a39 a40 a41
  obtain ⟨w42, hw43, hu44, hb45, sz46⟩ := mk_set2 hb23 (.slice o34 n34 c34) (.bool r34) (N := w35.heap.size) rfl
  rw [← hw43]
  replace h := h.upd hb23 (noInt_rr _ _ _ _) hu44
  replace k := k.upd hb23 (noInt_rr _ _ _ _) hu44
  replace h30 := h30.upd hb23 (noInt_rr _ _ _ _) hu44
  replace h34 := h34.upd hb23 (noInt_rr _ _ _ _) hu44
  replace hB := below_upd hB G27.out hb23.lt hu44
  replace hb5 := hb5.upd Ng2_g20.out hu44
  replace hb14 := hb14.upd Ng11_g20.out hu44
  clear hw43 hu44 hb23
  clear sz46
  obtain ⟨a47, a48, f49, f50⟩ := cells2 hb45
  have l51 := hb45.lt
  go_wp2
  refine bodyPost_ret (by simp [results, Try.results21, go_sem, a47, a48]; try rfl) rfl ?_
  exact ⟨_, _, _, _, rfl, h34, hB⟩

set_option maxHeartbeats 4000000 in
theorem rAdd {K L : Nat} {w : World} {s t : Bool} {ao bo : Option Addr} {n c m d : Nat} {x y : Int} (h : Rn K w ao n c s x) (k : Rn L w bo m d t y) (hK : K ≤ 1073741000 := by omega) (hL : L ≤ 1073741000 := by omega) :
    Calls Try.prog 39 #[.agg #[.slice ao n c, .bool s], .agg #[.slice bo m d, .bool t]] w (RetR (max K L + 1) w (x + y)) := by
  have HS : Hid (s = decide (x < 0)) := hid h.sgn
  have HT : Hid (t = decide (y < 0)) := hid k.sgn
  by_cases hst : s = t
  · have HST : Hid (decide (x < 0) = decide (y < 0)) := hid (by rw [← HS.out, ← HT.out]; exact hst)
    subst hst
    have hbeq := bool_beq s
    go_enter Try.func39, Try.ntmps39
    have hB := Below.refl w.heap.size w
    go_wp2_with fail
    obtain ⟨w1, g2, hw3, hg4, hb5, al6, ge7, sz8⟩ := mk_alloc w [(.slice ao n c), (.bool s)] 28 (N := w.heap.size) rfl
    rw [← hw3]
    have G9 := below_ge hB ge7
    replace hB := ext_trans hB al6
    replace h := h.ext al6
    replace k := k.ext al6
    clear hw3 al6 ge7
    obtain ⟨w10, g11, hw12, hg13, hb14, al15, ge16, sz17⟩ := mk_alloc w1 [(.slice bo m d), (.bool s)] 28 (N := w.heap.size + 1) sz8
    rw [← hw12]
    have Ng2_g11 := hb5.ne ge16
    have G18 := below_ge hB ge16
    replace hB := ext_trans hB al15
    replace h := h.ext al15
    replace k := k.ext al15
    replace hb5 := hb5.ext al15
    clear hw12 al15 ge16
    obtain ⟨w19, g20, hw21, hg22, hb23, al24, ge25, sz26⟩ := mk_alloc w10 [(.slice none 0 0), (.bool false)] 28 (N := w.heap.size + 1 + 1) sz17
    rw [← hw21]
    have Ng2_g20 := hb5.ne ge25
    have Ng11_g20 := hb14.ne ge25
    have G27 := below_ge hB ge25
    replace hB := ext_trans hB al24
    replace h := h.ext al24
    replace k := k.ext al24
    replace hb5 := hb5.ext al24
    replace hb14 := hb14.ext al24
    clear hw21 al24 ge25
    try rw [show w.heap.size + 2 = g20 from hg22.symm]
    try rw [← hg22]
    rw [← hg13]
    rw [← hg4]
    clear hg4 hg13 hg22 sz8 sz17 sz26
    replace h := h.drew
    replace k := k.drew
    replace hB := hB.drew
    replace hb5 := hb5.drew
    replace hb14 := hb14.drew
    replace hb23 := hb23.drew
    have hS28 : Hid (∀ w', Below w19.drew.heap.size w19.drew w' → w'.cell? ⟨g2, 0, none⟩ = some (.slice ao n c) ∧ w'.cell? ⟨g2, 1, none⟩ = some (.bool s) ∧ w'.cell? ⟨g11, 0, none⟩ = some (.slice bo m d) ∧ w'.cell? ⟨g11, 1, none⟩ = some (.bool s)) := hid (fun w' hb => ⟨(hb5.ext hb).cell 0 (by simp), (hb5.ext hb).cell 1 (by simp), (hb14.ext hb).cell 0 (by simp), (hb14.ext hb).cell 1 (by simp)⟩)
    have Q29 := Below.refl w19.drew.heap.size w19.drew
    go_region_held3 (fun w' => w'.cell? ⟨g2, 0, none⟩ = some (.slice ao n c) ∧ w'.cell? ⟨g2, 1, none⟩ = some (.bool s) ∧ w'.cell? ⟨g11, 0, none⟩ = some (.slice bo m d) ∧ w'.cell? ⟨g11, 1, none⟩ = some (.bool s))
      (first | exact hS28.out _ Q37 | exact hS28.out _ Q33 | exact hS28.out _ Q29 | exact ⟨((hb5.ext Q37).upd Ng2_g20.out (Upd.s2 _ _ _ _)).cell 0 (by simp), ((hb5.ext Q37).upd Ng2_g20.out (Upd.s2 _ _ _ _)).cell 1 (by simp), ((hb14.ext Q37).upd Ng11_g20.out (Upd.s2 _ _ _ _)).cell 0 (by simp), ((hb14.ext Q37).upd Ng11_g20.out (Upd.s2 _ _ _ _)).cell 1 (by simp)⟩)
      (first
        | (go_at_call 69; refine (nAdd h.dg k.dg).mono ?_; rintro e w31 ⟨o30, n30, c30, rfl, h30, hb32⟩; have Q33 := ext_trans Q29 hb32; replace h := h.ext hb32; replace k := k.ext hb32; clear hb32)
        | (go_at_call 59; refine (rMade (x := (x + y)) (h30).2 (by rw [HS.out]; exact zv_add_of HST.out) (h30.lt)).mono ?_; rintro e w35 ⟨o34, n34, c34, r34, rfl, h34, hb36⟩; have Q37 := ext_trans Q33 hb36; replace h := h.ext hb36; replace k := k.ext hb36; replace h30 := h30.ext hb36; clear hb36; obtain ⟨a38, a39, a40, a41⟩ := cells2 (hb23.ext Q37)))
    replace hb5 := hb5.ext Q37
    replace hb14 := hb14.ext Q37
    replace hb23 := hb23.ext Q37
    replace hB := ext_trans hB Q37
    clear hS28 Q29 Q33 Q37
    clear a38 a39 a40 a41
    obtain ⟨w42, hw43, hu44, hb45, sz46⟩ := mk_set2 hb23 (.slice o34 n34 c34) (.bool r34) (N := w35.heap.size) rfl
    rw [← hw43]
    replace h := h.upd hb23 (noInt_rr _ _ _ _) hu44
    replace k := k.upd hb23 (noInt_rr _ _ _ _) hu44
    replace h30 := h30.upd hb23 (noInt_rr _ _ _ _) hu44
    replace h34 := h34.upd hb23 (noInt_rr _ _ _ _) hu44
    replace hB := below_upd hB G27.out hb23.lt hu44
    replace hb5 := hb5.upd Ng2_g20.out hu44
    replace hb14 := hb14.upd Ng11_g20.out hu44
    clear hw43 hu44 hb23
    clear sz46
    obtain ⟨a47, a48, f49, f50⟩ := cells2 hb45
    have l51 := hb45.lt
    go_wp2
    refine bodyPost_ret (by simp [results, Try.results39, go_sem, a47, a48]; try rfl) rfl ?_
    exact ⟨_, _, _, _, rfl, h34, hB⟩
  · have HST : Hid (¬ decide (x < 0) = decide (y < 0)) := hid (by rw [← HS.out, ← HT.out]; exact hst)
    have hbne := beq_false_of hst
    clear hst
    by_cases hle : y.natAbs ≤ x.natAbs
    · have HLE := hid hle; clear hle
      obtain ⟨v, hv0, hv⟩ : ∃ v, cmpZ (x.natAbs : Int) (y.natAbs : Int) = v ∧ decide (0 ≤ v) = true := ⟨_, rfl, decide_eq_true (cmpZ_ge.2 (by have := HLE.out; omega))⟩
      have HV := hid hv0; clear hv0
      go_enter Try.func39, Try.ntmps39
      have hB := Below.refl w.heap.size w
      go_wp2_with fail
      obtain ⟨w1, g2, hw3, hg4, hb5, al6, ge7, sz8⟩ := mk_alloc w [(.slice ao n c), (.bool s)] 28 (N := w.heap.size) rfl
      rw [← hw3]
      have G9 := below_ge hB ge7
      replace hB := ext_trans hB al6
      replace h := h.ext al6
      replace k := k.ext al6
      clear hw3 al6 ge7
      obtain ⟨w10, g11, hw12, hg13, hb14, al15, ge16, sz17⟩ := mk_alloc w1 [(.slice bo m d), (.bool t)] 28 (N := w.heap.size + 1) sz8
      rw [← hw12]
      have Ng2_g11 := hb5.ne ge16
      have G18 := below_ge hB ge16
      replace hB := ext_trans hB al15
      replace h := h.ext al15
      replace k := k.ext al15
      replace hb5 := hb5.ext al15
      clear hw12 al15 ge16
      obtain ⟨w19, g20, hw21, hg22, hb23, al24, ge25, sz26⟩ := mk_alloc w10 [(.slice none 0 0), (.bool false)] 28 (N := w.heap.size + 1 + 1) sz17
      rw [← hw21]
      have Ng2_g20 := hb5.ne ge25
      have Ng11_g20 := hb14.ne ge25
      have G27 := below_ge hB ge25
      replace hB := ext_trans hB al24
      replace h := h.ext al24
      replace k := k.ext al24
      replace hb5 := hb5.ext al24
      replace hb14 := hb14.ext al24
      clear hw21 al24 ge25
      try rw [show w.heap.size + 2 = g20 from hg22.symm]
      try rw [← hg22]
      rw [← hg13]
      rw [← hg4]
      clear hg4 hg13 hg22 sz8 sz17 sz26
      refine (nCmp h.dg k.dg (HV.out)).mono ?_
      rintro e w28 ⟨rfl, hb29⟩
      replace h := h.ext hb29
      replace k := k.ext hb29
      replace hb5 := hb5.ext hb29
      replace hb14 := hb14.ext hb29
      replace hb23 := hb23.ext hb29
      replace hB := ext_trans hB hb29
      clear hb29
      go_wp2_with fail
      replace h := h.drew
      replace k := k.drew
      replace hB := hB.drew
      replace hb5 := hb5.drew
      replace hb14 := hb14.drew
      replace hb23 := hb23.drew
      have hS30 : Hid (∀ w', Below w28.drew.heap.size w28.drew w' → w'.cell? ⟨g2, 0, none⟩ = some (.slice ao n c) ∧ w'.cell? ⟨g2, 1, none⟩ = some (.bool s) ∧ w'.cell? ⟨g11, 0, none⟩ = some (.slice bo m d) ∧ w'.cell? ⟨g11, 1, none⟩ = some (.bool t)) := hid (fun w' hb => ⟨(hb5.ext hb).cell 0 (by simp), (hb5.ext hb).cell 1 (by simp), (hb14.ext hb).cell 0 (by simp), (hb14.ext hb).cell 1 (by simp)⟩)
      have Q31 := Below.refl w28.drew.heap.size w28.drew
      go_region_held3 (fun w' => w'.cell? ⟨g2, 0, none⟩ = some (.slice ao n c) ∧ w'.cell? ⟨g2, 1, none⟩ = some (.bool s) ∧ w'.cell? ⟨g11, 0, none⟩ = some (.slice bo m d) ∧ w'.cell? ⟨g11, 1, none⟩ = some (.bool t))
        (first | exact hS30.out _ Q39 | exact hS30.out _ Q35 | exact hS30.out _ Q31 | exact ⟨((hb5.ext Q39).upd Ng2_g20.out (Upd.s2 _ _ _ _)).cell 0 (by simp), ((hb5.ext Q39).upd Ng2_g20.out (Upd.s2 _ _ _ _)).cell 1 (by simp), ((hb14.ext Q39).upd Ng11_g20.out (Upd.s2 _ _ _ _)).cell 0 (by simp), ((hb14.ext Q39).upd Ng11_g20.out (Upd.s2 _ _ _ _)).cell 1 (by simp)⟩)
        (first
          | (go_at_call 70; refine (nSub h.dg k.dg (HLE.out)).mono ?_; rintro e w33 ⟨o32, n32, c32, rfl, h32, hb34⟩; have Q35 := ext_trans Q31 hb34; replace h := h.ext hb34; replace k := k.ext hb34; clear hb34)
          | (go_at_call 59; refine (rMade (x := (x + y)) (h32).2 (by rw [HS.out]; exact zv_sub_of HST.out HLE.out) (h32.lt)).mono ?_; rintro e w37 ⟨o36, n36, c36, r36, rfl, h36, hb38⟩; have Q39 := ext_trans Q35 hb38; replace h := h.ext hb38; replace k := k.ext hb38; replace h32 := h32.ext hb38; clear hb38; obtain ⟨a40, a41, a42, a43⟩ := cells2 (hb23.ext Q39)))
      replace hb5 := hb5.ext Q39
      replace hb14 := hb14.ext Q39
      replace hb23 := hb23.ext Q39
      replace hB := ext_trans hB Q39
      clear hS30 Q31 Q35 Q39
      clear a40 a41 a42 a43
      obtain ⟨w44, hw45, hu46, hb47, sz48⟩ := mk_set2 hb23 (.slice o36 n36 c36) (.bool r36) (N := w37.heap.size) rfl
      rw [← hw45]
      replace h := h.upd hb23 (noInt_rr _ _ _ _) hu46
      replace k := k.upd hb23 (noInt_rr _ _ _ _) hu46
      replace h32 := h32.upd hb23 (noInt_rr _ _ _ _) hu46
      replace h36 := h36.upd hb23 (noInt_rr _ _ _ _) hu46
      replace hB := below_upd hB G27.out hb23.lt hu46
      replace hb5 := hb5.upd Ng2_g20.out hu46
      replace hb14 := hb14.upd Ng11_g20.out hu46
      clear hw45 hu46 hb23
      clear sz48
      obtain ⟨a49, a50, f51, f52⟩ := cells2 hb47
      have l53 := hb47.lt
      go_wp2
      refine bodyPost_ret (by simp [results, Try.results39, go_sem, a49, a50]; try rfl) rfl ?_
      exact ⟨_, _, _, _, rfl, h36.mono (by omega), hB⟩
    · have HLE := hid hle; clear hle
      obtain ⟨v, hv0, hv⟩ : ∃ v, cmpZ (x.natAbs : Int) (y.natAbs : Int) = v ∧ decide (0 ≤ v) = false := ⟨_, rfl, decide_eq_false (fun e => by have := HLE.out; have := cmpZ_ge.1 e; omega)⟩
      have HV := hid hv0; clear hv0
      go_enter Try.func39, Try.ntmps39
      have hB := Below.refl w.heap.size w
      go_wp2_with fail
      obtain ⟨w1, g2, hw3, hg4, hb5, al6, ge7, sz8⟩ := mk_alloc w [(.slice ao n c), (.bool s)] 28 (N := w.heap.size) rfl
      rw [← hw3]
      have G9 := below_ge hB ge7
      replace hB := ext_trans hB al6
      replace h := h.ext al6
      replace k := k.ext al6
      clear hw3 al6 ge7
      obtain ⟨w10, g11, hw12, hg13, hb14, al15, ge16, sz17⟩ := mk_alloc w1 [(.slice bo m d), (.bool t)] 28 (N := w.heap.size + 1) sz8
      rw [← hw12]
      have Ng2_g11 := hb5.ne ge16
      have G18 := below_ge hB ge16
      replace hB := ext_trans hB al15
      replace h := h.ext al15
      replace k := k.ext al15
      replace hb5 := hb5.ext al15
      clear hw12 al15 ge16
      obtain ⟨w19, g20, hw21, hg22, hb23, al24, ge25, sz26⟩ := mk_alloc w10 [(.slice none 0 0), (.bool false)] 28 (N := w.heap.size + 1 + 1) sz17
      rw [← hw21]
      have Ng2_g20 := hb5.ne ge25
      have Ng11_g20 := hb14.ne ge25
      have G27 := below_ge hB ge25
      replace hB := ext_trans hB al24
      replace h := h.ext al24
      replace k := k.ext al24
      replace hb5 := hb5.ext al24
      replace hb14 := hb14.ext al24
      clear hw21 al24 ge25
      try rw [show w.heap.size + 2 = g20 from hg22.symm]
      try rw [← hg22]
      rw [← hg13]
      rw [← hg4]
      clear hg4 hg13 hg22 sz8 sz17 sz26
      refine (nCmp h.dg k.dg (HV.out)).mono ?_
      rintro e w28 ⟨rfl, hb29⟩
      replace h := h.ext hb29
      replace k := k.ext hb29
      replace hb5 := hb5.ext hb29
      replace hb14 := hb14.ext hb29
      replace hb23 := hb23.ext hb29
      replace hB := ext_trans hB hb29
      clear hb29
      go_wp2_with fail
      replace h := h.drew
      replace k := k.drew
      replace hB := hB.drew
      replace hb5 := hb5.drew
      replace hb14 := hb14.drew
      replace hb23 := hb23.drew
      have hS30 : Hid (∀ w', Below w28.drew.heap.size w28.drew w' → w'.cell? ⟨g11, 0, none⟩ = some (.slice bo m d) ∧ w'.cell? ⟨g11, 1, none⟩ = some (.bool t) ∧ w'.cell? ⟨g2, 0, none⟩ = some (.slice ao n c) ∧ w'.cell? ⟨g2, 1, none⟩ = some (.bool s)) := hid (fun w' hb => ⟨(hb14.ext hb).cell 0 (by simp), (hb14.ext hb).cell 1 (by simp), (hb5.ext hb).cell 0 (by simp), (hb5.ext hb).cell 1 (by simp)⟩)
      have Q31 := Below.refl w28.drew.heap.size w28.drew
      go_region_held3 (fun w' => w'.cell? ⟨g11, 0, none⟩ = some (.slice bo m d) ∧ w'.cell? ⟨g11, 1, none⟩ = some (.bool t) ∧ w'.cell? ⟨g2, 0, none⟩ = some (.slice ao n c) ∧ w'.cell? ⟨g2, 1, none⟩ = some (.bool s))
        (first | exact hS30.out _ Q39 | exact hS30.out _ Q35 | exact hS30.out _ Q31 | exact ⟨((hb14.ext Q39).upd Ng11_g20.out (Upd.s2 _ _ _ _)).cell 0 (by simp), ((hb14.ext Q39).upd Ng11_g20.out (Upd.s2 _ _ _ _)).cell 1 (by simp), ((hb5.ext Q39).upd Ng2_g20.out (Upd.s2 _ _ _ _)).cell 0 (by simp), ((hb5.ext Q39).upd Ng2_g20.out (Upd.s2 _ _ _ _)).cell 1 (by simp)⟩)
        (first
          | (go_at_call 70; refine (nSub k.dg h.dg (Nat.le_of_lt (Nat.lt_of_not_le HLE.out))).mono ?_; rintro e w33 ⟨o32, n32, c32, rfl, h32, hb34⟩; have Q35 := ext_trans Q31 hb34; replace h := h.ext hb34; replace k := k.ext hb34; clear hb34)
          | (go_at_call 59; refine (rMade (x := (x + y)) (h32).2 (by rw [HT.out, Int.add_comm]; exact zv_sub_of (fun e => HST.out e.symm) (Nat.le_of_lt (Nat.lt_of_not_le HLE.out))) (h32.lt)).mono ?_; rintro e w37 ⟨o36, n36, c36, r36, rfl, h36, hb38⟩; have Q39 := ext_trans Q35 hb38; replace h := h.ext hb38; replace k := k.ext hb38; replace h32 := h32.ext hb38; clear hb38; obtain ⟨a40, a41, a42, a43⟩ := cells2 (hb23.ext Q39)))
      replace hb5 := hb5.ext Q39
      replace hb14 := hb14.ext Q39
      replace hb23 := hb23.ext Q39
      replace hB := ext_trans hB Q39
      clear hS30 Q31 Q35 Q39
      clear a40 a41 a42 a43
      obtain ⟨w44, hw45, hu46, hb47, sz48⟩ := mk_set2 hb23 (.slice o36 n36 c36) (.bool r36) (N := w37.heap.size) rfl
      rw [← hw45]
      replace h := h.upd hb23 (noInt_rr _ _ _ _) hu46
      replace k := k.upd hb23 (noInt_rr _ _ _ _) hu46
      replace h32 := h32.upd hb23 (noInt_rr _ _ _ _) hu46
      replace h36 := h36.upd hb23 (noInt_rr _ _ _ _) hu46
      replace hB := below_upd hB G27.out hb23.lt hu46
      replace hb5 := hb5.upd Ng2_g20.out hu46
      replace hb14 := hb14.upd Ng11_g20.out hu46
      clear hw45 hu46 hb23
      clear sz48
      obtain ⟨a49, a50, f51, f52⟩ := cells2 hb47
      have l53 := hb47.lt
      go_wp2
      refine bodyPost_ret (by simp [results, Try.results39, go_sem, a49, a50]; try rfl) rfl ?_
      exact ⟨_, _, _, _, rfl, h36.mono (by omega), hB⟩

set_option maxHeartbeats 4000000 in
theorem rSub {K L : Nat} {w : World} {s t : Bool} {ao bo : Option Addr} {n c m d : Nat} {x y : Int} (h : Rn K w ao n c s x) (k : Rn L w bo m d t y) (hK : K ≤ 1073741000 := by omega) (hL : L ≤ 1073741000 := by omega) :
    Calls Try.prog 40 #[.agg #[.slice ao n c, .bool s], .agg #[.slice bo m d, .bool t]] w (RetR (max K L + 1) w (x - y)) := by
  go_enter Try.func40, Try.ntmps40
  have hB := Below.refl w.heap.size w
  go_wp2_with fail
  obtain ⟨w1, g2, hw3, hg4, hb5, al6, ge7, sz8⟩ := mk_alloc w [(.slice ao n c), (.bool s)] 28 (N := w.heap.size) rfl
  rw [← hw3]
  have G9 := below_ge hB ge7
  replace hB := ext_trans hB al6
  replace h := h.ext al6
  replace k := k.ext al6
  clear hw3 al6 ge7
  obtain ⟨w10, g11, hw12, hg13, hb14, al15, ge16, sz17⟩ := mk_alloc w1 [(.slice bo m d), (.bool t)] 28 (N := w.heap.size + 1) sz8
  rw [← hw12]
  have Ng2_g11 := hb5.ne ge16
  have G18 := below_ge hB ge16
  replace hB := ext_trans hB al15
  replace h := h.ext al15
  replace k := k.ext al15
  replace hb5 := hb5.ext al15
  clear hw12 al15 ge16
  obtain ⟨w19, g20, hw21, hg22, hb23, al24, ge25, sz26⟩ := mk_alloc w10 [(.slice none 0 0), (.bool false)] 28 (N := w.heap.size + 1 + 1) sz17
  rw [← hw21]
  have Ng2_g20 := hb5.ne ge25
  have Ng11_g20 := hb14.ne ge25
  have G27 := below_ge hB ge25
  replace hB := ext_trans hB al24
  replace h := h.ext al24
  replace k := k.ext al24
  replace hb5 := hb5.ext al24
  replace hb14 := hb14.ext al24
  clear hw21 al24 ge25
  try rw [show w.heap.size + 2 = g20 from hg22.symm]
  try rw [← hg22]
  rw [← hg13]
  rw [← hg4]
  clear hg4 hg13 hg22 sz8 sz17 sz26
  replace h := h.drew
  replace k := k.drew
  replace hB := hB.drew
  replace hb5 := hb5.drew
  replace hb14 := hb14.drew
  replace hb23 := hb23.drew
  have hS28 : Hid (∀ w', Below w19.drew.heap.size w19.drew w' → w'.cell? ⟨g2, 0, none⟩ = some (.slice ao n c) ∧ w'.cell? ⟨g2, 1, none⟩ = some (.bool s) ∧ w'.cell? ⟨g11, 0, none⟩ = some (.slice bo m d) ∧ w'.cell? ⟨g11, 1, none⟩ = some (.bool t)) := hid (fun w' hb => ⟨(hb5.ext hb).cell 0 (by simp), (hb5.ext hb).cell 1 (by simp), (hb14.ext hb).cell 0 (by simp), (hb14.ext hb).cell 1 (by simp)⟩)
  have Q29 := Below.refl w19.drew.heap.size w19.drew
  go_region_held3 (fun w' => w'.cell? ⟨g2, 0, none⟩ = some (.slice ao n c) ∧ w'.cell? ⟨g2, 1, none⟩ = some (.bool s) ∧ w'.cell? ⟨g11, 0, none⟩ = some (.slice bo m d) ∧ w'.cell? ⟨g11, 1, none⟩ = some (.bool t))
    (first | exact hS28.out _ Q37 | exact hS28.out _ Q33 | exact hS28.out _ Q29 | exact ⟨((hb5.ext Q37).upd Ng2_g20.out (Upd.s2 _ _ _ _)).cell 0 (by simp), ((hb5.ext Q37).upd Ng2_g20.out (Upd.s2 _ _ _ _)).cell 1 (by simp), ((hb14.ext Q37).upd Ng11_g20.out (Upd.s2 _ _ _ _)).cell 0 (by simp), ((hb14.ext Q37).upd Ng11_g20.out (Upd.s2 _ _ _ _)).cell 1 (by simp)⟩)
    (first
      | (go_at_call 42; refine (rNeg k).mono ?_; rintro e w31 ⟨o30, n30, c30, r30, rfl, h30, hb32⟩; have Q33 := ext_trans Q29 hb32; replace h := h.ext hb32; replace k := k.ext hb32; clear hb32)
      | (go_at_call 39; refine (rAdd h h30).mono ?_; rintro e w35 ⟨o34, n34, c34, r34, rfl, h34, hb36⟩; have Q37 := ext_trans Q33 hb36; replace h := h.ext hb36; replace k := k.ext hb36; replace h30 := h30.ext hb36; clear hb36; obtain ⟨a38, a39, a40, a41⟩ := cells2 (hb23.ext Q37)))
  replace hb5 := hb5.ext Q37
  replace hb14 := hb14.ext Q37
  replace hb23 := hb23.ext Q37
  replace hB := ext_trans hB Q37
  clear hS28 Q29 Q33 Q37
  clear a38 a39 a40 a41
  obtain ⟨w42, hw43, hu44, hb45, sz46⟩ := mk_set2 hb23 (.slice o34 n34 c34) (.bool r34) (N := w35.heap.size) rfl
  rw [← hw43]
  replace h := h.upd hb23 (noInt_rr _ _ _ _) hu44
  replace k := k.upd hb23 (noInt_rr _ _ _ _) hu44
  replace h30 := h30.upd hb23 (noInt_rr _ _ _ _) hu44
  replace h34 := h34.upd hb23 (noInt_rr _ _ _ _) hu44
  replace hB := below_upd hB G27.out hb23.lt hu44
  replace hb5 := hb5.upd Ng2_g20.out hu44
  replace hb14 := hb14.upd Ng11_g20.out hu44
  clear hw43 hu44 hb23
  clear sz46
  obtain ⟨a47, a48, f49, f50⟩ := cells2 hb45
  have l51 := hb45.lt
  go_wp2
  refine bodyPost_ret (by simp [results, Try.results40, go_sem, a47, a48]; try rfl) rfl ?_
  rw [← Int.sub_eq_add_neg] at h34
  exact ⟨_, _, _, _, rfl, h34, hB⟩

end Go.Proofs.Ytkcagkcphobmfaa
