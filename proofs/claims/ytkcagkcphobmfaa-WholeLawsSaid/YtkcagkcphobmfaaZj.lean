/-
  WALKS: whole.DivMod, whole.Exact.
-/
import Derived.Test.YtkcagkcphobmfaaZi
set_option linter.unusedVariables false
set_option linter.unusedSimpArgs false
namespace Go.Proofs.Ytkcagkcphobmfaa
open Go.RowKit

theorem one_la {w : World} {g : Nat} {t : TypeId} (h : Blk w g t [.int .u32 1]) : La 1 w (some ⟨g, 0, none⟩) 1 1 1 :=
  ⟨Nat.le_refl _, [1], Blk.rw (xs := [1]) h (by intro x hx; rw [List.mem_singleton.1 hx]; decide), rfl⟩

section
variable {K L : Nat} {w : World} {ao bo : Option Addr} {n c m d M N : Nat}
theorem lDiv (h : La K w ao n c M) (k : La L w bo m d N) (hN : N ≠ 0) (hK : K ≤ 1073741000 := by omega) (hL : L ≤ 1073741000 := by omega) :
    Calls Try.prog 54 #[.slice ao n c, .slice bo m d] w fun e w' => ∃ qo qn qc ro rn rc, e = .returned (.tuple #[.slice qo qn qc, .slice ro rn rc, .int .i64 0]) ∧ Ln K w' qo qn qc (M / N) ∧ Ln L w' ro rn rc (M % N) ∧ Below w.heap.size w w' := by
  have ha := h.lt
  have hb := k.lt
  obtain ⟨h1, xs, h2, rfl⟩ := h
  obtain ⟨k1, ys, k2, rfl⟩ := k
  refine (divmod_any ao bo n c m d xs ys w (by omega) (by omega) h2 k2).mono ?_
  rintro e w' ⟨qo, qn, qc, ro, rn, rc, he, h3, _, h4, _, hbb⟩
  have e1 : divErr (val ys) = 0 := by unfold divErr; rw [if_neg hN]
  have e2 : modZ (val xs) (val ys) = val xs % val ys := by unfold modZ; rw [if_neg hN]
  rw [e1] at he
  rw [e2] at h4
  have := Nat.div_le_self (val xs) (val ys)
  have := Nat.mod_lt (val xs) (Nat.pos_of_ne_zero hN)
  exact ⟨qo, qn, qc, ro, rn, rc, he, Ln.of h3 (by omega), Ln.of h4 (by omega), hbb⟩
theorem lDiv0 (h : La K w ao n c M) (k : La L w bo m d 0) (hK : K ≤ 1073741000 := by omega) (hL : L ≤ 1073741000 := by omega) :
    Calls Try.prog 54 #[.slice ao n c, .slice bo m d] w fun e w' => ∃ qo qn qc ro rn rc, e = .returned (.tuple #[.slice qo qn qc, .slice ro rn rc, .int .i64 2]) ∧ Below w.heap.size w w' := by
  obtain ⟨h1, xs, h2, rfl⟩ := h
  obtain ⟨k1, ys, k2, k3⟩ := k
  refine (divmod_any ao bo n c m d xs ys w (by omega) (by omega) h2 k2).mono ?_
  rintro e w' ⟨qo, qn, qc, ro, rn, rc, he, h3, _, h4, _, hbb⟩
  rw [k3] at he
  exact ⟨qo, qn, qc, ro, rn, rc, he, hbb⟩
end

theorem ediv_of {a b q r : Int} (hb : b ≠ 0) (h : r + b * q = a) (h0 : 0 ≤ r) (h1 : r < (b.natAbs : Int)) : q = a / b ∧ r = a % b := by
  rcases Int.lt_or_gt_of_ne hb with hb | hb
  · have h2 := (Int.ediv_emod_unique (a := a) (b := -b) (r := r) (q := -q) (by omega)).2 ⟨by rw [Int.neg_mul_neg]; exact h, h0, by omega⟩
    rw [Int.ediv_neg, Int.emod_neg] at h2
    exact ⟨by omega, h2.2.symm⟩
  · have h2 := (Int.ediv_emod_unique (a := a) (b := b) (r := r) (q := q) hb).2 ⟨h, h0, by omega⟩
    exact ⟨h2.1.symm, h2.2.symm⟩

theorem zv_abs_sign (x : Int) (s : Bool) (hs : x ≠ 0 → s = decide (x < 0)) : x = zv s x.natAbs := by
  by_cases h : x = 0
  · subst h; cases s <;> rfl
  · rw [hs h]; exact (zv_natAbs x).symm

theorem zv_nat_mul (s t : Bool) (a b : Nat) : zv s (a * b) = zv t a * zv (s != t) b := by
  cases s <;> cases t <;> simp [zv, Int.neg_mul, Int.mul_neg]

theorem zv_add (s : Bool) (a b : Nat) : zv s (a + b) = zv s a + zv s b := by cases s <;> simp [zv] <;> omega

theorem div_keep {x y : Int} {s t : Bool} (hs : x ≠ 0 → s = decide (x < 0)) (ht : y ≠ 0 → t = decide (y < 0)) (hy : y ≠ 0) (h : s = false ∨ x.natAbs % y.natAbs = 0) :
    zv (s != t) (x.natAbs / y.natAbs) = x / y ∧ ((x.natAbs % y.natAbs : Nat) : Int) = x % y := by
  refine ediv_of hy ?_ (by omega) (by have := Nat.mod_lt x.natAbs (show 0 < y.natAbs by omega); omega)
  have h1 := zv_abs_sign x s hs
  have h2 := zv_abs_sign y t ht
  have h3 := Nat.mod_add_div x.natAbs y.natAbs
  have h4 := congrArg (zv s) h3
  rw [zv_add, zv_nat_mul s t, ← h1, ← h2] at h4
  refine Eq.trans ?_ h4
  congr 1
  rcases h with h | h
  · rw [h]; rfl
  · rw [h]; cases s <;> rfl

theorem div_turn {x y : Int} {s t : Bool} (hs : x ≠ 0 → s = decide (x < 0)) (ht : y ≠ 0 → t = decide (y < 0)) (hy : y ≠ 0) (h : s = true) (hr : 0 < x.natAbs % y.natAbs) :
    zv (s != t) (x.natAbs / y.natAbs + 1) = x / y ∧ ((y.natAbs - x.natAbs % y.natAbs : Nat) : Int) = x % y := by
  have hlt := Nat.mod_lt x.natAbs (show 0 < y.natAbs by omega)
  refine ediv_of hy ?_ (by omega) (by omega)
  have h1 := zv_abs_sign x s hs
  have h2 := zv_abs_sign y t ht
  have h3 := Nat.mod_add_div x.natAbs y.natAbs
  have h5 : x.natAbs + (y.natAbs - x.natAbs % y.natAbs) = y.natAbs * (x.natAbs / y.natAbs + 1) := by rw [Nat.mul_add, Nat.mul_one]; omega
  have h4 := congrArg (zv s) h5
  rw [zv_add, zv_nat_mul s t, ← h1, ← h2] at h4
  have h6 : zv s (y.natAbs - x.natAbs % y.natAbs) = -((y.natAbs - x.natAbs % y.natAbs : Nat) : Int) := by rw [h]; rfl
  rw [h6] at h4
  omega

/-- The post of a division. -/
def RetQR (K L : Nat) (w : World) (q r : Int) (e : Ending) (w' : World) : Prop := ∃ s ao n c t bo m d, e = .returned (.tuple #[.agg #[.bool s, .slice ao n c], .agg #[.bool t, .slice bo m d], .int .i64 0]) ∧ Zn K w' s ao n c q ∧ Zn L w' t bo m d r ∧ Below w.heap.size w w'

set_option maxHeartbeats 4000000 in
theorem wDiv0 {K L : Nat} {w : World} {s t : Bool} {ao bo : Option Addr} {n c m d : Nat} {x : Int} (h : Za K w s ao n c x) (k : Za L w t bo m d 0) (hK : K ≤ 1073741000 := by omega) (hL : L ≤ 1073741000 := by omega) :
    Calls Try.prog 15 #[.agg #[.bool s, .slice ao n c], .agg #[.bool t, .slice bo m d]] w (RetV (.tuple #[.agg #[.bool false, .slice none 0 0], .agg #[.bool false, .slice none 0 0], .int .i64 2]) w) := by
  go_enter Try.func15, Try.ntmps15
  have hB := Below.refl w.heap.size w
  go_wp2_with fail
  obtain ⟨w1, g2, hw3, hg4, hb5, al6, ge7, sz8⟩ := mk_alloc w [(.bool s), (.slice ao n c)] 24 (N := w.heap.size) rfl
  rw [← hw3]
  have G9 := below_ge hB ge7
  replace hB := ext_trans hB al6
  replace h := h.ext al6
  replace k := k.ext al6
  clear hw3 al6 ge7
  obtain ⟨w10, g11, hw12, hg13, hb14, al15, ge16, sz17⟩ := mk_alloc w1 [(.bool t), (.slice bo m d)] 24 (N := w.heap.size + 1) sz8
  rw [← hw12]
  have Ng2_g11 := hb5.ne ge16
  have G18 := below_ge hB ge16
  replace hB := ext_trans hB al15
  replace h := h.ext al15
  replace k := k.ext al15
  replace hb5 := hb5.ext al15
  clear hw12 al15 ge16
  obtain ⟨w19, g20, hw21, hg22, hb23, al24, ge25, sz26⟩ := mk_alloc w10 [(.bool false), (.slice none 0 0)] 24 (N := w.heap.size + 1 + 1) sz17
  rw [← hw21]
  have Ng2_g20 := hb5.ne ge25
  have Ng11_g20 := hb14.ne ge25
  have G27 := below_ge hB ge25
  replace hB := ext_trans hB al24
  replace h := h.ext al24
  replace k := k.ext al24
  replace hb5 := hb5.ext al24
  replace hb14 := hb14.ext al24
  clear hw21 al24 ge25
  obtain ⟨w28, g29, hw30, hg31, hb32, al33, ge34, sz35⟩ := mk_alloc w19 [(.bool false), (.slice none 0 0)] 24 (N := w.heap.size + 1 + 1 + 1) sz26
  rw [← hw30]
  have Ng2_g29 := hb5.ne ge34
  have Ng11_g29 := hb14.ne ge34
  have Ng20_g29 := hb23.ne ge34
  have G36 := below_ge hB ge34
  replace hB := ext_trans hB al33
  replace h := h.ext al33
  replace k := k.ext al33
  replace hb5 := hb5.ext al33
  replace hb14 := hb14.ext al33
  replace hb23 := hb23.ext al33
  clear hw30 al33 ge34
  try rw [show w.heap.size + 3 = g29 from hg31.symm]
  try rw [← hg31]
  try rw [show w.heap.size + 2 = g20 from hg22.symm]
  try rw [← hg22]
  rw [← hg13]
  rw [← hg4]
  clear hg4 hg13 hg22 hg31 sz8 sz17 sz26 sz35
  refine (lDiv0 h.la (k.la)).mono ?_
  rintro e w37 ⟨qo, qn, qc, ro, rn, rc, rfl, hb38⟩
  replace h := h.ext hb38
  replace k := k.ext hb38
  replace hb5 := hb5.ext hb38
  replace hb14 := hb14.ext hb38
  replace hb23 := hb23.ext hb38
  replace hb32 := hb32.ext hb38
  replace hB := ext_trans hB hb38
  clear hb38
  obtain ⟨a39, a40, f41, f42⟩ := cells2 hb23
  have l43 := hb23.lt
  obtain ⟨a44, a45, f46, f47⟩ := cells2 hb32
  have l48 := hb32.lt
  have e49 := Ng20_g29.out
  have Mg29_g20 := hid_ne Ng20_g29
  have e50 := Mg29_g20.out
  go_wp2_with fail
  clear a39 a40 f41 f42 l43 a44 a45 f46 f47 l48 e49 e50
  obtain ⟨w51, hw52, hu53, hb54, sz55⟩ := mk_set2 hb23 (.bool false) (.slice none 0 0) (N := w37.heap.size) rfl
  rw [← hw52]
  replace h := h.upd hb23 (noInt_zz _ _ _ _) hu53
  replace k := k.upd hb23 (noInt_zz _ _ _ _) hu53
  replace hB := below_upd hB G27.out hb23.lt hu53
  replace hb5 := hb5.upd Ng2_g20.out hu53
  replace hb14 := hb14.upd Ng11_g20.out hu53
  replace hb32 := hb32.upd Mg29_g20.out hu53
  clear hw52 hu53 hb23
  obtain ⟨w56, hw57, hu58, hb59, sz60⟩ := mk_set2 hb32 (.bool false) (.slice none 0 0) (N := w37.heap.size) sz55
  rw [← hw57]
  replace h := h.upd hb32 (noInt_zz _ _ _ _) hu58
  replace k := k.upd hb32 (noInt_zz _ _ _ _) hu58
  replace hB := below_upd hB G36.out hb32.lt hu58
  replace hb5 := hb5.upd Ng2_g29.out hu58
  replace hb14 := hb14.upd Ng11_g29.out hu58
  replace hb54 := hb54.upd Ng20_g29.out hu58
  clear hw57 hu58 hb32
  clear sz55 sz60
  obtain ⟨a61, a62, f63, f64⟩ := cells2 hb54
  have l65 := hb54.lt
  obtain ⟨a66, a67, f68, f69⟩ := cells2 hb59
  have l70 := hb59.lt
  go_wp2
  refine bodyPost_ret (by simp [results, Try.results15, go_sem, a61, a62, a66, a67]; try rfl) rfl ?_
  exact ⟨rfl, hB⟩

set_option maxHeartbeats 4000000 in
theorem wDiv {K L : Nat} {w : World} {s t : Bool} {ao bo : Option Addr} {n c m d : Nat} {x y : Int} (h : Za K w s ao n c x) (k : Za L w t bo m d y) (hy : y ≠ 0) (hK : K ≤ 1073741000 := by omega) (hL : L ≤ 1073741000 := by omega) :
    Calls Try.prog 15 #[.agg #[.bool s, .slice ao n c], .agg #[.bool t, .slice bo m d]] w (RetQR (K + 2) (L + 2) w (x / y) (x % y)) := by
  have HS : Hid (x ≠ 0 → s = decide (x < 0)) := hid h.neg
  have HT : Hid (y ≠ 0 → t = decide (y < 0)) := hid k.neg
  have HYN : Hid (y.natAbs ≠ 0) := hid (by omega)
  have HR := hid (Nat.mod_lt x.natAbs (show 0 < y.natAbs by omega))
  cases s
  · skip
    go_enter Try.func15, Try.ntmps15
    have hB := Below.refl w.heap.size w
    go_wp2_with fail
    obtain ⟨w1, g2, hw3, hg4, hb5, al6, ge7, sz8⟩ := mk_alloc w [(.bool false), (.slice ao n c)] 24 (N := w.heap.size) rfl
    rw [← hw3]
    have G9 := below_ge hB ge7
    replace hB := ext_trans hB al6
    replace h := h.ext al6
    replace k := k.ext al6
    clear hw3 al6 ge7
    obtain ⟨w10, g11, hw12, hg13, hb14, al15, ge16, sz17⟩ := mk_alloc w1 [(.bool t), (.slice bo m d)] 24 (N := w.heap.size + 1) sz8
    rw [← hw12]
    have Ng2_g11 := hb5.ne ge16
    have G18 := below_ge hB ge16
    replace hB := ext_trans hB al15
    replace h := h.ext al15
    replace k := k.ext al15
    replace hb5 := hb5.ext al15
    clear hw12 al15 ge16
    obtain ⟨w19, g20, hw21, hg22, hb23, al24, ge25, sz26⟩ := mk_alloc w10 [(.bool false), (.slice none 0 0)] 24 (N := w.heap.size + 1 + 1) sz17
    rw [← hw21]
    have Ng2_g20 := hb5.ne ge25
    have Ng11_g20 := hb14.ne ge25
    have G27 := below_ge hB ge25
    replace hB := ext_trans hB al24
    replace h := h.ext al24
    replace k := k.ext al24
    replace hb5 := hb5.ext al24
    replace hb14 := hb14.ext al24
    clear hw21 al24 ge25
    obtain ⟨w28, g29, hw30, hg31, hb32, al33, ge34, sz35⟩ := mk_alloc w19 [(.bool false), (.slice none 0 0)] 24 (N := w.heap.size + 1 + 1 + 1) sz26
    rw [← hw30]
    have Ng2_g29 := hb5.ne ge34
    have Ng11_g29 := hb14.ne ge34
    have Ng20_g29 := hb23.ne ge34
    have G36 := below_ge hB ge34
    replace hB := ext_trans hB al33
    replace h := h.ext al33
    replace k := k.ext al33
    replace hb5 := hb5.ext al33
    replace hb14 := hb14.ext al33
    replace hb23 := hb23.ext al33
    clear hw30 al33 ge34
    try rw [show w.heap.size + 3 = g29 from hg31.symm]
    try rw [← hg31]
    try rw [show w.heap.size + 2 = g20 from hg22.symm]
    try rw [← hg22]
    rw [← hg13]
    rw [← hg4]
    clear hg4 hg13 hg22 hg31 sz8 sz17 sz26 sz35
    refine (lDiv h.la k.la HYN.out).mono ?_
    rintro e w40 ⟨qo, qn, qc, ro, rn, rc, rfl, h38, h39, hb41⟩
    replace h := h.ext hb41
    replace k := k.ext hb41
    replace hb5 := hb5.ext hb41
    replace hb14 := hb14.ext hb41
    replace hb23 := hb23.ext hb41
    replace hb32 := hb32.ext hb41
    replace hB := ext_trans hB hb41
    clear hb41
    obtain ⟨a42, a43, f44, f45⟩ := cells2 hb5
    have l46 := hb5.lt
    obtain ⟨a47, a48, f49, f50⟩ := cells2 hb14
    have l51 := hb14.lt
    go_wp2_with fail
    clear a42 a43 f44 f45 l46 a47 a48 f49 f50 l51
    refine (lMade (z := (zv (false != t) (Int.natAbs x / Int.natAbs y))) h38 (by cases t <;> rfl)).mono ?_
    rintro e w53 ⟨r52, o52, n52, c52, rfl, h52, hb54⟩
    replace h := h.ext hb54
    replace k := k.ext hb54
    replace h38 := h38.ext hb54
    replace h39 := h39.ext hb54
    replace hb5 := hb5.ext hb54
    replace hb14 := hb14.ext hb54
    replace hb23 := hb23.ext hb54
    replace hb32 := hb32.ext hb54
    replace hB := ext_trans hB hb54
    clear hb54
    go_wp2_with fail
    refine (lMade (z := ((Int.natAbs x % Int.natAbs y : Nat) : Int)) h39 (rfl)).mono ?_
    rintro e w56 ⟨r55, o55, n55, c55, rfl, h55, hb57⟩
    replace h := h.ext hb57
    replace k := k.ext hb57
    replace h38 := h38.ext hb57
    replace h39 := h39.ext hb57
    replace h52 := h52.ext hb57
    replace hb5 := hb5.ext hb57
    replace hb14 := hb14.ext hb57
    replace hb23 := hb23.ext hb57
    replace hb32 := hb32.ext hb57
    replace hB := ext_trans hB hb57
    clear hb57
    obtain ⟨a58, a59, f60, f61⟩ := cells2 hb23
    have l62 := hb23.lt
    obtain ⟨a63, a64, f65, f66⟩ := cells2 hb32
    have l67 := hb32.lt
    obtain ⟨a68, a69, f70, f71⟩ := cells2 hb5
    have l72 := hb5.lt
    have e73 := Ng20_g29.out
    have Mg29_g20 := hid_ne Ng20_g29
    have e74 := Mg29_g20.out
    have e75 := Ng2_g20.out
    have e76 := Ng2_g29.out
    go_wp2_with fail
    clear a58 a59 f60 f61 l62 a63 a64 f65 f66 l67 a68 a69 f70 f71 l72 e73 e74 e75 e76
    obtain ⟨w77, hw78, hu79, hb80, sz81⟩ := mk_set2 hb23 (.bool r52) (.slice o52 n52 c52) (N := w56.heap.size) rfl
    rw [← hw78]
    replace h := h.upd hb23 (noInt_zz _ _ _ _) hu79
    replace k := k.upd hb23 (noInt_zz _ _ _ _) hu79
    replace h38 := h38.upd hb23 (noInt_zz _ _ _ _) hu79
    replace h39 := h39.upd hb23 (noInt_zz _ _ _ _) hu79
    replace h52 := h52.upd hb23 (noInt_zz _ _ _ _) hu79
    replace h55 := h55.upd hb23 (noInt_zz _ _ _ _) hu79
    replace hB := below_upd hB G27.out hb23.lt hu79
    replace hb5 := hb5.upd Ng2_g20.out hu79
    replace hb14 := hb14.upd Ng11_g20.out hu79
    replace hb32 := hb32.upd Mg29_g20.out hu79
    clear hw78 hu79 hb23
    obtain ⟨w82, hw83, hu84, hb85, sz86⟩ := mk_set2 hb32 (.bool r55) (.slice o55 n55 c55) (N := w56.heap.size) sz81
    rw [← hw83]
    replace h := h.upd hb32 (noInt_zz _ _ _ _) hu84
    replace k := k.upd hb32 (noInt_zz _ _ _ _) hu84
    replace h38 := h38.upd hb32 (noInt_zz _ _ _ _) hu84
    replace h39 := h39.upd hb32 (noInt_zz _ _ _ _) hu84
    replace h52 := h52.upd hb32 (noInt_zz _ _ _ _) hu84
    replace h55 := h55.upd hb32 (noInt_zz _ _ _ _) hu84
    replace hB := below_upd hB G36.out hb32.lt hu84
    replace hb5 := hb5.upd Ng2_g29.out hu84
    replace hb14 := hb14.upd Ng11_g29.out hu84
    replace hb80 := hb80.upd Ng20_g29.out hu84
    clear hw83 hu84 hb32
    clear sz81 sz86
    obtain ⟨a87, a88, f89, f90⟩ := cells2 hb80
    have l91 := hb80.lt
    obtain ⟨a92, a93, f94, f95⟩ := cells2 hb85
    have l96 := hb85.lt
    have e97 := Ng20_g29.out
    have e98 := Mg29_g20.out
    go_region
    all_goals
      clear a87 a88 f89 f90 l91 a92 a93 f94 f95 l96 e97 e98
      obtain ⟨w99, hw100, hu101, hb102, sz103⟩ := mk_set2 hb80 (.bool r52) (.slice o52 n52 c52) (N := w82.heap.size) rfl
      rw [← hw100]
      replace h := h.upd hb80 (noInt_zz _ _ _ _) hu101
      replace k := k.upd hb80 (noInt_zz _ _ _ _) hu101
      replace h38 := h38.upd hb80 (noInt_zz _ _ _ _) hu101
      replace h39 := h39.upd hb80 (noInt_zz _ _ _ _) hu101
      replace h52 := h52.upd hb80 (noInt_zz _ _ _ _) hu101
      replace h55 := h55.upd hb80 (noInt_zz _ _ _ _) hu101
      replace hB := below_upd hB G27.out hb80.lt hu101
      replace hb5 := hb5.upd Ng2_g20.out hu101
      replace hb14 := hb14.upd Ng11_g20.out hu101
      replace hb85 := hb85.upd Mg29_g20.out hu101
      clear hw100 hu101 hb80
      obtain ⟨w104, hw105, hu106, hb107, sz108⟩ := mk_set2 hb85 (.bool r55) (.slice o55 n55 c55) (N := w82.heap.size) sz103
      rw [← hw105]
      replace h := h.upd hb85 (noInt_zz _ _ _ _) hu106
      replace k := k.upd hb85 (noInt_zz _ _ _ _) hu106
      replace h38 := h38.upd hb85 (noInt_zz _ _ _ _) hu106
      replace h39 := h39.upd hb85 (noInt_zz _ _ _ _) hu106
      replace h52 := h52.upd hb85 (noInt_zz _ _ _ _) hu106
      replace h55 := h55.upd hb85 (noInt_zz _ _ _ _) hu106
      replace hB := below_upd hB G36.out hb85.lt hu106
      replace hb5 := hb5.upd Ng2_g29.out hu106
      replace hb14 := hb14.upd Ng11_g29.out hu106
      replace hb102 := hb102.upd Ng20_g29.out hu106
      clear hw105 hu106 hb85
      clear sz103 sz108
      replace h := h.drew
      replace k := k.drew
      replace h38 := h38.drew
      replace h39 := h39.drew
      replace h52 := h52.drew
      replace h55 := h55.drew
      replace hB := hB.drew
      replace hb5 := hb5.drew
      replace hb14 := hb14.drew
      replace hb102 := hb102.drew
      replace hb107 := hb107.drew
      generalize w104.drew = w109 at h k h38 h39 h52 h55 hB hb5 hb14 hb102 hb107 ⊢
      obtain ⟨a110, a111, f112, f113⟩ := cells2 hb102
      have l114 := hb102.lt
      obtain ⟨a115, a116, f117, f118⟩ := cells2 hb107
      have l119 := hb107.lt
      go_wp2
      refine bodyPost_ret (by simp [results, Try.results15, go_sem, a110, a111, a115, a116]; try rfl) rfl ?_
      obtain ⟨e1, e2⟩ := div_keep HS.out HT.out hy (Or.inl rfl)
      rw [e1] at h52
      rw [e2] at h55
      exact ⟨_, _, _, _, _, _, _, _, rfl, h52.mono (by omega), h55.mono (by omega), hB⟩
  · by_cases hz : x.natAbs % y.natAbs = 0
    · have HP := hid hz
      go_enter Try.func15, Try.ntmps15
      have hB := Below.refl w.heap.size w
      go_wp2_with fail
      obtain ⟨w1, g2, hw3, hg4, hb5, al6, ge7, sz8⟩ := mk_alloc w [(.bool true), (.slice ao n c)] 24 (N := w.heap.size) rfl
      rw [← hw3]
      have G9 := below_ge hB ge7
      replace hB := ext_trans hB al6
      replace h := h.ext al6
      replace k := k.ext al6
      clear hw3 al6 ge7
      obtain ⟨w10, g11, hw12, hg13, hb14, al15, ge16, sz17⟩ := mk_alloc w1 [(.bool t), (.slice bo m d)] 24 (N := w.heap.size + 1) sz8
      rw [← hw12]
      have Ng2_g11 := hb5.ne ge16
      have G18 := below_ge hB ge16
      replace hB := ext_trans hB al15
      replace h := h.ext al15
      replace k := k.ext al15
      replace hb5 := hb5.ext al15
      clear hw12 al15 ge16
      obtain ⟨w19, g20, hw21, hg22, hb23, al24, ge25, sz26⟩ := mk_alloc w10 [(.bool false), (.slice none 0 0)] 24 (N := w.heap.size + 1 + 1) sz17
      rw [← hw21]
      have Ng2_g20 := hb5.ne ge25
      have Ng11_g20 := hb14.ne ge25
      have G27 := below_ge hB ge25
      replace hB := ext_trans hB al24
      replace h := h.ext al24
      replace k := k.ext al24
      replace hb5 := hb5.ext al24
      replace hb14 := hb14.ext al24
      clear hw21 al24 ge25
      obtain ⟨w28, g29, hw30, hg31, hb32, al33, ge34, sz35⟩ := mk_alloc w19 [(.bool false), (.slice none 0 0)] 24 (N := w.heap.size + 1 + 1 + 1) sz26
      rw [← hw30]
      have Ng2_g29 := hb5.ne ge34
      have Ng11_g29 := hb14.ne ge34
      have Ng20_g29 := hb23.ne ge34
      have G36 := below_ge hB ge34
      replace hB := ext_trans hB al33
      replace h := h.ext al33
      replace k := k.ext al33
      replace hb5 := hb5.ext al33
      replace hb14 := hb14.ext al33
      replace hb23 := hb23.ext al33
      clear hw30 al33 ge34
      try rw [show w.heap.size + 3 = g29 from hg31.symm]
      try rw [← hg31]
      try rw [show w.heap.size + 2 = g20 from hg22.symm]
      try rw [← hg22]
      rw [← hg13]
      rw [← hg4]
      clear hg4 hg13 hg22 hg31 sz8 sz17 sz26 sz35
      refine (lDiv h.la k.la HYN.out).mono ?_
      rintro e w40 ⟨qo, qn, qc, ro, rn, rc, rfl, h38, h39, hb41⟩
      replace h := h.ext hb41
      replace k := k.ext hb41
      replace hb5 := hb5.ext hb41
      replace hb14 := hb14.ext hb41
      replace hb23 := hb23.ext hb41
      replace hb32 := hb32.ext hb41
      replace hB := ext_trans hB hb41
      clear hb41
      have HZ : Hid (rn = 0 ↔ x.natAbs % y.natAbs = 0) := hid h39.zero
      have e1 : decide ((0 : Int) < (rn : Int)) = false := by rw [decide_eq_false_iff_not]; have := HZ.out.2 hz; omega
      have e1n : decide (0 < rn) = false := by rw [decide_eq_false_iff_not]; have := HZ.out.2 hz; omega
      clear hz
      obtain ⟨a42, a43, f44, f45⟩ := cells2 hb5
      have l46 := hb5.lt
      obtain ⟨a47, a48, f49, f50⟩ := cells2 hb14
      have l51 := hb14.lt
      go_wp2_with fail
      clear a42 a43 f44 f45 l46 a47 a48 f49 f50 l51
      refine (lMade (z := (zv (true != t) (Int.natAbs x / Int.natAbs y))) h38 (by cases t <;> rfl)).mono ?_
      rintro e w53 ⟨r52, o52, n52, c52, rfl, h52, hb54⟩
      replace h := h.ext hb54
      replace k := k.ext hb54
      replace h38 := h38.ext hb54
      replace h39 := h39.ext hb54
      replace hb5 := hb5.ext hb54
      replace hb14 := hb14.ext hb54
      replace hb23 := hb23.ext hb54
      replace hb32 := hb32.ext hb54
      replace hB := ext_trans hB hb54
      clear hb54
      go_wp2_with fail
      refine (lMade (z := ((Int.natAbs x % Int.natAbs y : Nat) : Int)) h39 (rfl)).mono ?_
      rintro e w56 ⟨r55, o55, n55, c55, rfl, h55, hb57⟩
      replace h := h.ext hb57
      replace k := k.ext hb57
      replace h38 := h38.ext hb57
      replace h39 := h39.ext hb57
      replace h52 := h52.ext hb57
      replace hb5 := hb5.ext hb57
      replace hb14 := hb14.ext hb57
      replace hb23 := hb23.ext hb57
      replace hb32 := hb32.ext hb57
      replace hB := ext_trans hB hb57
      clear hb57
      obtain ⟨a58, a59, f60, f61⟩ := cells2 hb23
      have l62 := hb23.lt
      obtain ⟨a63, a64, f65, f66⟩ := cells2 hb32
      have l67 := hb32.lt
      obtain ⟨a68, a69, f70, f71⟩ := cells2 hb5
      have l72 := hb5.lt
      have e73 := Ng20_g29.out
      have Mg29_g20 := hid_ne Ng20_g29
      have e74 := Mg29_g20.out
      have e75 := Ng2_g20.out
      have e76 := Ng2_g29.out
      go_wp2_with fail
      clear a58 a59 f60 f61 l62 a63 a64 f65 f66 l67 a68 a69 f70 f71 l72 e73 e74 e75 e76
      obtain ⟨w77, hw78, hu79, hb80, sz81⟩ := mk_set2 hb23 (.bool r52) (.slice o52 n52 c52) (N := w56.heap.size) rfl
      rw [← hw78]
      replace h := h.upd hb23 (noInt_zz _ _ _ _) hu79
      replace k := k.upd hb23 (noInt_zz _ _ _ _) hu79
      replace h38 := h38.upd hb23 (noInt_zz _ _ _ _) hu79
      replace h39 := h39.upd hb23 (noInt_zz _ _ _ _) hu79
      replace h52 := h52.upd hb23 (noInt_zz _ _ _ _) hu79
      replace h55 := h55.upd hb23 (noInt_zz _ _ _ _) hu79
      replace hB := below_upd hB G27.out hb23.lt hu79
      replace hb5 := hb5.upd Ng2_g20.out hu79
      replace hb14 := hb14.upd Ng11_g20.out hu79
      replace hb32 := hb32.upd Mg29_g20.out hu79
      clear hw78 hu79 hb23
      obtain ⟨w82, hw83, hu84, hb85, sz86⟩ := mk_set2 hb32 (.bool r55) (.slice o55 n55 c55) (N := w56.heap.size) sz81
      rw [← hw83]
      replace h := h.upd hb32 (noInt_zz _ _ _ _) hu84
      replace k := k.upd hb32 (noInt_zz _ _ _ _) hu84
      replace h38 := h38.upd hb32 (noInt_zz _ _ _ _) hu84
      replace h39 := h39.upd hb32 (noInt_zz _ _ _ _) hu84
      replace h52 := h52.upd hb32 (noInt_zz _ _ _ _) hu84
      replace h55 := h55.upd hb32 (noInt_zz _ _ _ _) hu84
      replace hB := below_upd hB G36.out hb32.lt hu84
      replace hb5 := hb5.upd Ng2_g29.out hu84
      replace hb14 := hb14.upd Ng11_g29.out hu84
      replace hb80 := hb80.upd Ng20_g29.out hu84
      clear hw83 hu84 hb32
      clear sz81 sz86
      obtain ⟨a87, a88, f89, f90⟩ := cells2 hb80
      have l91 := hb80.lt
      obtain ⟨a92, a93, f94, f95⟩ := cells2 hb85
      have l96 := hb85.lt
      have e97 := Ng20_g29.out
      have e98 := Mg29_g20.out
      go_region
      all_goals
        clear a87 a88 f89 f90 l91 a92 a93 f94 f95 l96 e97 e98
        obtain ⟨w99, hw100, hu101, hb102, sz103⟩ := mk_set2 hb80 (.bool r52) (.slice o52 n52 c52) (N := w82.heap.size) rfl
        rw [← hw100]
        replace h := h.upd hb80 (noInt_zz _ _ _ _) hu101
        replace k := k.upd hb80 (noInt_zz _ _ _ _) hu101
        replace h38 := h38.upd hb80 (noInt_zz _ _ _ _) hu101
        replace h39 := h39.upd hb80 (noInt_zz _ _ _ _) hu101
        replace h52 := h52.upd hb80 (noInt_zz _ _ _ _) hu101
        replace h55 := h55.upd hb80 (noInt_zz _ _ _ _) hu101
        replace hB := below_upd hB G27.out hb80.lt hu101
        replace hb5 := hb5.upd Ng2_g20.out hu101
        replace hb14 := hb14.upd Ng11_g20.out hu101
        replace hb85 := hb85.upd Mg29_g20.out hu101
        clear hw100 hu101 hb80
        obtain ⟨w104, hw105, hu106, hb107, sz108⟩ := mk_set2 hb85 (.bool r55) (.slice o55 n55 c55) (N := w82.heap.size) sz103
        rw [← hw105]
        replace h := h.upd hb85 (noInt_zz _ _ _ _) hu106
        replace k := k.upd hb85 (noInt_zz _ _ _ _) hu106
        replace h38 := h38.upd hb85 (noInt_zz _ _ _ _) hu106
        replace h39 := h39.upd hb85 (noInt_zz _ _ _ _) hu106
        replace h52 := h52.upd hb85 (noInt_zz _ _ _ _) hu106
        replace h55 := h55.upd hb85 (noInt_zz _ _ _ _) hu106
        replace hB := below_upd hB G36.out hb85.lt hu106
        replace hb5 := hb5.upd Ng2_g29.out hu106
        replace hb14 := hb14.upd Ng11_g29.out hu106
        replace hb102 := hb102.upd Ng20_g29.out hu106
        clear hw105 hu106 hb85
        clear sz103 sz108
        replace h := h.drew
        replace k := k.drew
        replace h38 := h38.drew
        replace h39 := h39.drew
        replace h52 := h52.drew
        replace h55 := h55.drew
        replace hB := hB.drew
        replace hb5 := hb5.drew
        replace hb14 := hb14.drew
        replace hb102 := hb102.drew
        replace hb107 := hb107.drew
        generalize w104.drew = w109 at h k h38 h39 h52 h55 hB hb5 hb14 hb102 hb107 ⊢
        obtain ⟨a110, a111, f112, f113⟩ := cells2 hb102
        have l114 := hb102.lt
        obtain ⟨a115, a116, f117, f118⟩ := cells2 hb107
        have l119 := hb107.lt
        go_wp2
        refine bodyPost_ret (by simp [results, Try.results15, go_sem, a110, a111, a115, a116]; try rfl) rfl ?_
        obtain ⟨e1, e2⟩ := div_keep HS.out HT.out hy (Or.inr HP.out)
        rw [e1] at h52
        rw [e2] at h55
        exact ⟨_, _, _, _, _, _, _, _, rfl, h52.mono (by omega), h55.mono (by omega), hB⟩
    · have HP : Hid (0 < x.natAbs % y.natAbs) := hid (by omega)
      go_enter Try.func15, Try.ntmps15
      have hB := Below.refl w.heap.size w
      go_wp2_with fail
      obtain ⟨w1, g2, hw3, hg4, hb5, al6, ge7, sz8⟩ := mk_alloc w [(.bool true), (.slice ao n c)] 24 (N := w.heap.size) rfl
      rw [← hw3]
      have G9 := below_ge hB ge7
      replace hB := ext_trans hB al6
      replace h := h.ext al6
      replace k := k.ext al6
      clear hw3 al6 ge7
      obtain ⟨w10, g11, hw12, hg13, hb14, al15, ge16, sz17⟩ := mk_alloc w1 [(.bool t), (.slice bo m d)] 24 (N := w.heap.size + 1) sz8
      rw [← hw12]
      have Ng2_g11 := hb5.ne ge16
      have G18 := below_ge hB ge16
      replace hB := ext_trans hB al15
      replace h := h.ext al15
      replace k := k.ext al15
      replace hb5 := hb5.ext al15
      clear hw12 al15 ge16
      obtain ⟨w19, g20, hw21, hg22, hb23, al24, ge25, sz26⟩ := mk_alloc w10 [(.bool false), (.slice none 0 0)] 24 (N := w.heap.size + 1 + 1) sz17
      rw [← hw21]
      have Ng2_g20 := hb5.ne ge25
      have Ng11_g20 := hb14.ne ge25
      have G27 := below_ge hB ge25
      replace hB := ext_trans hB al24
      replace h := h.ext al24
      replace k := k.ext al24
      replace hb5 := hb5.ext al24
      replace hb14 := hb14.ext al24
      clear hw21 al24 ge25
      obtain ⟨w28, g29, hw30, hg31, hb32, al33, ge34, sz35⟩ := mk_alloc w19 [(.bool false), (.slice none 0 0)] 24 (N := w.heap.size + 1 + 1 + 1) sz26
      rw [← hw30]
      have Ng2_g29 := hb5.ne ge34
      have Ng11_g29 := hb14.ne ge34
      have Ng20_g29 := hb23.ne ge34
      have G36 := below_ge hB ge34
      replace hB := ext_trans hB al33
      replace h := h.ext al33
      replace k := k.ext al33
      replace hb5 := hb5.ext al33
      replace hb14 := hb14.ext al33
      replace hb23 := hb23.ext al33
      clear hw30 al33 ge34
      try rw [show w.heap.size + 3 = g29 from hg31.symm]
      try rw [← hg31]
      try rw [show w.heap.size + 2 = g20 from hg22.symm]
      try rw [← hg22]
      rw [← hg13]
      rw [← hg4]
      clear hg4 hg13 hg22 hg31 sz8 sz17 sz26 sz35
      refine (lDiv h.la k.la HYN.out).mono ?_
      rintro e w40 ⟨qo, qn, qc, ro, rn, rc, rfl, h38, h39, hb41⟩
      replace h := h.ext hb41
      replace k := k.ext hb41
      replace hb5 := hb5.ext hb41
      replace hb14 := hb14.ext hb41
      replace hb23 := hb23.ext hb41
      replace hb32 := hb32.ext hb41
      replace hB := ext_trans hB hb41
      clear hb41
      have HZ : Hid (rn = 0 ↔ x.natAbs % y.natAbs = 0) := hid h39.zero
      have e1 : decide ((0 : Int) < (rn : Int)) = true := by rw [decide_eq_true_eq]; have := HZ.out.1; omega
      have e1n : decide (0 < rn) = true := by rw [decide_eq_true_eq]; have := HZ.out.1; omega
      clear hz
      obtain ⟨a42, a43, f44, f45⟩ := cells2 hb5
      have l46 := hb5.lt
      obtain ⟨a47, a48, f49, f50⟩ := cells2 hb14
      have l51 := hb14.lt
      go_wp2_with fail
      clear a42 a43 f44 f45 l46 a47 a48 f49 f50 l51
      refine (lMade (z := (zv (true != t) (Int.natAbs x / Int.natAbs y))) h38 (by cases t <;> rfl)).mono ?_
      rintro e w53 ⟨r52, o52, n52, c52, rfl, h52, hb54⟩
      replace h := h.ext hb54
      replace k := k.ext hb54
      replace h38 := h38.ext hb54
      replace h39 := h39.ext hb54
      replace hb5 := hb5.ext hb54
      replace hb14 := hb14.ext hb54
      replace hb23 := hb23.ext hb54
      replace hb32 := hb32.ext hb54
      replace hB := ext_trans hB hb54
      clear hb54
      go_wp2_with fail
      refine (lMade (z := ((Int.natAbs x % Int.natAbs y : Nat) : Int)) h39 (rfl)).mono ?_
      rintro e w56 ⟨r55, o55, n55, c55, rfl, h55, hb57⟩
      replace h := h.ext hb57
      replace k := k.ext hb57
      replace h38 := h38.ext hb57
      replace h39 := h39.ext hb57
      replace h52 := h52.ext hb57
      replace hb5 := hb5.ext hb57
      replace hb14 := hb14.ext hb57
      replace hb23 := hb23.ext hb57
      replace hb32 := hb32.ext hb57
      replace hB := ext_trans hB hb57
      clear hb57
      obtain ⟨a58, a59, f60, f61⟩ := cells2 hb23
      have l62 := hb23.lt
      obtain ⟨a63, a64, f65, f66⟩ := cells2 hb32
      have l67 := hb32.lt
      obtain ⟨a68, a69, f70, f71⟩ := cells2 hb5
      have l72 := hb5.lt
      have e73 := Ng20_g29.out
      have Mg29_g20 := hid_ne Ng20_g29
      have e74 := Mg29_g20.out
      have e75 := Ng2_g20.out
      have e76 := Ng2_g29.out
      go_wp2_with fail
      clear a58 a59 f60 f61 l62 a63 a64 f65 f66 l67 a68 a69 f70 f71 l72 e73 e74 e75 e76
      obtain ⟨w77, hw78, hu79, hb80, sz81⟩ := mk_set2 hb23 (.bool r52) (.slice o52 n52 c52) (N := w56.heap.size) rfl
      rw [← hw78]
      replace h := h.upd hb23 (noInt_zz _ _ _ _) hu79
      replace k := k.upd hb23 (noInt_zz _ _ _ _) hu79
      replace h38 := h38.upd hb23 (noInt_zz _ _ _ _) hu79
      replace h39 := h39.upd hb23 (noInt_zz _ _ _ _) hu79
      replace h52 := h52.upd hb23 (noInt_zz _ _ _ _) hu79
      replace h55 := h55.upd hb23 (noInt_zz _ _ _ _) hu79
      replace hB := below_upd hB G27.out hb23.lt hu79
      replace hb5 := hb5.upd Ng2_g20.out hu79
      replace hb14 := hb14.upd Ng11_g20.out hu79
      replace hb32 := hb32.upd Mg29_g20.out hu79
      clear hw78 hu79 hb23
      obtain ⟨w82, hw83, hu84, hb85, sz86⟩ := mk_set2 hb32 (.bool r55) (.slice o55 n55 c55) (N := w56.heap.size) sz81
      rw [← hw83]
      replace h := h.upd hb32 (noInt_zz _ _ _ _) hu84
      replace k := k.upd hb32 (noInt_zz _ _ _ _) hu84
      replace h38 := h38.upd hb32 (noInt_zz _ _ _ _) hu84
      replace h39 := h39.upd hb32 (noInt_zz _ _ _ _) hu84
      replace h52 := h52.upd hb32 (noInt_zz _ _ _ _) hu84
      replace h55 := h55.upd hb32 (noInt_zz _ _ _ _) hu84
      replace hB := below_upd hB G36.out hb32.lt hu84
      replace hb5 := hb5.upd Ng2_g29.out hu84
      replace hb14 := hb14.upd Ng11_g29.out hu84
      replace hb80 := hb80.upd Ng20_g29.out hu84
      clear hw83 hu84 hb32
      obtain ⟨w87, g88, hw89, hg90, hb91, al92, ge93, sz94⟩ := mk_alloc w82 [(.int .u32 1)] 68 (N := w56.heap.size) sz86
      rw [← hw89]
      have Ng2_g88 := hb5.ne ge93
      have Ng11_g88 := hb14.ne ge93
      have Ng20_g88 := hb80.ne ge93
      have Ng29_g88 := hb85.ne ge93
      have G95 := below_ge hB ge93
      replace hB := ext_trans hB al92
      replace h := h.ext al92
      replace k := k.ext al92
      replace h38 := h38.ext al92
      replace h39 := h39.ext al92
      replace h52 := h52.ext al92
      replace h55 := h55.ext al92
      replace hb5 := hb5.ext al92
      replace hb14 := hb14.ext al92
      replace hb80 := hb80.ext al92
      replace hb85 := hb85.ext al92
      clear hw89 al92 ge93
      rw [← hg90]
      clear hg90 sz81 sz86 sz94
      refine (lAdd h38.la (one_la hb91)).mono ?_
      rintro e w97 ⟨o96, n96, c96, rfl, h96, _, hb98⟩
      replace h := h.ext hb98
      replace k := k.ext hb98
      replace h38 := h38.ext hb98
      replace h39 := h39.ext hb98
      replace h52 := h52.ext hb98
      replace h55 := h55.ext hb98
      replace hb5 := hb5.ext hb98
      replace hb14 := hb14.ext hb98
      replace hb80 := hb80.ext hb98
      replace hb85 := hb85.ext hb98
      replace hb91 := hb91.ext hb98
      replace hB := ext_trans hB hb98
      clear hb98
      obtain ⟨a99, a100, f101, f102⟩ := cells2 hb14
      have l103 := hb14.lt
      go_wp2_with fail
      clear a99 a100 f101 f102 l103
      refine (lSub (b := true) k.la h39.la (decide_eq_true (Nat.le_of_lt HR.out))).mono ?_
      rintro e w105 ⟨o104, n104, c104, rfl, h104, _, hb106⟩
      replace h := h.ext hb106
      replace k := k.ext hb106
      replace h38 := h38.ext hb106
      replace h39 := h39.ext hb106
      replace h52 := h52.ext hb106
      replace h55 := h55.ext hb106
      replace h96 := h96.ext hb106
      replace hb5 := hb5.ext hb106
      replace hb14 := hb14.ext hb106
      replace hb80 := hb80.ext hb106
      replace hb85 := hb85.ext hb106
      replace hb91 := hb91.ext hb106
      replace hB := ext_trans hB hb106
      clear hb106
      obtain ⟨a107, a108, f109, f110⟩ := cells2 hb5
      have l111 := hb5.lt
      obtain ⟨a112, a113, f114, f115⟩ := cells2 hb14
      have l116 := hb14.lt
      go_wp2_with fail
      clear a107 a108 f109 f110 l111 a112 a113 f114 f115 l116
      refine (lMade (z := (zv (true != t) (Int.natAbs x / Int.natAbs y + 1))) h96 (by cases t <;> rfl)).mono ?_
      rintro e w118 ⟨r117, o117, n117, c117, rfl, h117, hb119⟩
      replace h := h.ext hb119
      replace k := k.ext hb119
      replace h38 := h38.ext hb119
      replace h39 := h39.ext hb119
      replace h52 := h52.ext hb119
      replace h55 := h55.ext hb119
      replace h96 := h96.ext hb119
      replace h104 := h104.ext hb119
      replace hb5 := hb5.ext hb119
      replace hb14 := hb14.ext hb119
      replace hb80 := hb80.ext hb119
      replace hb85 := hb85.ext hb119
      replace hb91 := hb91.ext hb119
      replace hB := ext_trans hB hb119
      clear hb119
      go_wp2_with fail
      refine (lMade (z := ((Int.natAbs y - Int.natAbs x % Int.natAbs y : Nat) : Int)) h104 (rfl)).mono ?_
      rintro e w121 ⟨r120, o120, n120, c120, rfl, h120, hb122⟩
      replace h := h.ext hb122
      replace k := k.ext hb122
      replace h38 := h38.ext hb122
      replace h39 := h39.ext hb122
      replace h52 := h52.ext hb122
      replace h55 := h55.ext hb122
      replace h96 := h96.ext hb122
      replace h104 := h104.ext hb122
      replace h117 := h117.ext hb122
      replace hb5 := hb5.ext hb122
      replace hb14 := hb14.ext hb122
      replace hb80 := hb80.ext hb122
      replace hb85 := hb85.ext hb122
      replace hb91 := hb91.ext hb122
      replace hB := ext_trans hB hb122
      clear hb122
      obtain ⟨a123, a124, f125, f126⟩ := cells2 hb80
      have l127 := hb80.lt
      obtain ⟨a128, a129, f130, f131⟩ := cells2 hb85
      have l132 := hb85.lt
      have e133 := Ng20_g29.out
      have e134 := Mg29_g20.out
      go_wp2_with fail
      clear a123 a124 f125 f126 l127 a128 a129 f130 f131 l132 e133 e134
      obtain ⟨w135, hw136, hu137, hb138, sz139⟩ := mk_set2 hb80 (.bool r117) (.slice o117 n117 c117) (N := w121.heap.size) rfl
      rw [← hw136]
      replace h := h.upd hb80 (noInt_zz _ _ _ _) hu137
      replace k := k.upd hb80 (noInt_zz _ _ _ _) hu137
      replace h38 := h38.upd hb80 (noInt_zz _ _ _ _) hu137
      replace h39 := h39.upd hb80 (noInt_zz _ _ _ _) hu137
      replace h52 := h52.upd hb80 (noInt_zz _ _ _ _) hu137
      replace h55 := h55.upd hb80 (noInt_zz _ _ _ _) hu137
      replace h96 := h96.upd hb80 (noInt_zz _ _ _ _) hu137
      replace h104 := h104.upd hb80 (noInt_zz _ _ _ _) hu137
      replace h117 := h117.upd hb80 (noInt_zz _ _ _ _) hu137
      replace h120 := h120.upd hb80 (noInt_zz _ _ _ _) hu137
      replace hB := below_upd hB G27.out hb80.lt hu137
      replace hb5 := hb5.upd Ng2_g20.out hu137
      replace hb14 := hb14.upd Ng11_g20.out hu137
      replace hb85 := hb85.upd Mg29_g20.out hu137
      have Mg88_g20 := hid_ne Ng20_g88
      replace hb91 := hb91.upd Mg88_g20.out hu137
      clear hw136 hu137 hb80
      obtain ⟨w140, hw141, hu142, hb143, sz144⟩ := mk_set2 hb85 (.bool r120) (.slice o120 n120 c120) (N := w121.heap.size) sz139
      rw [← hw141]
      replace h := h.upd hb85 (noInt_zz _ _ _ _) hu142
      replace k := k.upd hb85 (noInt_zz _ _ _ _) hu142
      replace h38 := h38.upd hb85 (noInt_zz _ _ _ _) hu142
      replace h39 := h39.upd hb85 (noInt_zz _ _ _ _) hu142
      replace h52 := h52.upd hb85 (noInt_zz _ _ _ _) hu142
      replace h55 := h55.upd hb85 (noInt_zz _ _ _ _) hu142
      replace h96 := h96.upd hb85 (noInt_zz _ _ _ _) hu142
      replace h104 := h104.upd hb85 (noInt_zz _ _ _ _) hu142
      replace h117 := h117.upd hb85 (noInt_zz _ _ _ _) hu142
      replace h120 := h120.upd hb85 (noInt_zz _ _ _ _) hu142
      replace hB := below_upd hB G36.out hb85.lt hu142
      replace hb5 := hb5.upd Ng2_g29.out hu142
      replace hb14 := hb14.upd Ng11_g29.out hu142
      replace hb138 := hb138.upd Ng20_g29.out hu142
      have Mg88_g29 := hid_ne Ng29_g88
      replace hb91 := hb91.upd Mg88_g29.out hu142
      clear hw141 hu142 hb85
      clear sz139 sz144
      obtain ⟨a145, a146, f147, f148⟩ := cells2 hb138
      have l149 := hb138.lt
      obtain ⟨a150, a151, f152, f153⟩ := cells2 hb143
      have l154 := hb143.lt
      have e155 := Ng20_g29.out
      have e156 := Mg29_g20.out
      go_region
      all_goals
        clear a145 a146 f147 f148 l149 a150 a151 f152 f153 l154 e155 e156
        obtain ⟨w157, hw158, hu159, hb160, sz161⟩ := mk_set2 hb138 (.bool r117) (.slice o117 n117 c117) (N := w140.heap.size) rfl
        rw [← hw158]
        replace h := h.upd hb138 (noInt_zz _ _ _ _) hu159
        replace k := k.upd hb138 (noInt_zz _ _ _ _) hu159
        replace h38 := h38.upd hb138 (noInt_zz _ _ _ _) hu159
        replace h39 := h39.upd hb138 (noInt_zz _ _ _ _) hu159
        replace h52 := h52.upd hb138 (noInt_zz _ _ _ _) hu159
        replace h55 := h55.upd hb138 (noInt_zz _ _ _ _) hu159
        replace h96 := h96.upd hb138 (noInt_zz _ _ _ _) hu159
        replace h104 := h104.upd hb138 (noInt_zz _ _ _ _) hu159
        replace h117 := h117.upd hb138 (noInt_zz _ _ _ _) hu159
        replace h120 := h120.upd hb138 (noInt_zz _ _ _ _) hu159
        replace hB := below_upd hB G27.out hb138.lt hu159
        replace hb5 := hb5.upd Ng2_g20.out hu159
        replace hb14 := hb14.upd Ng11_g20.out hu159
        replace hb143 := hb143.upd Mg29_g20.out hu159
        replace hb91 := hb91.upd Mg88_g20.out hu159
        clear hw158 hu159 hb138
        obtain ⟨w162, hw163, hu164, hb165, sz166⟩ := mk_set2 hb143 (.bool r120) (.slice o120 n120 c120) (N := w140.heap.size) sz161
        rw [← hw163]
        replace h := h.upd hb143 (noInt_zz _ _ _ _) hu164
        replace k := k.upd hb143 (noInt_zz _ _ _ _) hu164
        replace h38 := h38.upd hb143 (noInt_zz _ _ _ _) hu164
        replace h39 := h39.upd hb143 (noInt_zz _ _ _ _) hu164
        replace h52 := h52.upd hb143 (noInt_zz _ _ _ _) hu164
        replace h55 := h55.upd hb143 (noInt_zz _ _ _ _) hu164
        replace h96 := h96.upd hb143 (noInt_zz _ _ _ _) hu164
        replace h104 := h104.upd hb143 (noInt_zz _ _ _ _) hu164
        replace h117 := h117.upd hb143 (noInt_zz _ _ _ _) hu164
        replace h120 := h120.upd hb143 (noInt_zz _ _ _ _) hu164
        replace hB := below_upd hB G36.out hb143.lt hu164
        replace hb5 := hb5.upd Ng2_g29.out hu164
        replace hb14 := hb14.upd Ng11_g29.out hu164
        replace hb160 := hb160.upd Ng20_g29.out hu164
        replace hb91 := hb91.upd Mg88_g29.out hu164
        clear hw163 hu164 hb143
        clear sz161 sz166
        replace h := h.drew
        replace k := k.drew
        replace h38 := h38.drew
        replace h39 := h39.drew
        replace h52 := h52.drew
        replace h55 := h55.drew
        replace h96 := h96.drew
        replace h104 := h104.drew
        replace h117 := h117.drew
        replace h120 := h120.drew
        replace hB := hB.drew
        replace hb5 := hb5.drew
        replace hb14 := hb14.drew
        replace hb160 := hb160.drew
        replace hb165 := hb165.drew
        replace hb91 := hb91.drew
        generalize w162.drew = w167 at h k h38 h39 h52 h55 h96 h104 h117 h120 hB hb5 hb14 hb160 hb165 hb91 ⊢
        obtain ⟨a168, a169, f170, f171⟩ := cells2 hb160
        have l172 := hb160.lt
        obtain ⟨a173, a174, f175, f176⟩ := cells2 hb165
        have l177 := hb165.lt
        go_wp2
        refine bodyPost_ret (by simp [results, Try.results15, go_sem, a168, a169, a173, a174]; try rfl) rfl ?_
        obtain ⟨e1, e2⟩ := div_turn HS.out HT.out hy rfl HP.out
        rw [e1] at h117
        rw [e2] at h120
        exact ⟨_, _, _, _, _, _, _, _, rfl, h117.mono (by omega), h120.mono (by omega), hB⟩

end Go.Proofs.Ytkcagkcphobmfaa
