/-
  WALKS: Zero, Sign, sign, Cmp, Sub of whole numbers, here and in the plain reckoning.
-/
import Derived.Test.YtkcagkcphobmfaaZd
set_option linter.unusedVariables false
set_option linter.unusedSimpArgs false
namespace Go.Proofs.Ytkcagkcphobmfaa
open Go.RowKit

/-- The post: this value; nothing elder is written. -/
def RetV (v : Value) (w : World) (e : Ending) (w' : World) : Prop := e = .returned v ∧ Below w.heap.size w w'

theorem beq_zero {n : Nat} (h : n = 0) : ((n : Int) == 0) = true := by subst h; rfl
theorem bne_zero {n : Nat} (h : n ≠ 0) : ((n : Int) == 0) = false := by rw [beq_eq_false_iff_ne]; omega
theorem Rn.nz {K : Nat} {w : World} {s : Bool} {ao : Option Addr} {n c : Nat} {z : Int} (h : Rn K w ao n c s z) : n = 0 ↔ z = 0 := by have := h.dg.zero; omega
theorem Zn.nz {K : Nat} {w : World} {s : Bool} {ao : Option Addr} {n c : Nat} {z : Int} (h : Zn K w s ao n c z) : n = 0 ↔ z = 0 := by have := h.ln.zero; omega
theorem Za.neg {K : Nat} {w : World} {s : Bool} {ao : Option Addr} {n c : Nat} {z : Int} (h : Za K w s ao n c z) (hz : z ≠ 0) : s = decide (z < 0) := by
  obtain ⟨_, xs, _, rfl⟩ := h
  rw [zv_neg]
  have : 0 < val xs := by
    rcases Nat.eq_zero_or_pos (val xs) with h0 | h0
    · rw [h0] at hz; exact absurd (by cases s <;> rfl) hz
    · exact h0
  rw [decide_eq_true this, Bool.and_true]

set_option maxHeartbeats 1000000 in
theorem rZero {K : Nat} {w : World} {s : Bool} {ao : Option Addr} {n c : Nat} {z : Int} (h : Rn K w ao n c s z) {b : Bool} (hb : decide (z = 0) = b) :
    Calls Try.prog 16 #[.agg #[.slice ao n c, .bool s]] w (RetV (.bool b) w) := by
  have hnz := h.nz
  by_cases hn : n = 0
  · have e := beq_zero hn
    obtain rfl : b = true := by rw [← hb]; exact decide_eq_true (hnz.1 hn)
    clear hnz hn hb
    go_enter Try.func16, Try.ntmps16
    have hB := Below.refl w.heap.size w
    go_wp2
    obtain ⟨w1, g2, hw3, hg4, hb5, al6, ge7, sz8⟩ := mk_alloc w [(.slice ao n c), (.bool s)] 28 (N := w.heap.size) rfl
    rw [← hw3]
    have G9 := below_ge hB ge7
    replace hB := ext_trans hB al6
    replace h := h.ext al6
    clear hw3 al6 ge7
    rw [← hg4]
    clear hg4 sz8
    go_ret
    exact ⟨rfl, hB⟩
  · have e := bne_zero hn
    obtain rfl : b = false := by rw [← hb]; exact decide_eq_false (fun e => hn (hnz.2 e))
    clear hnz hn hb
    go_enter Try.func16, Try.ntmps16
    have hB := Below.refl w.heap.size w
    go_wp2
    obtain ⟨w1, g2, hw3, hg4, hb5, al6, ge7, sz8⟩ := mk_alloc w [(.slice ao n c), (.bool s)] 28 (N := w.heap.size) rfl
    rw [← hw3]
    have G9 := below_ge hB ge7
    replace hB := ext_trans hB al6
    replace h := h.ext al6
    clear hw3 al6 ge7
    rw [← hg4]
    clear hg4 sz8
    go_ret
    exact ⟨rfl, hB⟩

set_option maxHeartbeats 1000000 in
theorem aZero {K : Nat} {w : World} {s : Bool} {ao : Option Addr} {n c : Nat} {z : Int} (h : Zn K w s ao n c z) {b : Bool} (hb : decide (z = 0) = b) :
    Calls Try.prog 17 #[.agg #[.bool s, .slice ao n c]] w (RetV (.bool b) w) := by
  have hnz := h.nz
  by_cases hn : n = 0
  · have e := beq_zero hn
    obtain rfl : b = true := by rw [← hb]; exact decide_eq_true (hnz.1 hn)
    clear hnz hn hb
    go_enter Try.func17, Try.ntmps17
    have hB := Below.refl w.heap.size w
    go_wp2
    obtain ⟨w1, g2, hw3, hg4, hb5, al6, ge7, sz8⟩ := mk_alloc w [(.bool s), (.slice ao n c)] 24 (N := w.heap.size) rfl
    rw [← hw3]
    have G9 := below_ge hB ge7
    replace hB := ext_trans hB al6
    replace h := h.ext al6
    clear hw3 al6 ge7
    rw [← hg4]
    clear hg4 sz8
    go_ret
    exact ⟨rfl, hB⟩
  · have e := bne_zero hn
    obtain rfl : b = false := by rw [← hb]; exact decide_eq_false (fun e => hn (hnz.2 e))
    clear hnz hn hb
    go_enter Try.func17, Try.ntmps17
    have hB := Below.refl w.heap.size w
    go_wp2
    obtain ⟨w1, g2, hw3, hg4, hb5, al6, ge7, sz8⟩ := mk_alloc w [(.bool s), (.slice ao n c)] 24 (N := w.heap.size) rfl
    rw [← hw3]
    have G9 := below_ge hB ge7
    replace hB := ext_trans hB al6
    replace h := h.ext al6
    clear hw3 al6 ge7
    rw [← hg4]
    clear hg4 sz8
    go_ret
    exact ⟨rfl, hB⟩

set_option maxHeartbeats 1000000 in
theorem rSign {K : Nat} {w : World} {s : Bool} {ao : Option Addr} {n c : Nat} {z : Int} (h : Rn K w ao n c s z) {v : Int} (hv : z.sign = v) :
    Calls Try.prog 66 #[.agg #[.slice ao n c, .bool s]] w (RetV (.int .i64 v) w) := by
  by_cases hz : z = 0
  · have e := beq_zero (h.nz.2 hz)
    obtain rfl : v = 0 := by rw [← hv, hz]; rfl
    clear hv hz
    go_enter Try.func66, Try.ntmps66
    have hB := Below.refl w.heap.size w
    go_wp2
    obtain ⟨w1, g2, hw3, hg4, hb5, al6, ge7, sz8⟩ := mk_alloc w [(.slice ao n c), (.bool s)] 28 (N := w.heap.size) rfl
    rw [← hw3]
    have G9 := below_ge hB ge7
    replace hB := ext_trans hB al6
    replace h := h.ext al6
    clear hw3 al6 ge7
    rw [← hg4]
    clear hg4 sz8
    go_ret
    exact ⟨rfl, hB⟩
  · have e := bne_zero (fun e => hz (h.nz.1 e))
    by_cases hl : z < 0
    · obtain rfl : s = true := by rw [h.sgn]; exact decide_eq_true hl
      obtain rfl : v = -1 := by rw [← hv]; exact Int.sign_eq_neg_one_of_neg hl
      clear hv hz hl
      go_enter Try.func66, Try.ntmps66
      have hB := Below.refl w.heap.size w
      go_wp2
      obtain ⟨w1, g2, hw3, hg4, hb5, al6, ge7, sz8⟩ := mk_alloc w [(.slice ao n c), (.bool true)] 28 (N := w.heap.size) rfl
      rw [← hw3]
      have G9 := below_ge hB ge7
      replace hB := ext_trans hB al6
      replace h := h.ext al6
      clear hw3 al6 ge7
      rw [← hg4]
      clear hg4 sz8
      go_ret
      exact ⟨rfl, hB⟩
    · obtain rfl : s = false := by rw [h.sgn]; exact decide_eq_false hl
      obtain rfl : v = 1 := by rw [← hv]; exact Int.sign_eq_one_of_pos (by omega)
      clear hv hz hl
      go_enter Try.func66, Try.ntmps66
      have hB := Below.refl w.heap.size w
      go_wp2
      obtain ⟨w1, g2, hw3, hg4, hb5, al6, ge7, sz8⟩ := mk_alloc w [(.slice ao n c), (.bool false)] 28 (N := w.heap.size) rfl
      rw [← hw3]
      have G9 := below_ge hB ge7
      replace hB := ext_trans hB al6
      replace h := h.ext al6
      clear hw3 al6 ge7
      rw [← hg4]
      clear hg4 sz8
      go_ret
      exact ⟨rfl, hB⟩

set_option maxHeartbeats 1000000 in
theorem aSign {K : Nat} {w : World} {s : Bool} {ao : Option Addr} {n c : Nat} {z : Int} (h : Zn K w s ao n c z) {v : Int} (hv : z.sign = v) :
    Calls Try.prog 51 #[.agg #[.bool s, .slice ao n c]] w (RetV (.int .i64 v) w) := by
  by_cases hz : z = 0
  · have e := beq_zero (h.nz.2 hz)
    obtain rfl : v = 0 := by rw [← hv, hz]; rfl
    clear hv hz
    go_enter Try.func51, Try.ntmps51
    have hB := Below.refl w.heap.size w
    go_wp2
    obtain ⟨w1, g2, hw3, hg4, hb5, al6, ge7, sz8⟩ := mk_alloc w [(.bool s), (.slice ao n c)] 24 (N := w.heap.size) rfl
    rw [← hw3]
    have G9 := below_ge hB ge7
    replace hB := ext_trans hB al6
    replace h := h.ext al6
    clear hw3 al6 ge7
    rw [← hg4]
    clear hg4 sz8
    go_ret
    exact ⟨rfl, hB⟩
  · have e := bne_zero (fun e => hz (h.nz.1 e))
    by_cases hl : z < 0
    · obtain rfl : s = true := by rw [h.sgn]; exact decide_eq_true hl
      obtain rfl : v = -1 := by rw [← hv]; exact Int.sign_eq_neg_one_of_neg hl
      clear hv hz hl
      go_enter Try.func51, Try.ntmps51
      have hB := Below.refl w.heap.size w
      go_wp2
      obtain ⟨w1, g2, hw3, hg4, hb5, al6, ge7, sz8⟩ := mk_alloc w [(.bool true), (.slice ao n c)] 24 (N := w.heap.size) rfl
      rw [← hw3]
      have G9 := below_ge hB ge7
      replace hB := ext_trans hB al6
      replace h := h.ext al6
      clear hw3 al6 ge7
      rw [← hg4]
      clear hg4 sz8
      go_ret
      exact ⟨rfl, hB⟩
    · obtain rfl : s = false := by rw [h.sgn]; exact decide_eq_false hl
      obtain rfl : v = 1 := by rw [← hv]; exact Int.sign_eq_one_of_pos (by omega)
      clear hv hz hl
      go_enter Try.func51, Try.ntmps51
      have hB := Below.refl w.heap.size w
      go_wp2
      obtain ⟨w1, g2, hw3, hg4, hb5, al6, ge7, sz8⟩ := mk_alloc w [(.bool false), (.slice ao n c)] 24 (N := w.heap.size) rfl
      rw [← hw3]
      have G9 := below_ge hB ge7
      replace hB := ext_trans hB al6
      replace h := h.ext al6
      clear hw3 al6 ge7
      rw [← hg4]
      clear hg4 sz8
      go_ret
      exact ⟨rfl, hB⟩

set_option maxHeartbeats 1000000 in
theorem wsign {K : Nat} {w : World} {s : Bool} {ao : Option Addr} {n c : Nat} {z : Int} (h : Za K w s ao n c z) {v : Int} (hv : z.sign = v) (hK : K ≤ 1073741824 := by omega) :
    Calls Try.prog 71 #[.agg #[.bool s, .slice ao n c]] w (RetV (.int .i64 v) w) := by
  by_cases hz : z = 0
  · have e := nbits_beq (show z.natAbs = 0 by omega)
    obtain rfl : v = 0 := by rw [← hv, hz]; rfl
    clear hv hz
    go_enter Try.func71, Try.ntmps71
    have hB := Below.refl w.heap.size w
    go_wp2_with fail
    obtain ⟨w1, g2, hw3, hg4, hb5, al6, ge7, sz8⟩ := mk_alloc w [(.bool s), (.slice ao n c)] 24 (N := w.heap.size) rfl
    rw [← hw3]
    have G9 := below_ge hB ge7
    replace hB := ext_trans hB al6
    replace h := h.ext al6
    clear hw3 al6 ge7
    rw [← hg4]
    clear hg4 sz8
    refine (lBits (v := (nbits z.natAbs : Nat)) h.la (rfl)).mono ?_
    rintro e _ ⟨rfl, rfl⟩
    go_wp2
    go_ret
    exact ⟨rfl, hB⟩
  · have e := nbits_bne (show z.natAbs ≠ 0 by omega)
    by_cases hl : z < 0
    · obtain rfl : s = true := by rw [h.neg hz]; exact decide_eq_true hl
      obtain rfl : v = -1 := by rw [← hv]; exact Int.sign_eq_neg_one_of_neg hl
      clear hv hz hl
      go_enter Try.func71, Try.ntmps71
      have hB := Below.refl w.heap.size w
      go_wp2_with fail
      obtain ⟨w1, g2, hw3, hg4, hb5, al6, ge7, sz8⟩ := mk_alloc w [(.bool true), (.slice ao n c)] 24 (N := w.heap.size) rfl
      rw [← hw3]
      have G9 := below_ge hB ge7
      replace hB := ext_trans hB al6
      replace h := h.ext al6
      clear hw3 al6 ge7
      rw [← hg4]
      clear hg4 sz8
      refine (lBits (v := (nbits z.natAbs : Nat)) h.la (rfl)).mono ?_
      rintro e _ ⟨rfl, rfl⟩
      obtain ⟨a12, a13, f14, f15⟩ := cells2 hb5
      have l16 := hb5.lt
      go_wp2
      clear a12 a13 f14 f15 l16
      go_ret
      exact ⟨rfl, hB⟩
    · obtain rfl : s = false := by rw [h.neg hz]; exact decide_eq_false hl
      obtain rfl : v = 1 := by rw [← hv]; exact Int.sign_eq_one_of_pos (by omega)
      clear hv hz hl
      go_enter Try.func71, Try.ntmps71
      have hB := Below.refl w.heap.size w
      go_wp2_with fail
      obtain ⟨w1, g2, hw3, hg4, hb5, al6, ge7, sz8⟩ := mk_alloc w [(.bool false), (.slice ao n c)] 24 (N := w.heap.size) rfl
      rw [← hw3]
      have G9 := below_ge hB ge7
      replace hB := ext_trans hB al6
      replace h := h.ext al6
      clear hw3 al6 ge7
      rw [← hg4]
      clear hg4 sz8
      refine (lBits (v := (nbits z.natAbs : Nat)) h.la (rfl)).mono ?_
      rintro e _ ⟨rfl, rfl⟩
      obtain ⟨a12, a13, f14, f15⟩ := cells2 hb5
      have l16 := hb5.lt
      go_wp2
      clear a12 a13 f14 f15 l16
      go_ret
      exact ⟨rfl, hB⟩

theorem sign_sub (x y : Int) : (x - y).sign = cmpZ x y := by
  unfold cmpZ
  by_cases h1 : x < y
  · rw [if_pos h1]; exact Int.sign_eq_neg_one_of_neg (by omega)
  · by_cases h2 : x = y
    · subst h2; rw [if_neg h1, if_pos rfl, Int.sub_self]; rfl
    · rw [if_neg h1, if_neg h2]; exact Int.sign_eq_one_of_pos (by omega)

set_option maxHeartbeats 2000000 in
theorem rCmp {K L : Nat} {w : World} {s t : Bool} {ao bo : Option Addr} {n c m d : Nat} {x y : Int} (h : Rn K w ao n c s x) (k : Rn L w bo m d t y) {v : Int} (hv : cmpZ x y = v) (hK : K ≤ 1073741000 := by omega) (hL : L ≤ 1073741000 := by omega) :
    Calls Try.prog 30 #[.agg #[.slice ao n c, .bool s], .agg #[.slice bo m d, .bool t]] w (RetV (.int .i64 v) w) := by
  have HV := hid hv; clear hv
  go_enter Try.func30, Try.ntmps30
  have hB := Below.refl w.heap.size w
  go_wp2_with fail
  obtain ⟨w1, g2, hw3, hg4, hb5, al6, ge7, sz8⟩ := mk_alloc w [(.slice ao n c), (.bool s)] 28 (N := w.heap.size) rfl
  rw [← hw3]
  have G9 := below_ge hB ge7
  replace hB := ext_trans hB al6
  replace h := h.ext al6
  replace k := k.ext al6
  clear hw3 al6 ge7
  obtain ⟨w10, g11, hw12, hg13, hb14, al15, ge16, sz17⟩ := mk_alloc w1 [(.slice bo m d), (.bool t)] 28 (N := w.heap.size + 1) sz8
  rw [← hw12]
  have Ng2_g11 := hb5.ne ge16
  have G18 := below_ge hB ge16
  replace hB := ext_trans hB al15
  replace h := h.ext al15
  replace k := k.ext al15
  replace hb5 := hb5.ext al15
  clear hw12 al15 ge16
  rw [← hg13]
  rw [← hg4]
  clear hg4 hg13 sz8 sz17
  refine (rSub h k).mono ?_
  rintro e w20 ⟨o19, n19, c19, r19, rfl, h19, hb21⟩
  replace h := h.ext hb21
  replace k := k.ext hb21
  replace hb5 := hb5.ext hb21
  replace hb14 := hb14.ext hb21
  replace hB := ext_trans hB hb21
  clear hb21
  go_wp2_with fail
  refine (rSign (v := v) h19 (by rw [sign_sub]; exact HV.out)).mono ?_
  rintro e w22 ⟨rfl, hb23⟩
  replace h := h.ext hb23
  replace k := k.ext hb23
  replace h19 := h19.ext hb23
  replace hb5 := hb5.ext hb23
  replace hb14 := hb14.ext hb23
  replace hB := ext_trans hB hb23
  clear hb23
  go_wp2
  go_ret
  exact ⟨rfl, hB⟩

theorem sign_ite (x : Int) : x.sign = if x < 0 then -1 else if x = 0 then 0 else 1 := by
  by_cases h : x < 0
  · rw [if_pos h]; exact Int.sign_eq_neg_one_of_neg h
  · by_cases h2 : x = 0
    · subst h2; rfl
    · rw [if_neg h, if_neg h2]; exact Int.sign_eq_one_of_pos (by omega)

theorem cmp_signs {x y : Int} (h : x.sign ≠ y.sign) : cmpZ x y = if x.sign < y.sign then -1 else 1 := by
  have hx := sign_ite x
  have hy := sign_ite y
  rw [hx, hy] at h
  rw [hx, hy]
  unfold cmpZ
  clear hx hy
  revert h
  repeat' split
  all_goals omega
theorem neg_of_sign {x p : Int} (h : x.sign = p) (hp : p < 0) : x < 0 := by
  rw [sign_ite] at h
  revert h
  repeat' split
  all_goals omega
theorem pos_of_sign {x p : Int} (h : x.sign = p) (hp : ¬ p < 0) : 0 ≤ x := by
  rw [sign_ite] at h
  revert h
  repeat' split
  all_goals omega
theorem cmp_neg_abs {x y : Int} (hx : x < 0) (hy : y < 0) : cmpZ (y.natAbs : Int) (x.natAbs : Int) = cmpZ x y := by
  unfold cmpZ
  by_cases h1 : x < y
  · rw [if_pos h1, if_pos (by omega)]
  · by_cases h2 : x = y
    · subst h2; rw [if_neg h1, if_neg (by omega), if_pos rfl, if_pos rfl]
    · rw [if_neg h1, if_neg h2, if_neg (by omega), if_neg (by omega)]
theorem cmp_pos_abs {x y : Int} (hx : 0 ≤ x) (hy : 0 ≤ y) : cmpZ (x.natAbs : Int) (y.natAbs : Int) = cmpZ x y := by
  rw [Int.natAbs_of_nonneg hx, Int.natAbs_of_nonneg hy]

set_option maxHeartbeats 4000000 in
theorem wCmp {K L : Nat} {w : World} {s t : Bool} {ao bo : Option Addr} {n c m d : Nat} {x y : Int} (h : Za K w s ao n c x) (k : Za L w t bo m d y) {v : Int} (hv : cmpZ x y = v) (hK : K ≤ 1073741000 := by omega) (hL : L ≤ 1073741000 := by omega) :
    Calls Try.prog 44 #[.agg #[.bool s, .slice ao n c], .agg #[.bool t, .slice bo m d]] w (RetV (.int .i64 v) w) := by
  obtain ⟨p, hp⟩ : ∃ p, x.sign = p := ⟨_, rfl⟩
  obtain ⟨q, hq⟩ : ∃ q, y.sign = q := ⟨_, rfl⟩
  have HV := hid hv; have HP := hid hp; have HQ := hid hq; clear hv hp hq
  by_cases h1 : p < q
  · have e1 := decide_eq_true h1
    obtain rfl : v = -1 := by rw [← HV.out, cmp_signs (by rw [HP.out, HQ.out]; omega), HP.out, HQ.out, if_pos h1]
    clear h1
    go_enter Try.func44, Try.ntmps44
    have hB := Below.refl w.heap.size w
    go_wp2_with fail
    obtain ⟨w1, g2, hw3, hg4, hb5, al6, ge7, sz8⟩ := mk_alloc w [(.bool s), (.slice ao n c)] 24 (N := w.heap.size) rfl
    rw [← hw3]
    have G9 := below_ge hB ge7
    replace hB := ext_trans hB al6
    replace h := h.ext al6
    replace k := k.ext al6
    clear hw3 al6 ge7
    obtain ⟨w10, g11, hw12, hg13, hb14, al15, ge16, sz17⟩ := mk_alloc w1 [(.bool t), (.slice bo m d)] 24 (N := w.heap.size + 1) sz8
    rw [← hw12]
    have Ng2_g11 := hb5.ne ge16
    have G18 := below_ge hB ge16
    replace hB := ext_trans hB al15
    replace h := h.ext al15
    replace k := k.ext al15
    replace hb5 := hb5.ext al15
    clear hw12 al15 ge16
    rw [← hg13]
    rw [← hg4]
    clear hg4 hg13 sz8 sz17
    replace h := h.drew
    replace k := k.drew
    replace hB := hB.drew
    replace hb5 := hb5.drew
    replace hb14 := hb14.drew
    have hS19 : Hid (∀ w', Below w10.drew.heap.size w10.drew w' → w'.cell? ⟨g2, 0, none⟩ = some (.bool s) ∧ w'.cell? ⟨g2, 1, none⟩ = some (.slice ao n c) ∧ w'.cell? ⟨g11, 0, none⟩ = some (.bool t) ∧ w'.cell? ⟨g11, 1, none⟩ = some (.slice bo m d)) := hid (fun w' hb => ⟨(hb5.ext hb).cell 0 (by simp), (hb5.ext hb).cell 1 (by simp), (hb14.ext hb).cell 0 (by simp), (hb14.ext hb).cell 1 (by simp)⟩)
    have Q20 := Below.refl w10.drew.heap.size w10.drew
    go_region_held3 (fun w' => w'.cell? ⟨g2, 0, none⟩ = some (.bool s) ∧ w'.cell? ⟨g2, 1, none⟩ = some (.slice ao n c) ∧ w'.cell? ⟨g11, 0, none⟩ = some (.bool t) ∧ w'.cell? ⟨g11, 1, none⟩ = some (.slice bo m d))
      (first | exact hS19.out _ Q26 | exact hS19.out _ Q23 | exact hS19.out _ Q20)
      (first
        | (go_at_call 71; (with_reducible refine (wsign (v := p) h (HP.out)).mono ?_); rintro e w21 ⟨rfl, hb22⟩; have Q23 := ext_trans Q20 hb22; replace h := h.ext hb22; replace k := k.ext hb22; clear hb22)
        | (go_at_call 71; (with_reducible refine (wsign (v := q) k (HQ.out)).mono ?_); rintro e w24 ⟨rfl, hb25⟩; have Q26 := ext_trans Q23 hb25; replace h := h.ext hb25; replace k := k.ext hb25; clear hb25))
    replace hb5 := hb5.ext Q26
    replace hb14 := hb14.ext Q26
    replace hB := ext_trans hB Q26
    clear hS19 Q20 Q23 Q26
    go_wp2
    go_ret
    exact ⟨rfl, hB⟩
  · have e1 := decide_eq_false h1
    by_cases h2 : q < p
    · have e2 := decide_eq_true h2
      obtain rfl : v = 1 := by rw [← HV.out, cmp_signs (by rw [HP.out, HQ.out]; omega), HP.out, HQ.out, if_neg h1]
      clear h1 h2
      go_enter Try.func44, Try.ntmps44
      have hB := Below.refl w.heap.size w
      go_wp2_with fail
      obtain ⟨w1, g2, hw3, hg4, hb5, al6, ge7, sz8⟩ := mk_alloc w [(.bool s), (.slice ao n c)] 24 (N := w.heap.size) rfl
      rw [← hw3]
      have G9 := below_ge hB ge7
      replace hB := ext_trans hB al6
      replace h := h.ext al6
      replace k := k.ext al6
      clear hw3 al6 ge7
      obtain ⟨w10, g11, hw12, hg13, hb14, al15, ge16, sz17⟩ := mk_alloc w1 [(.bool t), (.slice bo m d)] 24 (N := w.heap.size + 1) sz8
      rw [← hw12]
      have Ng2_g11 := hb5.ne ge16
      have G18 := below_ge hB ge16
      replace hB := ext_trans hB al15
      replace h := h.ext al15
      replace k := k.ext al15
      replace hb5 := hb5.ext al15
      clear hw12 al15 ge16
      rw [← hg13]
      rw [← hg4]
      clear hg4 hg13 sz8 sz17
      replace h := h.drew
      replace k := k.drew
      replace hB := hB.drew
      replace hb5 := hb5.drew
      replace hb14 := hb14.drew
      have hS19 : Hid (∀ w', Below w10.drew.heap.size w10.drew w' → w'.cell? ⟨g2, 0, none⟩ = some (.bool s) ∧ w'.cell? ⟨g2, 1, none⟩ = some (.slice ao n c) ∧ w'.cell? ⟨g11, 0, none⟩ = some (.bool t) ∧ w'.cell? ⟨g11, 1, none⟩ = some (.slice bo m d)) := hid (fun w' hb => ⟨(hb5.ext hb).cell 0 (by simp), (hb5.ext hb).cell 1 (by simp), (hb14.ext hb).cell 0 (by simp), (hb14.ext hb).cell 1 (by simp)⟩)
      have Q20 := Below.refl w10.drew.heap.size w10.drew
      go_region_held3 (fun w' => w'.cell? ⟨g2, 0, none⟩ = some (.bool s) ∧ w'.cell? ⟨g2, 1, none⟩ = some (.slice ao n c) ∧ w'.cell? ⟨g11, 0, none⟩ = some (.bool t) ∧ w'.cell? ⟨g11, 1, none⟩ = some (.slice bo m d))
        (first | exact hS19.out _ Q26 | exact hS19.out _ Q23 | exact hS19.out _ Q20)
        (first
          | (go_at_call 71; (with_reducible refine (wsign (v := p) h (HP.out)).mono ?_); rintro e w21 ⟨rfl, hb22⟩; have Q23 := ext_trans Q20 hb22; replace h := h.ext hb22; replace k := k.ext hb22; clear hb22)
          | (go_at_call 71; (with_reducible refine (wsign (v := q) k (HQ.out)).mono ?_); rintro e w24 ⟨rfl, hb25⟩; have Q26 := ext_trans Q23 hb25; replace h := h.ext hb25; replace k := k.ext hb25; clear hb25))
      replace hb5 := hb5.ext Q26
      replace hb14 := hb14.ext Q26
      replace hB := ext_trans hB Q26
      clear hS19 Q20 Q23 Q26
      go_wp2
      go_ret
      exact ⟨rfl, hB⟩
    · have e2 := decide_eq_false h2
      have HE : Hid (p = q) := hid (by omega)
      by_cases h3 : p < 0
      · have e3 := decide_eq_true h3
        have HV2 : Hid (cmpZ (y.natAbs : Int) (x.natAbs : Int) = v) := hid (by rw [cmp_neg_abs (neg_of_sign HP.out h3) (neg_of_sign HQ.out (by have := HE.out; omega)), HV.out])
        clear h1 h2 h3
        go_enter Try.func44, Try.ntmps44
        have hB := Below.refl w.heap.size w
        go_wp2_with fail
        obtain ⟨w1, g2, hw3, hg4, hb5, al6, ge7, sz8⟩ := mk_alloc w [(.bool s), (.slice ao n c)] 24 (N := w.heap.size) rfl
        rw [← hw3]
        have G9 := below_ge hB ge7
        replace hB := ext_trans hB al6
        replace h := h.ext al6
        replace k := k.ext al6
        clear hw3 al6 ge7
        obtain ⟨w10, g11, hw12, hg13, hb14, al15, ge16, sz17⟩ := mk_alloc w1 [(.bool t), (.slice bo m d)] 24 (N := w.heap.size + 1) sz8
        rw [← hw12]
        have Ng2_g11 := hb5.ne ge16
        have G18 := below_ge hB ge16
        replace hB := ext_trans hB al15
        replace h := h.ext al15
        replace k := k.ext al15
        replace hb5 := hb5.ext al15
        clear hw12 al15 ge16
        rw [← hg13]
        rw [← hg4]
        clear hg4 hg13 sz8 sz17
        replace h := h.drew
        replace k := k.drew
        replace hB := hB.drew
        replace hb5 := hb5.drew
        replace hb14 := hb14.drew
        have hS19 : Hid (∀ w', Below w10.drew.heap.size w10.drew w' → w'.cell? ⟨g2, 0, none⟩ = some (.bool s) ∧ w'.cell? ⟨g2, 1, none⟩ = some (.slice ao n c) ∧ w'.cell? ⟨g11, 0, none⟩ = some (.bool t) ∧ w'.cell? ⟨g11, 1, none⟩ = some (.slice bo m d)) := hid (fun w' hb => ⟨(hb5.ext hb).cell 0 (by simp), (hb5.ext hb).cell 1 (by simp), (hb14.ext hb).cell 0 (by simp), (hb14.ext hb).cell 1 (by simp)⟩)
        have Q20 := Below.refl w10.drew.heap.size w10.drew
        go_region_held3 (fun w' => w'.cell? ⟨g2, 0, none⟩ = some (.bool s) ∧ w'.cell? ⟨g2, 1, none⟩ = some (.slice ao n c) ∧ w'.cell? ⟨g11, 0, none⟩ = some (.bool t) ∧ w'.cell? ⟨g11, 1, none⟩ = some (.slice bo m d))
          (first | exact hS19.out _ Q26 | exact hS19.out _ Q23 | exact hS19.out _ Q20)
          (first
            | (go_at_call 71; (with_reducible refine (wsign (v := p) h (HP.out)).mono ?_); rintro e w21 ⟨rfl, hb22⟩; have Q23 := ext_trans Q20 hb22; replace h := h.ext hb22; replace k := k.ext hb22; clear hb22)
            | (go_at_call 71; (with_reducible refine (wsign (v := q) k (HQ.out)).mono ?_); rintro e w24 ⟨rfl, hb25⟩; have Q26 := ext_trans Q23 hb25; replace h := h.ext hb25; replace k := k.ext hb25; clear hb25))
        replace hb5 := hb5.ext Q26
        replace hb14 := hb14.ext Q26
        replace hB := ext_trans hB Q26
        clear hS19 Q20 Q23 Q26
        obtain ⟨a27, a28, f29, f30⟩ := cells2 hb14
        have l31 := hb14.lt
        obtain ⟨a32, a33, f34, f35⟩ := cells2 hb5
        have l36 := hb5.lt
        go_wp2_with fail
        clear a27 a28 f29 f30 l31 a32 a33 f34 f35 l36
        refine (lCmp (v := v) k.la h.la (HV2.out)).mono ?_
        rintro e w37 ⟨rfl, hb38⟩
        replace h := h.ext hb38
        replace k := k.ext hb38
        replace hb5 := hb5.ext hb38
        replace hb14 := hb14.ext hb38
        replace hB := ext_trans hB hb38
        clear hb38
        go_wp2
        go_ret
        exact ⟨rfl, hB⟩
      · have e3 := decide_eq_false h3
        have HV2 : Hid (cmpZ (x.natAbs : Int) (y.natAbs : Int) = v) := hid (by rw [cmp_pos_abs (pos_of_sign HP.out h3) (pos_of_sign HQ.out (by have := HE.out; omega)), HV.out])
        clear h1 h2 h3
        go_enter Try.func44, Try.ntmps44
        have hB := Below.refl w.heap.size w
        go_wp2_with fail
        obtain ⟨w1, g2, hw3, hg4, hb5, al6, ge7, sz8⟩ := mk_alloc w [(.bool s), (.slice ao n c)] 24 (N := w.heap.size) rfl
        rw [← hw3]
        have G9 := below_ge hB ge7
        replace hB := ext_trans hB al6
        replace h := h.ext al6
        replace k := k.ext al6
        clear hw3 al6 ge7
        obtain ⟨w10, g11, hw12, hg13, hb14, al15, ge16, sz17⟩ := mk_alloc w1 [(.bool t), (.slice bo m d)] 24 (N := w.heap.size + 1) sz8
        rw [← hw12]
        have Ng2_g11 := hb5.ne ge16
        have G18 := below_ge hB ge16
        replace hB := ext_trans hB al15
        replace h := h.ext al15
        replace k := k.ext al15
        replace hb5 := hb5.ext al15
        clear hw12 al15 ge16
        rw [← hg13]
        rw [← hg4]
        clear hg4 hg13 sz8 sz17
        replace h := h.drew
        replace k := k.drew
        replace hB := hB.drew
        replace hb5 := hb5.drew
        replace hb14 := hb14.drew
        have hS19 : Hid (∀ w', Below w10.drew.heap.size w10.drew w' → w'.cell? ⟨g2, 0, none⟩ = some (.bool s) ∧ w'.cell? ⟨g2, 1, none⟩ = some (.slice ao n c) ∧ w'.cell? ⟨g11, 0, none⟩ = some (.bool t) ∧ w'.cell? ⟨g11, 1, none⟩ = some (.slice bo m d)) := hid (fun w' hb => ⟨(hb5.ext hb).cell 0 (by simp), (hb5.ext hb).cell 1 (by simp), (hb14.ext hb).cell 0 (by simp), (hb14.ext hb).cell 1 (by simp)⟩)
        have Q20 := Below.refl w10.drew.heap.size w10.drew
        go_region_held3 (fun w' => w'.cell? ⟨g2, 0, none⟩ = some (.bool s) ∧ w'.cell? ⟨g2, 1, none⟩ = some (.slice ao n c) ∧ w'.cell? ⟨g11, 0, none⟩ = some (.bool t) ∧ w'.cell? ⟨g11, 1, none⟩ = some (.slice bo m d))
          (first | exact hS19.out _ Q26 | exact hS19.out _ Q23 | exact hS19.out _ Q20)
          (first
            | (go_at_call 71; (with_reducible refine (wsign (v := p) h (HP.out)).mono ?_); rintro e w21 ⟨rfl, hb22⟩; have Q23 := ext_trans Q20 hb22; replace h := h.ext hb22; replace k := k.ext hb22; clear hb22)
            | (go_at_call 71; (with_reducible refine (wsign (v := q) k (HQ.out)).mono ?_); rintro e w24 ⟨rfl, hb25⟩; have Q26 := ext_trans Q23 hb25; replace h := h.ext hb25; replace k := k.ext hb25; clear hb25))
        replace hb5 := hb5.ext Q26
        replace hb14 := hb14.ext Q26
        replace hB := ext_trans hB Q26
        clear hS19 Q20 Q23 Q26
        obtain ⟨a27, a28, f29, f30⟩ := cells2 hb5
        have l31 := hb5.lt
        obtain ⟨a32, a33, f34, f35⟩ := cells2 hb14
        have l36 := hb14.lt
        go_wp2_with fail
        clear a27 a28 f29 f30 l31 a32 a33 f34 f35 l36
        refine (lCmp (v := v) h.la k.la (HV2.out)).mono ?_
        rintro e w37 ⟨rfl, hb38⟩
        replace h := h.ext hb38
        replace k := k.ext hb38
        replace hb5 := hb5.ext hb38
        replace hb14 := hb14.ext hb38
        replace hB := ext_trans hB hb38
        clear hb38
        go_wp2
        go_ret
        exact ⟨rfl, hB⟩

theorem Za.flip {K : Nat} {w : World} {s : Bool} {ao : Option Addr} {n c : Nat} {z : Int} (h : Za K w s ao n c z) : Za K w (!s) ao n c (-z) :=
  ⟨h.1, let ⟨xs, h2, h3⟩ := h.2; ⟨xs, h2, by rw [h3, zv_not]⟩⟩

set_option maxHeartbeats 4000000 in
theorem wSub {K L : Nat} {w : World} {s t : Bool} {ao bo : Option Addr} {n c m d : Nat} {x y : Int} (h : Za K w s ao n c x) (k : Za L w t bo m d y) (hK : K ≤ 1073741000 := by omega) (hL : L ≤ 1073741000 := by omega) :
    Calls Try.prog 41 #[.agg #[.bool s, .slice ao n c], .agg #[.bool t, .slice bo m d]] w (RetN (max K L + 1) w (x - y)) := by
  replace k := k.flip
  go_enter Try.func41, Try.ntmps41
  have hB := Below.refl w.heap.size w
  go_wp2_with fail
  obtain ⟨w1, g2, hw3, hg4, hb5, al6, ge7, sz8⟩ := mk_alloc w [(.bool s), (.slice ao n c)] 24 (N := w.heap.size) rfl
  rw [← hw3]
  have G9 := below_ge hB ge7
  replace hB := ext_trans hB al6
  replace h := h.ext al6
  replace k := k.ext al6
  clear hw3 al6 ge7
  obtain ⟨w10, g11, hw12, hg13, hb14, al15, ge16, sz17⟩ := mk_alloc w1 [(.bool (!t)), (.slice bo m d)] 24 (N := w.heap.size + 1) sz8
  rw [← hw12]
  have Ng2_g11 := hb5.ne ge16
  have G18 := below_ge hB ge16
  replace hB := ext_trans hB al15
  replace h := h.ext al15
  replace k := k.ext al15
  replace hb5 := hb5.ext al15
  clear hw12 al15 ge16
  obtain ⟨w19, g20, hw21, hg22, hb23, al24, ge25, sz26⟩ := mk_alloc w10 [(.bool false), (.slice none 0 0)] 24 (N := w.heap.size + 1 + 1) sz17
  rw [← hw21]
  have Ng2_g20 := hb5.ne ge25
  have Ng11_g20 := hb14.ne ge25
  have G27 := below_ge hB ge25
  replace hB := ext_trans hB al24
  replace h := h.ext al24
  replace k := k.ext al24
  replace hb5 := hb5.ext al24
  replace hb14 := hb14.ext al24
  clear hw21 al24 ge25
  try rw [show w.heap.size + 2 = g20 from hg22.symm]
  try rw [← hg22]
  rw [← hg13]
  rw [← hg4]
  clear hg4 hg13 hg22 sz8 sz17 sz26
  refine (wAdd h k).mono ?_
  rintro e w29 ⟨r28, o28, n28, c28, rfl, h28, _, hb30⟩
  replace h := h.ext hb30
  replace k := k.ext hb30
  replace hb5 := hb5.ext hb30
  replace hb14 := hb14.ext hb30
  replace hb23 := hb23.ext hb30
  replace hB := ext_trans hB hb30
  clear hb30
  obtain ⟨a31, a32, f33, f34⟩ := cells2 hb23
  have l35 := hb23.lt
  go_wp2_with fail
  clear a31 a32 f33 f34 l35
  obtain ⟨w36, hw37, hu38, hb39, sz40⟩ := mk_set2 hb23 (.bool r28) (.slice o28 n28 c28) (N := w29.heap.size) rfl
  rw [← hw37]
  replace h := h.upd hb23 (noInt_zz _ _ _ _) hu38
  replace k := k.upd hb23 (noInt_zz _ _ _ _) hu38
  replace h28 := h28.upd hb23 (noInt_zz _ _ _ _) hu38
  replace hB := below_upd hB G27.out hb23.lt hu38
  replace hb5 := hb5.upd Ng2_g20.out hu38
  replace hb14 := hb14.upd Ng11_g20.out hu38
  clear hw37 hu38 hb23
  clear sz40
  obtain ⟨a41, a42, f43, f44⟩ := cells2 hb39
  have l45 := hb39.lt
  go_wp2
  refine bodyPost_ret (by simp [results, Try.results41, go_sem, a41, a42]; try rfl) rfl ?_
  rw [← Int.sub_eq_add_neg] at h28
  exact ⟨_, _, _, _, rfl, h28, hB⟩

end Go.Proofs.Ytkcagkcphobmfaa
