/-
  WALKS: whole.Pow.
-/
import Derived.Test.YtkcagkcphobmfaaZn
set_option linter.unusedVariables false
set_option linter.unusedSimpArgs false
namespace Go.Proofs.Ytkcagkcphobmfaa
open Go.RowKit

theorem mulK_le {k e K : Nat} (h : k ≤ e) (he : e ≤ 256) (hK : K ≤ 1000000) : k * K ≤ 256000000 := by
  have h1 : k * K ≤ 256 * K := Nat.mul_le_mul_right K (by omega)
  omega

set_option maxHeartbeats 4000000 in
/-- Pow: to the e, where e is n between 0 and 256. -/
theorem wPow {K : Nat} {w : World} {s : Bool} {ao : Option Addr} {n c : Nat} {x : Int} (h : Za K w s ao n c x) (v : Int) (e : Nat) (he : max 0 (min v 256) = (e : Int)) (hv1 : -9223372036854775808 ≤ v) (hv2 : v ≤ 9223372036854775807) (hK : K ≤ 1000000 := by omega) :
    Calls Try.prog 32 #[.agg #[.bool s, .slice ao n c], .int .i64 v] w (RetN (2 + 256 * K) w (x ^ e)) := by
  have hee : e ≤ 256 := by omega
  have HE := hid he; clear he
  go_enter Try.func32, Try.ntmps32
  have hB := Below.refl w.heap.size w
  go_wp2_with fail
  obtain ⟨w1, g2, hw3, hg4, hb5, al6, ge7, sz8⟩ := mk_alloc w [(.bool s), (.slice ao n c)] 24 (N := w.heap.size) rfl
  rw [← hw3]
  have G9 := below_ge hB ge7
  replace hB := ext_trans hB al6
  replace h := h.ext al6
  clear hw3 al6 ge7
  obtain ⟨w10, g11, hw12, hg13, hb14, al15, ge16, sz17⟩ := mk_alloc w1 [(.bool false), (.slice none 0 0)] 24 (N := w.heap.size + 1) sz8
  rw [← hw12]
  have Ng2_g11 := hb5.ne ge16
  have G18 := below_ge hB ge16
  replace hB := ext_trans hB al15
  replace h := h.ext al15
  replace hb5 := hb5.ext al15
  clear hw12 al15 ge16
  rw [← hg13]
  rw [← hg4]
  clear hg4 hg13 sz8 sz17
  refine (wOf 1 _ (by omega) (by omega)).mono ?_
  rintro e w20 ⟨r19, o19, n19, c19, rfl, h19, hb21⟩
  replace h := h.ext hb21
  replace hb5 := hb5.ext hb21
  replace hb14 := hb14.ext hb21
  replace hB := ext_trans hB hb21
  clear hb21
  go_upto_region 2 with (fail)
  obtain ⟨w22, g23, hw24, hg25, hb26, al27, ge28, sz29⟩ := mk_alloc w20 [(.bool r19), (.slice o19 n19 c19)] 24 (N := w20.heap.size) rfl
  rw [← hw24]
  have Ng2_g23 := hb5.ne ge28
  have Ng11_g23 := hb14.ne ge28
  have G30 := below_ge hB ge28
  replace hB := ext_trans hB al27
  replace h := h.ext al27
  replace h19 := h19.ext al27
  replace hb5 := hb5.ext al27
  replace hb14 := hb14.ext al27
  clear hw24 al27 ge28
  rw [← hg25]
  clear hg25 sz29
  go_cut [9, 10] (fun s9 s10 wx => s9 = .int .i64 (e : Int) ∧ s10 = .int .i64 0 ∧ wx = w22)
  case first =>
    have he := HE.out
    go_wp2_with fail
    all_goals go_meet
    all_goals exact ⟨by congr 1; omega, rfl, rfl⟩
  case rest =>
    obtain ⟨rfl, rfl, rfl⟩ := hcut
    go_wp2_with fail
    have h1 : Zn (2 + 0 * K) wc r19 o19 n19 c19 (x ^ 0) := by rw [Int.pow_zero, Nat.zero_mul, Nat.add_zero]; exact h19
    clear h19
    go_loopw [10] (fun s10 wr => ∃ (k : Nat) (r : Bool) (o : Option Addr) (m d : Nat), s10 = .int .i64 (k : Int) ∧ k ≤ e ∧ Blk wr g2 24 [.bool s, .slice ao n c] ∧ Blk wr g11 24 [.bool false, .slice none 0 0] ∧ Blk wr g23 24 [.bool r, .slice o m d] ∧
      Za K wr s ao n c x ∧ Zn (2 + k * K) wr r o m d (x ^ k) ∧ Below w.heap.size w wr) (fun s10 _ => e - (intOf s10).toNat)
    case atStart => exact ⟨0, _, _, _, _, rfl, by omega, hb5, hb14, hb26, h, h1, hB⟩
    case round =>
      clear h h1 hB hb5 hb14 hb26
      obtain ⟨k, r, o, m, d, rfl, hk, hb5, hb14, hb26, h, h1, hB⟩ := hrel
      by_cases hke : k < e
      · skip
        have hkd : decide ((k : Int) < (e : Int)) = true := by rw [decide_eq_true_eq]; omega
        have hkn : decide (k < e) = true := decide_eq_true hke
        have hKk := mulK_le hk hee hK
        obtain ⟨a31, a32, f33, f34⟩ := cells2 hb26
        have l35 := hb26.lt
        obtain ⟨a36, a37, f38, f39⟩ := cells2 hb5
        have l40 := hb5.lt
        go_wp2_with fail
        clear a31 a32 f33 f34 l35 a36 a37 f38 f39 l40
        refine (wMul h1.any h).mono ?_
        rintro e w42 ⟨r41, o41, n41, c41, rfl, h41, _, hb43⟩
        replace h := h.ext hb43
        replace h1 := h1.ext hb43
        replace hb5 := hb5.ext hb43
        replace hb14 := hb14.ext hb43
        replace hb26 := hb26.ext hb43
        replace hB := ext_trans hB hb43
        clear hb43
        obtain ⟨a44, a45, f46, f47⟩ := cells2 hb26
        have l48 := hb26.lt
        go_wp2_with fail
        clear a44 a45 f46 f47 l48
        obtain ⟨w49, hw50, hu51, hb52, sz53⟩ := mk_set2 hb26 (.bool r41) (.slice o41 n41 c41) (N := w42.heap.size) rfl
        rw [← hw50]
        replace h := h.upd hb26 (noInt_zz _ _ _ _) hu51
        replace h1 := h1.upd hb26 (noInt_zz _ _ _ _) hu51
        replace h41 := h41.upd hb26 (noInt_zz _ _ _ _) hu51
        replace hB := below_upd hB G30.out hb26.lt hu51
        replace hb5 := hb5.upd Ng2_g23.out hu51
        replace hb14 := hb14.upd Ng11_g23.out hu51
        clear hw50 hu51 hb26
        clear sz53
        go_roundw
        case rel => exact ⟨k + 1, _, _, _, _, by go_num, by omega, hb5, hb14, hb52, h, (by rw [Int.pow_succ]; exact h41.mono (by rw [Nat.add_mul]; omega)), hB⟩
        case measure => simp [intOf]; omega
      · skip
        obtain rfl : k = e := by omega
        have hkd : decide ((k : Int) < (k : Int)) = false := by simp
        have hkn : decide (k < k) = false := by simp
        obtain ⟨a31, a32, f33, f34⟩ := cells2 hb26
        have l35 := hb26.lt
        obtain ⟨a36, a37, f38, f39⟩ := cells2 hb14
        have l40 := hb14.lt
        have Mg23_g11 := hid_ne Ng11_g23
        have e41 := Mg23_g11.out
        go_wp2_with fail
        clear a31 a32 f33 f34 l35 a36 a37 f38 f39 l40 e41
        obtain ⟨w42, hw43, hu44, hb45, sz46⟩ := mk_set2 hb14 (.bool r) (.slice o m d) (N := wr.heap.size) rfl
        rw [← hw43]
        replace h := h.upd hb14 (noInt_zz _ _ _ _) hu44
        replace h1 := h1.upd hb14 (noInt_zz _ _ _ _) hu44
        replace hB := below_upd hB G18.out hb14.lt hu44
        replace hb5 := hb5.upd Ng2_g11.out hu44
        replace hb26 := hb26.upd Mg23_g11.out hu44
        clear hw43 hu44 hb14
        clear sz46
        obtain ⟨a47, a48, f49, f50⟩ := cells2 hb45
        have l51 := hb45.lt
        go_wp2
        refine bodyPost_ret (by simp [results, Try.results32, go_sem, a47, a48]; try rfl) rfl ?_
        exact ⟨_, _, _, _, rfl, h1.mono (by have := mulK_le (Nat.le_refl k) hee hK; have := Nat.mul_le_mul_right K hee; omega), hB⟩

end Go.Proofs.Ytkcagkcphobmfaa
