/-
  WALKS: small numbers: orreryref01.Of, whole.Of.
-/
import Derived.Test.YtkcagkcphobmfaaZf
set_option linter.unusedVariables false
set_option linter.unusedSimpArgs false
namespace Go.Proofs.Ytkcagkcphobmfaa
open Go.RowKit

theorem digs_small {N : Nat} (h : N ≤ 9223372036854775808) : (digs4 N).length ≤ 5 := digs4_le (Nat.lt_of_le_of_lt h (by decide))
theorem zv_small (z : Int) (s : Bool) (h : s = decide (z < 0)) : zv s z.natAbs = z := by rw [h]; exact zv_natAbs z
theorem digs_step {os : List Nat} {R N : Nat} (hR : 0 < R) (h : os ++ digs4 R = digs4 N) : (os ++ [R % B4]) ++ digs4 (R / B4) = digs4 N := by
  rw [← h, digs4_pos (show R ≠ 0 by omega), List.append_assoc]; rfl
theorem digs_end {os : List Nat} {R N : Nat} (hR : ¬ 0 < R) (h : os ++ digs4 R = digs4 N) : os = digs4 N := by
  obtain rfl : R = 0 := by omega
  rw [← h, show digs4 0 = [] from rfl, List.append_nil]

set_option maxHeartbeats 4000000 in
theorem rOf (z : Int) (w : World) (h1 : -9223372036854775808 ≤ z) (h2 : z ≤ 9223372036854775807) : Calls Try.prog 24 #[.int .i64 z] w (RetR 64 w z) := by
  by_cases hmin : z = -9223372036854775808
  · subst hmin
    clear h1 h2
    go_enter Try.func24, Try.ntmps24
    have hB := Below.refl w.heap.size w
    go_wp2_with fail
    obtain ⟨w1, g2, hw3, hg4, hb5, al6, ge7, sz8⟩ := mk_alloc w [(.slice none 0 0), (.bool false)] 28 (N := w.heap.size) rfl
    rw [← hw3]
    have G9 := below_ge hB ge7
    replace hB := ext_trans hB al6
    clear hw3 al6 ge7
    rw [← hg4]
    clear hg4 sz8
    refine (nPow 63 _).mono ?_
    rintro e w11 ⟨o10, n10, c10, rfl, h10, hb12⟩
    replace hb5 := hb5.ext hb12
    replace hB := ext_trans hB hb12
    clear hb12
    go_wp2_with fail
    refine (rMade (x := (-9223372036854775808)) (h10).2 (by decide) (h10.lt)).mono ?_
    rintro e w14 ⟨o13, n13, c13, r13, rfl, h13, hb15⟩
    replace h10 := h10.ext hb15
    replace hb5 := hb5.ext hb15
    replace hB := ext_trans hB hb15
    clear hb15
    obtain ⟨a16, a17, f18, f19⟩ := cells2 hb5
    have l20 := hb5.lt
    go_wp2_with fail
    clear a16 a17 f18 f19 l20
    obtain ⟨w21, hw22, hu23, hb24, sz25⟩ := mk_set2 hb5 (.slice o13 n13 c13) (.bool r13) (N := w14.heap.size) rfl
    rw [← hw22]
    replace h10 := h10.upd hb5 (noInt_rr _ _ _ _) hu23
    replace h13 := h13.upd hb5 (noInt_rr _ _ _ _) hu23
    replace hB := below_upd hB G9.out hb5.lt hu23
    clear hw22 hu23 hb5
    clear sz25
    obtain ⟨a26, a27, f28, f29⟩ := cells2 hb24
    have l30 := hb24.lt
    go_wp2
    refine bodyPost_ret (by simp [results, Try.results24, go_sem, a26, a27]; try rfl) rfl ?_
    exact ⟨_, _, _, _, rfl, h13, hB⟩
  have hm : (z == -9223372036854775808) = false := by rw [beq_eq_false_iff_ne]; exact hmin
  have hgt : -9223372036854775808 < z := by omega
  clear h1 hmin
  by_cases hneg : z < 0
  · have hd := decide_eq_true hneg
    have HSZ : Hid (decide (z < 0) = true) := hid hd
    go_enter Try.func24, Try.ntmps24
    have hB := Below.refl w.heap.size w
    go_wp2_with fail
    obtain ⟨w1, g2, hw3, hg4, hb5, al6, ge7, sz8⟩ := mk_alloc w [(.slice none 0 0), (.bool false)] 28 (N := w.heap.size) rfl
    rw [← hw3]
    have G9 := below_ge hB ge7
    replace hB := ext_trans hB al6
    clear hw3 al6 ge7
    rw [← hg4]
    clear hg4 sz8
    obtain ⟨N, hN⟩ : ∃ N : Nat, -z = (N : Int) := ⟨z.natAbs, by omega⟩
    have hN2 : N ≤ 9223372036854775808 := by omega
    have HNZ : Hid (z.natAbs = N) := hid (by omega)
    rw [hN]
    clear hN
    go_loopw [0, 4] (fun s0 s4 wr => ∃ (R k : Nat) (os : List Nat), s0 = .int .i64 (R : Int) ∧ R ≤ 9223372036854775808 ∧ os.length = k ∧ k ≤ 5 ∧ (∀ o ∈ os, o < B4) ∧ wr.ownsRow w1.heap.size 3 1 s4 k (ints .i64 os) ∧
      Below w1.heap.size w1 wr ∧ os ++ digs4 R = digs4 N) (fun s0 _ _ => (intOf s0).toNat)
    case atStart => exact ⟨N, 0, [], rfl, hN2, rfl, by omega, by simp, World.ownsRow_nil _ _ _ _, Below.refl _ _, rfl⟩
    case round =>
      obtain ⟨R, k, os, rfl, hR, hol, hk5, hoB, hown, hb, hv⟩ := hrel
      have HOL := hid hol; have HV := hid hv; clear hol hv
      have hbs := hb.size
      by_cases hR0 : 0 < R
      · have hRd : decide ((0 : Int) < (R : Int)) = true := by rw [decide_eq_true_eq]; omega
        have hst := digs_step hR0 HV.out
        have hk4 : k + 1 ≤ 5 := by
          have h1 := congrArg List.length hst
          rw [List.length_append, List.length_append, HOL.out] at h1
          have h2 := digs_small hN2
          simp only [List.length_cons, List.length_nil] at h1
          omega
        have HST := hid hst; clear hst
        go_wp2_with (at_builtin; refine Hid.out ?_)
        refine hid ?_
        refine wpList_app _ rfl _ _ 26 rfl w1.heap.size 3 (.int .i64 0) 1 8 Try.underlying26 Try.infoInt rfl (by decide) u4 k (ints .i64 os) rfl (hown.alloc _) (some ⟨wr.heap.size, 0, none⟩) 1 1 [Value.int .i64 ((R : Int) % 10000)] rfl rfl (fun e => nomatch e) (Nat.le_refl _) (cells_new1 _ _ _) (one_int _ _) (by unfold maxLen; omega) (by omega) (by rw [World.size_alloc]; omega) fun v' w2 hown' _ hb2 => ?_
        have hb3 : Below w1.heap.size w1 w2 := (hb.alloc hbs _).trans hb2
        have e1 : (R : Int) % 10000 = ((R % B4 : Nat) : Int) := by unfold B4; omega
        have e2 : (R : Int) / 10000 = ((R / B4 : Nat) : Int) := by unfold B4; omega
        rw [e1, ints_snoc] at hown'
        have HE2 := hid e2
        clear e1 e2 hown
        go_wp2
        go_roundw
        case rel => exact ⟨R / B4, k + 1, os ++ [R % B4], by rw [← HE2.out], by have : R / B4 ≤ R := Nat.div_le_self _ _; omega, by rw [List.length_append, HOL.out]; rfl, hk4, mem_snoc_lt hoB (Nat.mod_lt _ (by decide)), hown', hb3, HST.out⟩
        case measure => simp only [intOf, Int.toNat_natCast]; rw [show ((R : Int) / 10000).toNat = R / 10000 by omega]; omega
      · have hRd : decide ((0 : Int) < (R : Int)) = false := by rw [decide_eq_false_iff_not]; omega
        have hfull := digs_end hR0 HV.out
        obtain ⟨ao', c1, hu, h1, h2⟩ := own_of_ownsRow (k := .i64) (B := B4) (by rw [HOL.out]; exact hown) hoB
        rw [HOL.out] at h1 hu
        rw [hfull] at h1
        subst hu
        have h3 : Dg 64 wr ao' k c1 N := ⟨by omega, h1⟩
        clear h1 h2 hown
        replace hB := ext_trans hB hb
        replace hb5 := hb5.ext hb
        go_wp2_with fail
        refine (rMade (x := z) (h3).2 (by rw [← HNZ.out]; exact zv_small z _ (by rw [HSZ.out])) (h3.lt)).mono ?_
        rintro e w11 ⟨o10, n10, c10, r10, rfl, h10, hb12⟩
        replace h3 := h3.ext hb12
        replace hb5 := hb5.ext hb12
        replace hB := ext_trans hB hb12
        clear hb12
        obtain ⟨a13, a14, f15, f16⟩ := cells2 hb5
        have l17 := hb5.lt
        go_wp2_with fail
        clear a13 a14 f15 f16 l17
        obtain ⟨w18, hw19, hu20, hb21, sz22⟩ := mk_set2 hb5 (.slice o10 n10 c10) (.bool r10) (N := w11.heap.size) rfl
        rw [← hw19]
        replace h3 := h3.upd hb5 (noInt_rr _ _ _ _) hu20
        replace h10 := h10.upd hb5 (noInt_rr _ _ _ _) hu20
        replace hB := below_upd hB G9.out hb5.lt hu20
        clear hw19 hu20 hb5
        clear sz22
        obtain ⟨a23, a24, f25, f26⟩ := cells2 hb21
        have l27 := hb21.lt
        go_wp2
        refine bodyPost_ret (by simp [results, Try.results24, go_sem, a23, a24]; try rfl) rfl ?_
        exact ⟨_, _, _, _, rfl, h10, hB⟩
  · have hd := decide_eq_false hneg
    have HSZ : Hid (decide (z < 0) = false) := hid hd
    go_enter Try.func24, Try.ntmps24
    have hB := Below.refl w.heap.size w
    go_wp2_with fail
    obtain ⟨w1, g2, hw3, hg4, hb5, al6, ge7, sz8⟩ := mk_alloc w [(.slice none 0 0), (.bool false)] 28 (N := w.heap.size) rfl
    rw [← hw3]
    have G9 := below_ge hB ge7
    replace hB := ext_trans hB al6
    clear hw3 al6 ge7
    rw [← hg4]
    clear hg4 sz8
    obtain ⟨N, hN⟩ : ∃ N : Nat, z = (N : Int) := ⟨z.natAbs, by omega⟩
    have hN2 : N ≤ 9223372036854775808 := by omega
    have HNZ : Hid (z.natAbs = N) := hid (by omega)
    rw [hN]
    clear hN
    go_loopw [0, 4] (fun s0 s4 wr => ∃ (R k : Nat) (os : List Nat), s0 = .int .i64 (R : Int) ∧ R ≤ 9223372036854775808 ∧ os.length = k ∧ k ≤ 5 ∧ (∀ o ∈ os, o < B4) ∧ wr.ownsRow w1.heap.size 3 1 s4 k (ints .i64 os) ∧
      Below w1.heap.size w1 wr ∧ os ++ digs4 R = digs4 N) (fun s0 _ _ => (intOf s0).toNat)
    case atStart => exact ⟨N, 0, [], rfl, hN2, rfl, by omega, by simp, World.ownsRow_nil _ _ _ _, Below.refl _ _, rfl⟩
    case round =>
      obtain ⟨R, k, os, rfl, hR, hol, hk5, hoB, hown, hb, hv⟩ := hrel
      have HOL := hid hol; have HV := hid hv; clear hol hv
      have hbs := hb.size
      by_cases hR0 : 0 < R
      · have hRd : decide ((0 : Int) < (R : Int)) = true := by rw [decide_eq_true_eq]; omega
        have hst := digs_step hR0 HV.out
        have hk4 : k + 1 ≤ 5 := by
          have h1 := congrArg List.length hst
          rw [List.length_append, List.length_append, HOL.out] at h1
          have h2 := digs_small hN2
          simp only [List.length_cons, List.length_nil] at h1
          omega
        have HST := hid hst; clear hst
        go_wp2_with (at_builtin; refine Hid.out ?_)
        refine hid ?_
        refine wpList_app _ rfl _ _ 26 rfl w1.heap.size 3 (.int .i64 0) 1 8 Try.underlying26 Try.infoInt rfl (by decide) u4 k (ints .i64 os) rfl (hown.alloc _) (some ⟨wr.heap.size, 0, none⟩) 1 1 [Value.int .i64 ((R : Int) % 10000)] rfl rfl (fun e => nomatch e) (Nat.le_refl _) (cells_new1 _ _ _) (one_int _ _) (by unfold maxLen; omega) (by omega) (by rw [World.size_alloc]; omega) fun v' w2 hown' _ hb2 => ?_
        have hb3 : Below w1.heap.size w1 w2 := (hb.alloc hbs _).trans hb2
        have e1 : (R : Int) % 10000 = ((R % B4 : Nat) : Int) := by unfold B4; omega
        have e2 : (R : Int) / 10000 = ((R / B4 : Nat) : Int) := by unfold B4; omega
        rw [e1, ints_snoc] at hown'
        have HE2 := hid e2
        clear e1 e2 hown
        go_wp2
        go_roundw
        case rel => exact ⟨R / B4, k + 1, os ++ [R % B4], by rw [← HE2.out], by have : R / B4 ≤ R := Nat.div_le_self _ _; omega, by rw [List.length_append, HOL.out]; rfl, hk4, mem_snoc_lt hoB (Nat.mod_lt _ (by decide)), hown', hb3, HST.out⟩
        case measure => simp only [intOf, Int.toNat_natCast]; rw [show ((R : Int) / 10000).toNat = R / 10000 by omega]; omega
      · have hRd : decide ((0 : Int) < (R : Int)) = false := by rw [decide_eq_false_iff_not]; omega
        have hfull := digs_end hR0 HV.out
        obtain ⟨ao', c1, hu, h1, h2⟩ := own_of_ownsRow (k := .i64) (B := B4) (by rw [HOL.out]; exact hown) hoB
        rw [HOL.out] at h1 hu
        rw [hfull] at h1
        subst hu
        have h3 : Dg 64 wr ao' k c1 N := ⟨by omega, h1⟩
        clear h1 h2 hown
        replace hB := ext_trans hB hb
        replace hb5 := hb5.ext hb
        go_wp2_with fail
        refine (rMade (x := z) (h3).2 (by rw [← HNZ.out]; exact zv_small z _ (by rw [HSZ.out])) (h3.lt)).mono ?_
        rintro e w11 ⟨o10, n10, c10, r10, rfl, h10, hb12⟩
        replace h3 := h3.ext hb12
        replace hb5 := hb5.ext hb12
        replace hB := ext_trans hB hb12
        clear hb12
        obtain ⟨a13, a14, f15, f16⟩ := cells2 hb5
        have l17 := hb5.lt
        go_wp2_with fail
        clear a13 a14 f15 f16 l17
        obtain ⟨w18, hw19, hu20, hb21, sz22⟩ := mk_set2 hb5 (.slice o10 n10 c10) (.bool r10) (N := w11.heap.size) rfl
        rw [← hw19]
        replace h3 := h3.upd hb5 (noInt_rr _ _ _ _) hu20
        replace h10 := h10.upd hb5 (noInt_rr _ _ _ _) hu20
        replace hB := below_upd hB G9.out hb5.lt hu20
        clear hw19 hu20 hb5
        clear sz22
        obtain ⟨a23, a24, f25, f26⟩ := cells2 hb21
        have l27 := hb21.lt
        go_wp2
        refine bodyPost_ret (by simp [results, Try.results24, go_sem, a23, a24]; try rfl) rfl ?_
        exact ⟨_, _, _, _, rfl, h10, hB⟩

end Go.Proofs.Ytkcagkcphobmfaa
