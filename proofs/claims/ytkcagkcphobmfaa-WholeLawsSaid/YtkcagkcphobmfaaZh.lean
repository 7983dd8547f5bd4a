/-
  WALKS: whole.Of.
-/
import Derived.Test.YtkcagkcphobmfaaZg
set_option linter.unusedVariables false
set_option linter.unusedSimpArgs false
namespace Go.Proofs.Ytkcagkcphobmfaa
open Go.RowKit

theorem split64 (m : Nat) (h : m < 18446744073709551616) : ∃ x0 x1 : Nat, (m : Int) % 4294967296 = (x0 : Int) ∧ (m : Int) / 4294967296 % 4294967296 = (x1 : Int) ∧ (m : Int) / 4294967296 = (x1 : Int) ∧ x0 < B32 ∧ x1 < B32 ∧ x0 + B32 * x1 = m :=
  ⟨m % 4294967296, m / 4294967296, by omega, by omega, by omega, by unfold B32; omega, by unfold B32; omega, by unfold B32; omega⟩
theorem neg_wrap (z : Int) (h : z < 0) (h1 : -9223372036854775808 ≤ z) : IntKind.u64.wrap (-IntKind.u64.wrap z) = (z.natAbs : Int) := by
  rw [wrap_u64, wrap_u64]; omega
theorem two_limbs {w : World} {g : Nat} {t : TypeId} {x0 x1 m : Nat} (h : Blk w g t [.int .u32 (x0 : Int), .int .u32 (x1 : Int)]) (h0 : x0 < B32) (h1 : x1 < B32) (hv : x0 + B32 * x1 = m) : La 2 w (some ⟨g, 0, none⟩) 2 2 m := by
  refine ⟨Nat.le_refl _, [x0, x1], Blk.rw (xs := [x0, x1]) h (by intro x hx; simp at hx; rcases hx with rfl | rfl <;> assumption), ?_⟩
  show x0 + B32 * (x1 + B32 * 0) = m
  omega

set_option maxHeartbeats 4000000 in
theorem wOf (z : Int) (w : World) (h1 : -9223372036854775808 ≤ z) (h2 : z ≤ 9223372036854775807) : Calls Try.prog 47 #[.int .i64 z] w (RetN 2 w z) := by
  by_cases hneg : z < 0
  · have hd := decide_eq_true hneg
    obtain ⟨x0, x1, e0, e1, e2, l0, l1, hv⟩ := split64 z.natAbs (by omega)
    go_enter Try.func47, Try.ntmps47
    have hB := Below.refl w.heap.size w
    have HW := hid (neg_wrap z hneg h1)
    clear h1
    have H0 := hid e0; have H1 := hid e1; have HV := hid hv; clear e0 e1 e2 hv
    go_wp2_with fail
    rw [HW.out, H0.out, H1.out]
    obtain ⟨w1, g1, hw1, hg1, hb1, al1, ge1, sz1⟩ := mk_alloc w [.bool false, .slice none 0 0] 24 (N := w.heap.size) rfl
    obtain ⟨w2, g2, hw2, hg2, hb2, al2, ge2, sz2⟩ := mk_alloc w1 [.int .u32 (x0 : Int), .int .u32 (x1 : Int)] 68 (N := w.heap.size + 1) sz1
    rw [← hw1, ← hw2, ← hg2, ← hg1]
    have hL := two_limbs hb2 l0 l1 HV.out
    have G1 := below_ge hB ge1
    replace hB := ext_trans (ext_trans hB al1) al2
    replace hb1 := hb1.ext al2
    clear hw1 hw2 hg2 hg1 al1 al2 ge1 ge2 sz1 sz2 hb2
    refine (lNorm hL).mono ?_
    rintro e w4 ⟨o3, n3, c3, rfl, h3, _, hb5⟩
    replace hL := hL.ext hb5
    replace hb1 := hb1.ext hb5
    replace hB := ext_trans hB hb5
    clear hb5
    have HD := hid hd
    go_wp2_with fail
    refine (lMade (z := z) h3 (zv_small z _ (by rw [HD.out]))).mono ?_
    rintro e w7 ⟨r6, o6, n6, c6, rfl, h6, hb8⟩
    replace hL := hL.ext hb8
    replace h3 := h3.ext hb8
    replace hb1 := hb1.ext hb8
    replace hB := ext_trans hB hb8
    clear hb8
    obtain ⟨a9, a10, f11, f12⟩ := cells2 hb1
    have l13 := hb1.lt
    go_wp2_with fail
    clear a9 a10 f11 f12 l13
    obtain ⟨w14, hw15, hu16, hb17, sz18⟩ := mk_set2 hb1 (.bool r6) (.slice o6 n6 c6) (N := w7.heap.size) rfl
    rw [← hw15]
    replace hL := hL.upd hb1 (noInt_zz _ _ _ _) hu16
    replace h3 := h3.upd hb1 (noInt_zz _ _ _ _) hu16
    replace h6 := h6.upd hb1 (noInt_zz _ _ _ _) hu16
    replace hB := below_upd hB G1.out hb1.lt hu16
    clear hw15 hu16 hb1
    clear sz18
    obtain ⟨a19, a20, f21, f22⟩ := cells2 hb17
    have l23 := hb17.lt
    go_wp2
    refine bodyPost_ret (by simp [results, Try.results47, go_sem, a19, a20]; try rfl) rfl ?_
    exact ⟨_, _, _, _, rfl, h6, hB⟩
  · have hd := decide_eq_false hneg
    obtain ⟨x0, x1, e0, e1, e2, l0, l1, hv⟩ := split64 z.natAbs (by omega)
    go_enter Try.func47, Try.ntmps47
    have hB := Below.refl w.heap.size w
    have HZ : Hid (z = (z.natAbs : Int)) := hid (by omega)
    have H0 := hid e0; have H1 := hid e2; have HV := hid hv; clear e0 e1 e2 hv
    go_wp2_with fail
    rw [show z % 4294967296 = (x0 : Int) by rw [← H0.out, ← HZ.out], show z / 4294967296 = (x1 : Int) by rw [← H1.out, ← HZ.out]]
    obtain ⟨w1, g1, hw1, hg1, hb1, al1, ge1, sz1⟩ := mk_alloc w [.bool false, .slice none 0 0] 24 (N := w.heap.size) rfl
    obtain ⟨w2, g2, hw2, hg2, hb2, al2, ge2, sz2⟩ := mk_alloc w1 [.int .u32 (x0 : Int), .int .u32 (x1 : Int)] 68 (N := w.heap.size + 1) sz1
    rw [← hw1, ← hw2, ← hg2, ← hg1]
    have hL := two_limbs hb2 l0 l1 HV.out
    have G1 := below_ge hB ge1
    replace hB := ext_trans (ext_trans hB al1) al2
    replace hb1 := hb1.ext al2
    clear hw1 hw2 hg2 hg1 al1 al2 ge1 ge2 sz1 sz2 hb2
    refine (lNorm hL).mono ?_
    rintro e w4 ⟨o3, n3, c3, rfl, h3, _, hb5⟩
    replace hL := hL.ext hb5
    replace hb1 := hb1.ext hb5
    replace hB := ext_trans hB hb5
    clear hb5
    have HD := hid hd
    go_wp2_with fail
    refine (lMade (z := z) h3 (zv_small z _ (by rw [HD.out]))).mono ?_
    rintro e w7 ⟨r6, o6, n6, c6, rfl, h6, hb8⟩
    replace hL := hL.ext hb8
    replace h3 := h3.ext hb8
    replace hb1 := hb1.ext hb8
    replace hB := ext_trans hB hb8
    clear hb8
    obtain ⟨a9, a10, f11, f12⟩ := cells2 hb1
    have l13 := hb1.lt
    go_wp2_with fail
    clear a9 a10 f11 f12 l13
    obtain ⟨w14, hw15, hu16, hb17, sz18⟩ := mk_set2 hb1 (.bool r6) (.slice o6 n6 c6) (N := w7.heap.size) rfl
    rw [← hw15]
    replace hL := hL.upd hb1 (noInt_zz _ _ _ _) hu16
    replace h3 := h3.upd hb1 (noInt_zz _ _ _ _) hu16
    replace h6 := h6.upd hb1 (noInt_zz _ _ _ _) hu16
    replace hB := below_upd hB G1.out hb1.lt hu16
    clear hw15 hu16 hb1
    clear sz18
    obtain ⟨a19, a20, f21, f22⟩ := cells2 hb17
    have l23 := hb17.lt
    go_wp2
    refine bodyPost_ret (by simp [results, Try.results47, go_sem, a19, a20]; try rfl) rfl ?_
    exact ⟨_, _, _, _, rfl, h6, hB⟩

end Go.Proofs.Ytkcagkcphobmfaa
