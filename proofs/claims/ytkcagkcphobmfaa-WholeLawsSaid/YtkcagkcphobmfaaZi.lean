/-
  WALKS: are two numbers one: orreryref01.Same, the statements' is, orrerykeep.SameInt.
-/
import Derived.Test.YtkcagkcphobmfaaZh
set_option linter.unusedVariables false
set_option linter.unusedSimpArgs false
namespace Go.Proofs.Ytkcagkcphobmfaa
open Go.RowKit

theorem bne_self (s : Bool) : (s != s) = false := by cases s <;> rfl
theorem int_bne_self (n : Nat) : ((n : Int) != (n : Int)) = false := by simp

set_option maxHeartbeats 4000000 in
theorem rSame {K L : Nat} {w : World} {s t : Bool} {ao bo : Option Addr} {n c m d : Nat} {x : Int} (h : Rn K w ao n c s x) (k : Zn L w t bo m d x) (hK : K ≤ 1000000000 := by omega) (hL : L ≤ 1073741824 := by omega) :
    Calls Try.prog 60 #[.agg #[.slice ao n c, .bool s], .agg #[.bool t, .slice bo m d]] w (RetV (.bool true) w) := by
  obtain rfl : s = t := by rw [h.sgn, k.sgn]
  go_enter Try.func60, Try.ntmps60
  have hB := Below.refl w.heap.size w
  go_wp2_with fail
  obtain ⟨w1, g2, hw3, hg4, hb5, al6, ge7, sz8⟩ := mk_alloc w [(.slice ao n c), (.bool s)] 28 (N := w.heap.size) rfl
  rw [← hw3]
  have G9 := below_ge hB ge7
  replace hB := ext_trans hB al6
  replace h := h.ext al6
  replace k := k.ext al6
  clear hw3 al6 ge7
  obtain ⟨w10, g11, hw12, hg13, hb14, al15, ge16, sz17⟩ := mk_alloc w1 [(.bool s), (.slice bo m d)] 24 (N := w.heap.size + 1) sz8
  rw [← hw12]
  have Ng2_g11 := hb5.ne ge16
  have G18 := below_ge hB ge16
  replace hB := ext_trans hB al15
  replace h := h.ext al15
  replace k := k.ext al15
  replace hb5 := hb5.ext al15
  clear hw12 al15 ge16
  rw [← hg13]
  rw [← hg4]
  clear hg4 hg13 sz8 sz17
  refine (nTo h.dg).mono ?_
  rintro e w20 ⟨o19, n19, c19, rfl, h19, hb21⟩
  replace h := h.ext hb21
  replace k := k.ext hb21
  replace hb5 := hb5.ext hb21
  replace hb14 := hb14.ext hb21
  replace hB := ext_trans hB hb21
  clear hb21
  obtain rfl : m = n19 := by have h1 := h19.2.len; have h2 := k.2.1.len; omega
  have HS := bne_self s
  have HN := int_bne_self m
  have hmL := k.le
  obtain ⟨a22, a23, f24, f25⟩ := cells2 hb5
  have l26 := hb5.lt
  obtain ⟨a27, a28, f29, f30⟩ := cells2 hb14
  have l31 := hb14.lt
  go_wp2_with fail
  clear a22 a23 f24 f25 l26 a27 a28 f29 f30 l31
  obtain ⟨a32, a33, f34, f35⟩ := cells2 hb14
  have l36 := hb14.lt
  go_loopw [25] (fun s25 wr => ∃ j nq : Nat, j ≤ m ∧ s25 = .int .i64 j ∧ wr = w20.drewN nq) (fun s25 _ => m - (intOf s25).toNat)
  case atStart => exact ⟨0, 0, Nat.zero_le _, rfl, rfl⟩
  case round =>
    obtain ⟨j, nq, hj, rfl, rfl⟩ := hrel
    by_cases hjm : j < m
    · obtain ⟨b1, off1, u, hao1, hu, _, hcu⟩ := h19.2.at hjm
      obtain ⟨b2, off2, v, hao2, hv, _, hcv⟩ := k.2.1.at hjm
      obtain rfl : u = v := by rw [hu] at hv; exact Option.some.inj hv
      subst hao1; subst hao2
      have HU := hid hu; clear hu hv HU
      have HB1 := int_bne_self u
      go_wp2
      go_quiet (fail)
      go_wp2
      go_roundw
      case rel => exact ⟨j + 1, _, by omega, by go_num, rfl⟩
      case measure => simp [intOf]; omega
    · obtain rfl : j = m := by omega
      go_wp2
      go_ret
      exact ⟨rfl, ext_drewN hB _⟩

theorem lis {K L : Nat} {w : World} {s t : Bool} {ao bo : Option Addr} {n c m d : Nat} {x y : Int} (h : Rn K w ao n c s x) (k : Zn L w t bo m d y) (hxy : x = y) (hK : K ≤ 1000000000 := by omega) (hL : L ≤ 1073741824 := by omega) :
    Calls Try.prog 20 #[.agg #[.slice ao n c, .bool s], .agg #[.bool t, .slice bo m d]] w (RetV (.bool true) w) := by
  subst hxy
  go_enter Try.func20, Try.ntmps20
  have hB := Below.refl w.heap.size w
  go_wp2_with fail
  obtain ⟨w1, g2, hw3, hg4, hb5, al6, ge7, sz8⟩ := mk_alloc w [(.slice ao n c), (.bool s)] 28 (N := w.heap.size) rfl
  rw [← hw3]
  have G9 := below_ge hB ge7
  replace hB := ext_trans hB al6
  replace h := h.ext al6
  replace k := k.ext al6
  clear hw3 al6 ge7
  obtain ⟨w10, g11, hw12, hg13, hb14, al15, ge16, sz17⟩ := mk_alloc w1 [(.bool t), (.slice bo m d)] 24 (N := w.heap.size + 1) sz8
  rw [← hw12]
  have Ng2_g11 := hb5.ne ge16
  have G18 := below_ge hB ge16
  replace hB := ext_trans hB al15
  replace h := h.ext al15
  replace k := k.ext al15
  replace hb5 := hb5.ext al15
  clear hw12 al15 ge16
  rw [← hg13]
  rw [← hg4]
  clear hg4 hg13 sz8 sz17
  refine (rSame h k).mono ?_
  rintro e w19 ⟨rfl, hb20⟩
  replace h := h.ext hb20
  replace k := k.ext hb20
  replace hb5 := hb5.ext hb20
  replace hb14 := hb14.ext hb20
  replace hB := ext_trans hB hb20
  clear hb20
  go_wp2
  go_ret
  exact ⟨rfl, hB⟩

theorem kSame {K L : Nat} {w : World} {ao bo : Option Addr} {n c m d M : Nat} (h : Ln K w ao n c M) (k : Ln L w bo m d M) (hK : K ≤ 1073741824 := by omega) (hL : L ≤ 1073741824 := by omega) :
    Calls Try.prog 67 #[.slice ao n c, .slice bo m d] w (RetV (.bool true) w) :=
  (same_any ao bo n c m d _ _ w (Nat.le_trans h.1 hK) (Nat.le_trans k.1 hL) h.2 k.2).mono fun e w' ⟨he, hb⟩ => ⟨by rw [he, decide_eq_true rfl], hb⟩

theorem kSameInt {K L : Nat} {w : World} {s t : Bool} {ao bo : Option Addr} {n c m d : Nat} {x y : Int} (h : Zn K w s ao n c x) (k : Zn L w t bo m d y) (hxy : x = y) (hK : K ≤ 1073741824 := by omega) (hL : L ≤ 1073741824 := by omega) :
    Calls Try.prog 33 #[.agg #[.bool s, .slice ao n c], .agg #[.bool t, .slice bo m d]] w (RetV (.bool true) w) := by
  subst hxy
  obtain rfl : s = t := by rw [h.sgn, k.sgn]
  have HS := bool_beq s
  go_enter Try.func33, Try.ntmps33
  have hB := Below.refl w.heap.size w
  go_wp2_with fail
  obtain ⟨w1, g2, hw3, hg4, hb5, al6, ge7, sz8⟩ := mk_alloc w [(.bool s), (.slice ao n c)] 24 (N := w.heap.size) rfl
  rw [← hw3]
  have G9 := below_ge hB ge7
  replace hB := ext_trans hB al6
  replace h := h.ext al6
  replace k := k.ext al6
  clear hw3 al6 ge7
  obtain ⟨w10, g11, hw12, hg13, hb14, al15, ge16, sz17⟩ := mk_alloc w1 [(.bool s), (.slice bo m d)] 24 (N := w.heap.size + 1) sz8
  rw [← hw12]
  have Ng2_g11 := hb5.ne ge16
  have G18 := below_ge hB ge16
  replace hB := ext_trans hB al15
  replace h := h.ext al15
  replace k := k.ext al15
  replace hb5 := hb5.ext al15
  clear hw12 al15 ge16
  rw [← hg13]
  rw [← hg4]
  clear hg4 hg13 sz8 sz17
  refine (kSame h.ln k.ln).mono ?_
  rintro e w19 ⟨rfl, hb20⟩
  replace h := h.ext hb20
  replace k := k.ext hb20
  replace hb5 := hb5.ext hb20
  replace hb14 := hb14.ext hb20
  replace hB := ext_trans hB hb20
  clear hb20
  go_wp2
  go_ret
  exact ⟨rfl, hB⟩

end Go.Proofs.Ytkcagkcphobmfaa
