/-
  WALKS: whole.Product, whole.Gcd.
-/
import Derived.Test.YtkcagkcphobmfaaZr
set_option linter.unusedVariables false
set_option linter.unusedSimpArgs false
namespace Go.Proofs.Ytkcagkcphobmfaa
open Go.RowKit

def prodZ (zs : List Int) : Int := zs.foldl (· * ·) 1
theorem prodZ_take {zs : List Int} {k : Nat} {z : Int} (h : zs[k]? = some z) : prodZ (zs.take (k + 1)) = prodZ (zs.take k) * z := by
  obtain ⟨hl, rfl⟩ := List.getElem?_eq_some_iff.1 h
  unfold prodZ
  rw [List.take_succ_eq_append_getElem hl, List.foldl_append]; rfl

/-- The greatest common divisor of all. -/
def gcdL (zs : List Int) : Nat := zs.foldl (fun g z => Nat.gcd g z.natAbs) 0
theorem gcdL_take {zs : List Int} {k : Nat} {z : Int} (h : zs[k]? = some z) : gcdL (zs.take (k + 1)) = Nat.gcd (gcdL (zs.take k)) z.natAbs := by
  obtain ⟨hl, rfl⟩ := List.getElem?_eq_some_iff.1 h
  unfold gcdL
  rw [List.take_succ_eq_append_getElem hl, List.foldl_append]; rfl
theorem gcd_one_fold (zs : List Int) : zs.foldl (fun g z => Nat.gcd g z.natAbs) 1 = 1 := by
  induction zs with
  | nil => rfl
  | cons z zs ih => rw [List.foldl_cons, Nat.gcd_one_left]; exact ih
theorem gcdL_one {zs : List Int} {k : Nat} (h : gcdL (zs.take k) = 1) : gcdL zs = 1 := by
  have h1 : gcdL zs = (zs.drop k).foldl (fun g z => Nat.gcd g z.natAbs) (gcdL (zs.take k)) := by
    unfold gcdL
    rw [← List.foldl_append, List.take_append_drop]
  rw [h1, h]
  exact gcd_one_fold _

theorem limbs_one_get : (limbs 1)[0]? = some 1 := by decide
theorem one_limb {A y : Nat} (h : (limbs A).length = 1) (hy : (limbs A)[0]? = some y) : A = y := by
  obtain ⟨x, hx⟩ := List.length_eq_one_iff.1 h
  rw [hx] at hy
  obtain rfl : x = y := by simpa using hy
  rw [← val_limbs A, hx]
  show x + B32 * 0 = x
  omega

set_option maxRecDepth 100000 in
set_option maxHeartbeats 8000000 in
theorem wProduct {K : Nat} {w : World} {ao : Option Addr} {n c : Nat} {zs : List Int} (h : In K w ao n c zs) (hK : K ≤ 100000 := by omega) (hn : n ≤ 100 := by omega) :
    Calls Try.prog 49 #[.slice ao n c] w (RetN (2 + n * K) w (prodZ zs)) := by
  go_enter Try.func49, Try.ntmps49
  have hB := Below.refl w.heap.size w
  go_wp2_with fail
  obtain ⟨w1, g2, hw3, hg4, hb5, al6, ge7, sz8⟩ := mk_alloc w [(.bool false), (.slice none 0 0)] 24 (N := w.heap.size) rfl
  rw [← hw3]
  have G9 := below_ge hB ge7
  replace hB := ext_trans hB al6
  clear hw3 al6 ge7
  rw [← hg4]
  clear hg4 sz8
  refine (wOf 1 _ (by omega) (by omega)).mono ?_
  rintro e w11 ⟨r10, o10, n10, c10, rfl, h10, hb12⟩
  replace hb5 := hb5.ext hb12
  replace hB := ext_trans hB hb12
  clear hb12
  go_wp2_with fail
  obtain ⟨w13, g14, hw15, hg16, hb17, al18, ge19, sz20⟩ := mk_alloc w11 [(.bool r10), (.slice o10 n10 c10)] 24 (N := w11.heap.size) rfl
  rw [← hw15]
  have Ng2_g14 := hb5.ne ge19
  have G21 := below_ge hB ge19
  replace hB := ext_trans hB al18
  replace h10 := h10.ext al18
  replace hb5 := hb5.ext al18
  clear hw15 al18 ge19
  rw [← hg16]
  clear hg16 sz20
  have hl := h.1
  have HL := hid hl; clear hl
  have g0 : Zn (2 + 0 * K) w13 r10 o10 n10 c10 (prodZ (zs.take 0)) := by rw [Nat.zero_mul, Nat.add_zero]; exact h10
  clear h10
  go_loopw [9] (fun s8 wr => ∃ (k : Nat) (r : Bool) (o : Option Addr) (m d : Nat), s8 = .int .i64 (k : Int) ∧ k ≤ n ∧ Blk wr g2 24 [.bool false, .slice none 0 0] ∧ Blk wr g14 24 [.bool r, .slice o m d] ∧
    Zn (2 + k * K) wr r o m d (prodZ (zs.take k)) ∧ Below w.heap.size w wr) (fun s8 _ => n - (intOf s8).toNat)
  case atStart => exact ⟨0, _, _, _, _, rfl, by omega, hb5, hb17, g0, hB⟩
  case round =>
    clear g0 hB hb5 hb17
    obtain ⟨k, r, o, m, d, rfl, hk, hb5, hb17, g0, hB⟩ := hrel
    have hkK : k * K ≤ 10000000 := by have := Nat.mul_le_mul (show k ≤ 100 by omega) hK; omega
    by_cases hkn : k < n
    · skip
      obtain ⟨b, off, s1, a1, m1, d1, z, rfl, hz, hc1, hc2, hza⟩ := (h.ext hB).get hkn
      have HZ := hid hz; clear hz
      have hkd : decide ((k : Int) < (n : Int)) = true := by rw [decide_eq_true_eq]; omega
      have hkx : decide (k < n) = true := decide_eq_true hkn
      obtain ⟨a22, a23, f24, f25⟩ := cells2 hb17
      have l26 := hb17.lt
      go_wp2_with fail
      clear a22 a23 f24 f25 l26
      obtain ⟨w27, g28, hw29, hg30, hb31, al32, ge33, sz34⟩ := mk_alloc wr [(.bool s1), (.slice a1 m1 d1)] 24 (N := wr.heap.size) rfl
      rw [← hw29]
      have Ng2_g28 := hb5.ne ge33
      have Ng14_g28 := hb17.ne ge33
      have G35 := below_ge hB ge33
      replace hB := ext_trans hB al32
      replace g0 := g0.ext al32
      replace hza := hza.ext al32
      replace hb5 := hb5.ext al32
      replace hb17 := hb17.ext al32
      clear hw29 al32 ge33
      rw [← hg30]
      clear hg30 sz34
      refine (wMul g0.any hza).mono ?_
      rintro e w37 ⟨r36, o36, n36, c36, rfl, h36, _, hb38⟩
      replace g0 := g0.ext hb38
      replace hza := hza.ext hb38
      replace hb5 := hb5.ext hb38
      replace hb17 := hb17.ext hb38
      replace hb31 := hb31.ext hb38
      replace hB := ext_trans hB hb38
      clear hb38
      obtain ⟨a39, a40, f41, f42⟩ := cells2 hb17
      have l43 := hb17.lt
      go_wp2_with fail
      clear a39 a40 f41 f42 l43
      obtain ⟨w44, hw45, hu46, hb47, sz48⟩ := mk_set2 hb17 (.bool r36) (.slice o36 n36 c36) (N := w37.heap.size) rfl
      rw [← hw45]
      replace g0 := g0.upd hb17 (noInt_zz _ _ _ _) hu46
      replace hza := hza.upd hb17 (noInt_zz _ _ _ _) hu46
      replace h36 := h36.upd hb17 (noInt_zz _ _ _ _) hu46
      replace hB := below_upd hB G21.out hb17.lt hu46
      replace hb5 := hb5.upd Ng2_g14.out hu46
      have Mg28_g14 := hid_ne Ng14_g28
      replace hb31 := hb31.upd Mg28_g14.out hu46
      clear hw45 hu46 hb17
      clear sz48
      go_roundw
      case rel => exact ⟨k + 1, _, _, _, _, by go_num, by omega, hb5, hb47, (by rw [prodZ_take HZ.out]; exact h36.mono (by rw [Nat.add_mul]; omega)), hB⟩
      case measure => simp [intOf]; omega
    · skip
      obtain rfl : k = n := by omega
      have hkd : decide ((k : Int) < (k : Int)) = false := by simp
      have hkx : decide (k < k) = false := by simp
      obtain ⟨a22, a23, f24, f25⟩ := cells2 hb17
      have l26 := hb17.lt
      obtain ⟨a27, a28, f29, f30⟩ := cells2 hb5
      have l31 := hb5.lt
      have Mg14_g2 := hid_ne Ng2_g14
      have e32 := Mg14_g2.out
      go_wp2_with fail
      clear a22 a23 f24 f25 l26 a27 a28 f29 f30 l31 e32
      obtain ⟨w33, hw34, hu35, hb36, sz37⟩ := mk_set2 hb5 (.bool r) (.slice o m d) (N := wr.heap.size) rfl
      rw [← hw34]
      replace g0 := g0.upd hb5 (noInt_zz _ _ _ _) hu35
      replace hB := below_upd hB G9.out hb5.lt hu35
      replace hb17 := hb17.upd Mg14_g2.out hu35
      clear hw34 hu35 hb5
      clear sz37
      obtain ⟨a38, a39, f40, f41⟩ := cells2 hb36
      have l42 := hb36.lt
      go_wp2
      refine bodyPost_ret (by simp [results, Try.results49, go_sem, a38, a39]; try rfl) rfl ?_
      rw [List.take_of_length_le (Nat.le_of_eq HL.out)] at g0
      exact ⟨_, _, _, _, rfl, g0, hB⟩

set_option maxRecDepth 100000 in
set_option maxHeartbeats 16000000 in
theorem wGcd {K : Nat} {w : World} {ao : Option Addr} {n c : Nat} {zs : List Int} (h : In K w ao n c zs) (hK : K ≤ 1000000 := by omega) (hn : n ≤ 1000 := by omega) :
    Calls Try.prog 26 #[.slice ao n c] w (RetN K w ((gcdL zs : Nat) : Int)) := by
  go_enter Try.func26, Try.ntmps26
  have hB := Below.refl w.heap.size w
  go_wp2_with fail
  obtain ⟨w1, g2, hw3, hg4, hb5, al6, ge7, sz8⟩ := mk_alloc w [(.bool false), (.slice none 0 0)] 24 (N := w.heap.size) rfl
  rw [← hw3]
  have G9 := below_ge hB ge7
  replace hB := ext_trans hB al6
  clear hw3 al6 ge7
  rw [← hg4]
  clear hg4 sz8
  have hl := h.1
  have HL := hid hl; clear hl
  have g0 : Ln K w1 none 0 0 (gcdL (zs.take 0)) := ⟨Nat.zero_le _, Rw.nil _ _ _⟩
  go_loopw [3, 12] (fun s3 s12 wr => ∃ (k G : Nat) (o : Option Addr) (m d : Nat), s12 = .int .i64 (k : Int) ∧ s3 = .slice o m d ∧ k ≤ n ∧ G = gcdL (zs.take k) ∧ Blk wr g2 24 [.bool false, .slice none 0 0] ∧
    Ln K wr o m d G ∧ Below w.heap.size w wr) (fun _ s12 _ => n - (intOf s12).toNat)
  case atStart => exact ⟨0, _, _, _, _, rfl, rfl, by omega, rfl, hb5, g0, hB⟩
  case round =>
    clear g0 hB hb5
    obtain ⟨k, G, o, m, d, rfl, rfl, hk, hG, hb5, g0, hB⟩ := hrel
    have HG := hid hG; clear hG
    by_cases hkn : k < n
    · skip
      obtain ⟨b, off, s1, a1, m1, d1, z, rfl, hz, hc1, hc2, hza⟩ := (h.ext hB).get hkn
      have HZ := hid hz; clear hz
      have hkd : decide ((k : Int) < (n : Int)) = true := by rw [decide_eq_true_eq]; omega
      have hkx : decide (k < n) = true := decide_eq_true hkn
      go_wp2_with fail
      obtain ⟨w10, g11, hw12, hg13, hb14, al15, ge16, sz17⟩ := mk_alloc wr [(.bool s1), (.slice a1 m1 d1)] 24 (N := wr.heap.size) rfl
      rw [← hw12]
      have Ng2_g11 := hb5.ne ge16
      have G18 := below_ge hB ge16
      replace hB := ext_trans hB al15
      replace g0 := g0.ext al15
      replace hza := hza.ext al15
      replace hb5 := hb5.ext al15
      clear hw12 al15 ge16
      rw [← hg13]
      clear hg13 sz17
      refine (lNorm hza.la).mono ?_
      rintro e w20 ⟨o19, n19, c19, rfl, h19, _, hb21⟩
      replace g0 := g0.ext hb21
      replace hza := hza.ext hb21
      replace hb5 := hb5.ext hb21
      replace hb14 := hb14.ext hb21
      replace hB := ext_trans hB hb21
      clear hb21
      go_wp2_with fail
      obtain ⟨D, hD⟩ : ∃ D, D = Nat.gcd G z.natAbs := ⟨_, rfl⟩
      have HD := hid hD; clear hD
      go_loopg [3, 6] z.natAbs (fun X s3 s6 wi => ∃ (A : Nat) (oa : Option Addr) (ma da : Nat) (ox : Option Addr) (mx dx : Nat), s3 = .slice oa ma da ∧ s6 = .slice ox mx dx ∧ Ln K wi oa ma da A ∧ Ln K wi ox mx dx X ∧ Nat.gcd A X = D ∧
        Blk wi g2 24 [.bool false, .slice none 0 0] ∧ Below w.heap.size w wi)
      case atStart => exact ⟨G, _, _, _, _, _, _, rfl, rfl, g0, h19, HD.out.symm, hb5, hB⟩
      case round =>
        clear g0 hB hza h19 hb5 hb14
        obtain ⟨A, oa, ma, da, ox, mx, dx, rfl, rfl, hA, hX, hg, hb2, hB⟩ := hrel
        have HGG := hid hg; clear hg
        have hzx := hX.zero
        by_cases h0 : gk = 0
        · skip
          obtain rfl : mx = 0 := hzx.2 h0
          have HAD : Hid (A = D) := hid (by rw [← HGG.out, h0, Nat.gcd_zero_right])
          have HT : Hid (D = gcdL (zs.take (k + 1))) := hid (by rw [gcdL_take HZ.out, ← HG.out]; exact HD.out)
          clear hzx h0
          have hal := hA.2.len
          have HAL := hid hal; clear hal
          by_cases hone : A = 1
          · skip
            subst hone
            obtain rfl : ma = 1 := by rw [← HAL.out]; rfl
            obtain ⟨b3, off3, y, rfl, hy, hyB, hcy⟩ := hA.2.at (show 0 < 1 by omega)
            obtain rfl : y = 1 := Option.some.inj (hy.symm.trans limbs_one_get)
            rw [Nat.add_zero] at hcy
            have hcy1 : wr.cell? ⟨b3, off3, none⟩ = some (.int .u32 1) := hcy
            clear hcy hy
            go_wp2_with fail
            refine (lNorm hA.la).mono ?_
            rintro e w23 ⟨o22, n22, c22, rfl, h22, _, hb24⟩
            replace hA := hA.ext hb24
            replace hX := hX.ext hb24
            replace hb2 := hb2.ext hb24
            replace hB := ext_trans hB hb24
            clear hb24
            go_wp2_with fail
            refine (lMade (z := ((gcdL zs : Nat) : Int)) h22 (by rw [gcdL_one (HT.out.symm.trans HAD.out.symm)]; rfl)).mono ?_
            rintro e w26 ⟨r25, o25, n25, c25, rfl, h25, hb27⟩
            replace hA := hA.ext hb27
            replace hX := hX.ext hb27
            replace h22 := h22.ext hb27
            replace hb2 := hb2.ext hb27
            replace hB := ext_trans hB hb27
            clear hb27
            obtain ⟨a28, a29, f30, f31⟩ := cells2 hb2
            have l32 := hb2.lt
            go_wp2_with fail
            clear a28 a29 f30 f31 l32
            obtain ⟨w33, hw34, hu35, hb36, sz37⟩ := mk_set2 hb2 (.bool r25) (.slice o25 n25 c25) (N := w26.heap.size) rfl
            rw [← hw34]
            replace hA := hA.upd hb2 (noInt_zz _ _ _ _) hu35
            replace hX := hX.upd hb2 (noInt_zz _ _ _ _) hu35
            replace h22 := h22.upd hb2 (noInt_zz _ _ _ _) hu35
            replace h25 := h25.upd hb2 (noInt_zz _ _ _ _) hu35
            replace hB := below_upd hB G9.out hb2.lt hu35
            clear hw34 hu35 hb2
            clear sz37
            obtain ⟨a38, a39, f40, f41⟩ := cells2 hb36
            have l42 := hb36.lt
            go_wp2
            refine bodyPost_ret (by simp [results, Try.results26, go_sem, a38, a39]; try rfl) rfl ?_
            exact ⟨_, _, _, _, rfl, h25, hB⟩
          · skip
            by_cases hma : ma = 1
            · skip
              obtain rfl := hma
              obtain ⟨b3, off3, y, rfl, hy, hyB, hcy⟩ := hA.2.at (show 0 < 1 by omega)
              have hyA := one_limb HAL.out hy
              have hyn : ((y : Int) == 1) = false := by rw [beq_eq_false_iff_ne]; omega
              rw [Nat.add_zero] at hcy
              clear hy hyA
              go_wp2_with fail
              go_roundw
              case rel => exact ⟨k + 1, A, _, _, _, by go_num, rfl, by omega, HAD.out.trans HT.out, hb2, hA, hB⟩
              case measure => simp [intOf]; omega
            · skip
              have hman : ((ma : Int) == 1) = false := by rw [beq_eq_false_iff_ne]; omega
              go_wp2_with fail
              go_roundw
              case rel => exact ⟨k + 1, A, _, _, _, by go_num, rfl, by omega, HAD.out.trans HT.out, hb2, hA, hB⟩
              case measure => simp [intOf]; omega
        · skip
          have hm0 : 0 < mx := by omega
          have e1 : decide ((0 : Int) < (mx : Int)) = true := by rw [decide_eq_true_eq]; omega
          have e2 : decide (0 < mx) = true := decide_eq_true hm0
          have HZ0 : Hid (gk ≠ 0) := hid h0
          clear hzx h0
          go_wp2_with fail
          refine (lDiv hA.la hX.la HZ0.out).mono ?_
          rintro e w24 ⟨qo, qn, qc, ro, rn, rc, rfl, h22, h23, hb25⟩
          replace hA := hA.ext hb25
          replace hX := hX.ext hb25
          replace hb2 := hb2.ext hb25
          replace hB := ext_trans hB hb25
          clear hb25
          go_wp2_with fail
          go_roundg (A % gk)
          case measure => exact Nat.mod_lt _ (Nat.pos_of_ne_zero HZ0.out)
          case rel => exact ⟨gk, _, _, _, _, _, _, rfl, rfl, hX, h23, by rw [gcd_step]; exact HGG.out, hb2, hB⟩
    · skip
      obtain rfl : k = n := by omega
      have hkd : decide ((k : Int) < (k : Int)) = false := by simp
      have hkx : decide (k < k) = false := by simp
      go_wp2_with fail
      refine (lNorm g0.la).mono ?_
      rintro e w11 ⟨o10, n10, c10, rfl, h10, _, hb12⟩
      replace g0 := g0.ext hb12
      replace hb5 := hb5.ext hb12
      replace hB := ext_trans hB hb12
      clear hb12
      go_wp2_with fail
      refine (lMade (z := ((gcdL zs : Nat) : Int)) h10 (by rw [HG.out, List.take_of_length_le (Nat.le_of_eq HL.out)]; rfl)).mono ?_
      rintro e w14 ⟨r13, o13, n13, c13, rfl, h13, hb15⟩
      replace g0 := g0.ext hb15
      replace h10 := h10.ext hb15
      replace hb5 := hb5.ext hb15
      replace hB := ext_trans hB hb15
      clear hb15
      obtain ⟨a16, a17, f18, f19⟩ := cells2 hb5
      have l20 := hb5.lt
      go_wp2_with fail
      clear a16 a17 f18 f19 l20
      obtain ⟨w21, hw22, hu23, hb24, sz25⟩ := mk_set2 hb5 (.bool r13) (.slice o13 n13 c13) (N := w14.heap.size) rfl
      rw [← hw22]
      replace g0 := g0.upd hb5 (noInt_zz _ _ _ _) hu23
      replace h10 := h10.upd hb5 (noInt_zz _ _ _ _) hu23
      replace h13 := h13.upd hb5 (noInt_zz _ _ _ _) hu23
      replace hB := below_upd hB G9.out hb5.lt hu23
      clear hw22 hu23 hb5
      clear sz25
      obtain ⟨a26, a27, f28, f29⟩ := cells2 hb24
      have l30 := hb24.lt
      go_wp2
      refine bodyPost_ret (by simp [results, Try.results26, go_sem, a26, a27]; try rfl) rfl ?_
      exact ⟨_, _, _, _, rfl, h13, hB⟩

end Go.Proofs.Ytkcagkcphobmfaa
