/-
  WALKS: limb.Shl, limb.Shr, limb.Bits, limb.wide: what they return, as numbers; nothing that was there turns.
-/
import Derived.Test.YtkcagkcphobmfaaLc
set_option linter.unusedVariables false
set_option linter.unusedSimpArgs false
namespace Go.Proofs.Ytkcagkcphobmfaa
open Go.RowKit

/-- A shift's number: from 0 to 65536. -/
def clampN (n : Int) : Nat := (max 0 (min n 65536)).toNat

set_option maxHeartbeats 1000000 in
/-- Shl: times 2 to the n. -/
theorem shl_any (ao : Option Addr) (n c : Nat) (xs : List Nat) (z : Int) (w : World) (hn : n ≤ 1073741824) (hr : Rw .u32 B32 w ao n c xs) :
    Calls Try.prog 84 #[.slice ao n c, .int .i64 z] w fun e w' => ∃ ro k c', e = .returned (.slice ro k c') ∧ Rw .u32 B32 w' ro k c' (limbs (val xs * 2 ^ clampN z)) ∧ Own w.heap.size w' ro c' ∧ Below w.heap.size w w' := by
  go_enter Try.func84, Try.ntmps84
  go_wp2_with fail
  refine (cut_any ao n c xs _ (by omega) hr).mono ?_
  rintro e w' ⟨n1, rfl, hn1, hp, rfl⟩
  go_upto_region 2 with (fail)
  go_cut [1] (fun s1 wx => s1 = .int .i64 (clampN z : Nat) ∧ wx = w)
  case first =>
    by_cases hz0 : z ≤ 0
    · go_wp2_with fail
      go_meet
      exact ⟨by rw [show clampN z = 0 by unfold clampN; omega]; rfl, rfl⟩
    · by_cases hz1 : 65536 < z
      · go_wp2_with fail
        go_meet
        exact ⟨by rw [show clampN z = 65536 by unfold clampN; omega]; rfl, rfl⟩
      · go_wp2_with fail
        go_meet
        exact ⟨by rw [show ((clampN z : Nat) : Int) = z by unfold clampN; omega], rfl⟩
  case rest =>
    obtain ⟨rfl, rfl⟩ := hcut
    have hzB : clampN z ≤ 65536 := by unfold clampN; omega
    obtain ⟨zn, hzn⟩ : ∃ zn, zn = clampN z := ⟨_, rfl⟩
    rw [← hzn] at hzB ⊢
    have HZN := hid hzn; clear hzn
    obtain ⟨kk, hkk⟩ : ∃ kk, kk = zn / 32 := ⟨_, rfl⟩
    obtain ⟨ss, hss⟩ : ∃ ss, ss = zn % 32 := ⟨_, rfl⟩
    have hkkB : kk ≤ 2048 := by omega
    have hssB : ss < 32 := by omega
    have hzks : zn = 32 * kk + ss := by omega
    have hd1 : (zn : Int) / 32 = (kk : Int) := by omega
    have hd2 : (zn : Int) % 32 = (ss : Int) := by omega
    have HZ := hid hzks; clear hkk hss hzks
    by_cases h0 : n1 = 0
    · subst h0
      go_wp2
      go_ret
      have hx0 : val xs = 0 := limbs_eq_nil.1 (List.eq_nil_of_length_eq_zero hp.len)
      exact ⟨_, _, _, rfl, by rw [hx0, Nat.zero_mul]; exact Rw.nil _ _ _, Own.nil _ _ _, Below.refl _ _⟩
    · have hn0 : ((n1 : Int) == 0) = false := by rw [beq_eq_false_iff_ne]; omega
      go_wp2_with (at_make; refine Hid.out ?_)
      refine hid ?_
      refine wpList_mk _ rfl _ _ 22 rfl 68 (.int .u32 0) 4 Try.underlying22 Try.infoU32 rfl .i64 .i64 _ _ (n1 + kk + 1) rfl rfl (by omega) (by omega) (by omega) (by unfold maxLen; omega) fun w2 hblk hbelow hlt => ?_
      obtain ⟨G, hG⟩ : ∃ G, G = wc.heap.size := ⟨_, rfl⟩
      rw [← hG] at hblk hlt hbelow ⊢
      have HG := hid hG; clear hG
      rw [← ints_replicate] at hblk
      generalize hA : limbs (val xs) = P at *
      have HA := hid hA; clear hA hr hd1 hd2
      have hpl := hp.len
      have HPL := hid hpl; clear hpl
      go_wp2_with fail
      go_loopw [32] (fun s32 wr => ∃ (k : Nat) (os : List Nat), k ≤ n1 ∧ s32 = .int .i64 k ∧ os.length = n1 + kk + 1 ∧ (∀ o ∈ os, o < B32) ∧ (∃ o, os[k + kk]? = some o ∧ o < 2 ^ ss) ∧ (∀ j, k + kk < j → j < n1 + kk + 1 → os[j]? = some 0) ∧ Blk wr G 68 (ints .u32 os) ∧ Below G wc wr ∧
          valB B32 os = B32 ^ kk * (2 ^ ss * valB B32 (P.take k))) (fun s32 _ => n1 - (intOf s32).toNat)
      case atStart => exact ⟨0, List.replicate (n1 + kk + 1) 0, Nat.zero_le _, rfl, by simp, (fun o ho => by have := (List.mem_replicate.1 ho).2; subst this; decide), ⟨0, by rw [List.getElem?_replicate, if_pos (by omega)], Nat.two_pow_pos _⟩, (fun j _ hj => by simp [hj]), hblk, hbelow, by simp [valB, valB_replicate_zero]⟩
      case round =>
        obtain ⟨k, os, hk, rfl, hol, hoB, ⟨o, ho, hoS⟩, hz, hb, hbe, hv⟩ := hrel
        have HV := hid hv; have HOL := hid hol; have HZ0 := hid hz; have Ho := hid ho; have HoS := hid hoS; clear hv hol hblk hbelow hz ho hoS
        have hb0 := hb.lt
        by_cases hkn : k < n1
        · obtain ⟨b1, off1, x, rfl, hx, hxB, hcx⟩ := (hp.ext (by rw [← HG.out]; exact hbe)).at hkn
          have hx' : x < 4294967296 := hxB
          have Hx := hid hx; clear hx hxB
          have hcell := hb.cell (k + kk) (by rw [ints_length, HOL.out]; omega)
          have hg : (ints .u32 os)[k + kk]'(by rw [ints_length, HOL.out]; omega) = .int .u32 (o : Int) := by
            obtain ⟨h1, h2⟩ := List.getElem?_eq_some_iff.1 Ho.out
            rw [ints_get, h2]
          rw [hg] at hcell
          clear hg
          have hfree := hb.free (k + kk)
          have hcell2 := hb.cell (k + kk + 1) (by rw [ints_length, HOL.out]; omega)
          have hfree2 := hb.free (k + kk + 1)
          obtain ⟨v, t, hi, e1, e2, e3, ht, hhi, hhiS, hvB, e4⟩ := shl_parts x ss o hx' hssB HoS.out
          have E4 := hid e4; have HHS := hid hhiS; clear e4 hhiS
          go_wp2
          go_roundw
          case rel =>
            have hv1 := (hb.set (k + kk) (.int .u32 (t : Int))).set (k + kk + 1) (.int .u32 (hi : Int))
            rw [ints_set, ints_set] at hv1
            refine ⟨k + 1, (os.set (k + kk) t).set (k + kk + 1) hi, by omega, by go_num, by rw [List.length_set, List.length_set]; exact HOL.out, mem_set_lt (mem_set_lt hoB ht _) hhi _, ⟨hi, ?_, HHS.out⟩, ?_, hv1, (hbe.setCell (Nat.le_refl _) _).setCell (Nat.le_refl _) _, ?_⟩
            · rw [show k + 1 + kk = k + kk + 1 by omega, List.getElem?_set_self (by rw [List.length_set, HOL.out]; omega)]
            · intro j h1 h2
              rw [List.getElem?_set_ne (by omega), List.getElem?_set_ne (by omega)]
              exact HZ0.out j (by omega) h2
            · exact shl_step Ho.out (HZ0.out _ (by omega) (by omega)) HV.out Hx.out E4.out
          case measure => simp [intOf]; omega
        · obtain rfl : k = n1 := by omega
          go_wp2_with fail
          have hrow := hb.rw hoB
          rw [HOL.out] at hrow
          refine (cut_any _ _ _ _ _ (by omega) hrow).mono ?_
          rintro e w' ⟨r1, rfl, hr1', hres, rfl⟩
          have hown := hb.own (base := G) (n := k + kk + 1) (Nat.le_refl _) (by rw [ints_length, HOL.out]; exact Nat.le_refl _)
          go_wp2
          go_ret
          refine ⟨_, _, _, rfl, ?_, by rw [← HG.out]; exact hown, by rw [← HG.out]; exact hbe⟩
          have hval : val os = val xs * 2 ^ zn := by
            have h2 := HV.out
            rw [valB_take_all _ HPL.out, ← HA.out] at h2
            change val os = _ * (_ * val (limbs (val xs))) at h2
            rw [val_limbs] at h2
            rw [h2, HZ.out, Nat.pow_add, Nat.pow_mul, show (2 : Nat) ^ 32 = B32 from rfl]
            grind
          rw [← HZN.out, ← hval]; exact hres

set_option maxHeartbeats 1000000 in
/-- Shr: over 2 to the n, rounded down. -/
theorem shr_any (ao : Option Addr) (n c : Nat) (xs : List Nat) (z : Int) (w : World) (hn : n ≤ 1073741824) (hr : Rw .u32 B32 w ao n c xs) :
    Calls Try.prog 80 #[.slice ao n c, .int .i64 z] w fun e w' => ∃ ro k c', e = .returned (.slice ro k c') ∧ Rw .u32 B32 w' ro k c' (limbs (val xs / 2 ^ clampN z)) ∧ Own w.heap.size w' ro c' ∧ Below w.heap.size w w' := by
  go_enter Try.func80, Try.ntmps80
  go_wp2_with fail
  refine (cut_any ao n c xs _ (by omega) hr).mono ?_
  rintro e w' ⟨n1, rfl, hn1, hp, rfl⟩
  go_upto_region 2 with (fail)
  go_cut [1] (fun s1 wx => s1 = .int .i64 (clampN z : Nat) ∧ wx = w)
  case first =>
    by_cases hz0 : z ≤ 0
    · go_wp2_with fail
      go_meet
      exact ⟨by rw [show clampN z = 0 by unfold clampN; omega]; rfl, rfl⟩
    · by_cases hz1 : 65536 < z
      · go_wp2_with fail
        go_meet
        exact ⟨by rw [show clampN z = 65536 by unfold clampN; omega]; rfl, rfl⟩
      · go_wp2_with fail
        go_meet
        exact ⟨by rw [show ((clampN z : Nat) : Int) = z by unfold clampN; omega], rfl⟩
  case rest =>
    obtain ⟨rfl, rfl⟩ := hcut
    have hzB : clampN z ≤ 65536 := by unfold clampN; omega
    obtain ⟨zn, hzn⟩ : ∃ zn, zn = clampN z := ⟨_, rfl⟩
    rw [← hzn] at hzB ⊢
    have HZN := hid hzn; clear hzn
    obtain ⟨kk, hkk⟩ : ∃ kk, kk = zn / 32 := ⟨_, rfl⟩
    obtain ⟨ss, hss⟩ : ∃ ss, ss = zn % 32 := ⟨_, rfl⟩
    have hkkB : kk ≤ 2048 := by omega
    have hssB : ss < 32 := by omega
    have hzks : zn = 32 * kk + ss := by omega
    have hd1 : (zn : Int) / 32 = (kk : Int) := by omega
    have hd2 : (zn : Int) % 32 = (ss : Int) := by omega
    have HZ := hid hzks; clear hkk hss hzks
    by_cases h0 : n1 ≤ kk
    · go_wp2
      go_ret
      have hx0 : val xs / 2 ^ clampN z = 0 := by
        rw [← HZN.out, HZ.out, Nat.pow_add, Nat.pow_mul]
        have h1 := val_lt hp.lt
        rw [val_limbs, hp.len] at h1
        have h2 : B32 ^ n1 ≤ B32 ^ kk := Nat.pow_le_pow_right (by decide) h0
        have h3 : B32 ^ kk * 1 ≤ B32 ^ kk * 2 ^ ss := Nat.mul_le_mul_left _ (Nat.two_pow_pos ss)
        exact Nat.div_eq_of_lt (by show val xs < B32 ^ kk * 2 ^ ss; omega)
      exact ⟨_, _, _, rfl, by rw [hx0]; exact Rw.nil _ _ _, Own.nil _ _ _, Below.refl _ _⟩
    · obtain ⟨l, hl⟩ : ∃ l, n1 = kk + l := ⟨n1 - kk, by omega⟩
      have hl0 : 0 < l := by omega
      subst hl
      go_wp2_with (at_make; refine Hid.out ?_)
      refine hid ?_
      refine wpList_mk _ rfl _ _ 22 rfl 68 (.int .u32 0) 4 Try.underlying22 Try.infoU32 rfl .i64 .i64 _ _ l rfl rfl (by omega) (by omega) (by omega) (by unfold maxLen; omega) fun w2 hblk hbelow hlt => ?_
      obtain ⟨G, hG⟩ : ∃ G, G = wc.heap.size := ⟨_, rfl⟩
      rw [← hG] at hblk hlt hbelow ⊢
      have HG := hid hG; clear hG
      rw [← ints_replicate] at hblk
      generalize hA : limbs (val xs) = P at *
      have HA := hid hA; clear hA hr hd1 hd2
      have hpl := hp.len
      have HPL := hid hpl; clear hpl
      go_wp2_with fail
      go_loopw [31] (fun s31 wr => ∃ (k : Nat) (os : List Nat), k ≤ l ∧ s31 = .int .i64 k ∧ os.length = l ∧ (∀ o ∈ os, o < B32) ∧ Blk wr G 68 (ints .u32 os) ∧ Below G wc wr ∧
          2 ^ ss * valB B32 (os.take k) + (P.drop kk).getD 0 0 % 2 ^ ss = valB B32 ((P.drop kk).take k) + B32 ^ k * ((P.drop kk).getD k 0 % 2 ^ ss)) (fun s31 _ => l - (intOf s31).toNat)
      case atStart => exact ⟨0, List.replicate l 0, Nat.zero_le _, rfl, by simp, (fun o ho => by have := (List.mem_replicate.1 ho).2; subst this; decide), hblk, hbelow, by simp [valB]⟩
      case round =>
        obtain ⟨k, os, hk, rfl, hol, hoB, hb, hbe, hv⟩ := hrel
        have HV := hid hv; have HOL := hid hol; clear hv hol hblk hbelow
        have hb0 := hb.lt
        by_cases hkn : k < l
        · obtain ⟨b1, off1, x, rfl, hx, hxB, hcx⟩ := (hp.ext (by rw [← HG.out]; exact hbe)).at (show k + kk < kk + l by omega)
          have hx' : x < 4294967296 := hxB
          have Hx := hid hx; clear hx hxB
          have hcell := hb.cell k (by rw [ints_length, HOL.out]; omega)
          have hfree := hb.free k
          by_cases hk1 : k + 1 < l
          · obtain ⟨y, hy, hyB, hcy⟩ := (hp.ext (by rw [← HG.out]; exact hbe)).cell (show k + kk + 1 < kk + l by omega)
            have hy' : y < 4294967296 := hyB
            have Hy := hid hy; clear hy hyB
            obtain ⟨q, e1, hq, e2⟩ := shr_parts x y ss hx' hy' hssB
            have E1 := hid e1; have E2 := hid e2; clear e1 e2
            go_wp2
            rw [E1.out]
            go_roundw
            case rel =>
              have hv := hb.set k (.int .u32 (q : Int))
              rw [ints_set] at hv
              refine ⟨k + 1, os.set k q, by omega, by go_num, by rw [List.length_set]; exact HOL.out, mem_set_lt hoB hq k, hv, hbe.setCell (Nat.le_refl _) _, ?_⟩
              refine shr_step (by rw [HOL.out]; omega) HV.out (x := x) (y := y) ?_ ?_ E2.out
              · rw [List.getElem?_drop, Nat.add_comm]; exact Hx.out
              · rw [List.getD_eq_getElem?_getD, List.getElem?_drop, show kk + (k + 1) = k + kk + 1 by omega, Hy.out]; rfl
            case measure => simp [intOf]; omega
          · obtain ⟨q, e1, hq, e2⟩ := shr_parts0 x ss hx'
            have E1 := hid e1; have E2 := hid e2; clear e1 e2
            go_wp2
            rw [E1.out]
            go_roundw
            case rel =>
              have hv := hb.set k (.int .u32 (q : Int))
              rw [ints_set] at hv
              refine ⟨k + 1, os.set k q, by omega, by go_num, by rw [List.length_set]; exact HOL.out, mem_set_lt hoB hq k, hv, hbe.setCell (Nat.le_refl _) _, ?_⟩
              refine shr_step (by rw [HOL.out]; omega) HV.out (x := x) (y := 0) ?_ ?_ E2.out
              · rw [List.getElem?_drop, Nat.add_comm]; exact Hx.out
              · rw [List.getD_eq_getElem?_getD, List.getElem?_drop, List.getElem?_eq_none (by rw [HPL.out]; omega)]; rfl
            case measure => simp [intOf]; omega
        · obtain rfl : k = l := by omega
          go_wp2_with fail
          have hrow := hb.rw hoB
          rw [HOL.out] at hrow
          refine (cut_any _ _ _ _ _ (by omega) hrow).mono ?_
          rintro e w' ⟨r1, rfl, hr1', hres, rfl⟩
          have hown := hb.own (base := G) (n := k) (Nat.le_refl _) (by rw [ints_length, HOL.out]; exact Nat.le_refl _)
          go_wp2
          go_ret
          refine ⟨_, _, _, rfl, ?_, by rw [← HG.out]; exact hown, by rw [← HG.out]; exact hbe⟩
          have hval : val os = val xs / 2 ^ zn := by
            have h2 := HV.out
            have hdl : (P.drop kk).length = k := by rw [List.length_drop, HPL.out]; omega
            rw [valB_take_all _ HOL.out, valB_take_all _ hdl, List.getD_eq_getElem?_getD (i := k), List.getElem?_eq_none (by omega)] at h2
            simp only [Option.getD_none, Nat.zero_mod, Nat.mul_zero, Nat.add_zero] at h2
            have h3 := valB_drop B32 P kk (by rw [HPL.out]; omega)
            have h4 : val P = val xs := by rw [← HA.out, val_limbs]
            have h5 : valB B32 (P.take kk) < B32 ^ kk := by
              have := valB_lt (B := B32) (xs := P.take kk) (fun x h => hp.lt x (List.mem_of_mem_take h))
              rwa [List.length_take, Nat.min_eq_left (by rw [HPL.out]; omega)] at this
            have h6 : (P.drop kk).getD 0 0 % 2 ^ ss < 2 ^ ss := Nat.mod_lt _ (Nat.two_pow_pos ss)
            rw [HZ.out, Nat.pow_add, Nat.pow_mul, show (2 : Nat) ^ 32 = B32 from rfl, ← Nat.div_div_eq_div_mul, ← h4]
            change val P = _ at h3
            rw [h3, Nat.add_mul_div_left _ _ (Nat.pow_pos (by decide)), Nat.div_eq_of_lt h5, Nat.zero_add, ← h2, Nat.mul_add_div (Nat.two_pow_pos ss), Nat.div_eq_of_lt h6]
            rfl
          rw [← HZN.out, ← hval]; exact hres

end Go.Proofs.Ytkcagkcphobmfaa
