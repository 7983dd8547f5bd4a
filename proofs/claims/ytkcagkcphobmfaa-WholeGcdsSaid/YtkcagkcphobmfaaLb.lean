/-
  WALKS: limb.Add, limb.Sub: what they return, as numbers; nothing that was there turns.
-/
import Derived.Test.YtkcagkcphobmfaaLa
import Derived.Deep.DeepCutAuto
set_option linter.unusedVariables false
set_option linter.unusedSimpArgs false
namespace Go.Proofs.Ytkcagkcphobmfaa
open Go.RowKit

set_option maxHeartbeats 1000000 in
/-- Add: the sum. -/
theorem add_any (ao bo : Option Addr) (n c m d : Nat) (xs ys : List Nat) (w : World) (hn : n ≤ 1073741824) (hm : m ≤ 1073741824) (hr : Rw .u32 B32 w ao n c xs) (hs : Rw .u32 B32 w bo m d ys) :
    Calls Try.prog 56 #[.slice ao n c, .slice bo m d] w fun e w' => ∃ ro k c', e = .returned (.slice ro k c') ∧ Rw .u32 B32 w' ro k c' (limbs (val xs + val ys)) ∧ Own w.heap.size w' ro c' ∧ Below w.heap.size w w' := by
  go_enter Try.func56, Try.ntmps56
  go_wp2_with fail
  refine (cut_any ao n c xs _ (by omega) hr).mono ?_
  rintro e w' ⟨n1, rfl, hn1, hr1, rfl⟩
  go_wp2_with fail
  refine (cut_any bo m d ys _ (by omega) hs).mono ?_
  rintro e w' ⟨m1, rfl, hm1, hs1, rfl⟩
  go_upto_if 18 with (fail)
  go_cut [0, 1] (fun s0 s1 wx => ∃ po pn pc PL qo qn qc QL, s0 = .slice po pn pc ∧ s1 = .slice qo qn qc ∧ qn ≤ pn ∧ pn ≤ 1073741824 ∧ Rw .u32 B32 w po pn pc PL ∧ Rw .u32 B32 w qo qn qc QL ∧ val PL + val QL = val xs + val ys ∧ wx = w)
  case first =>
    have h1 := val_limbs (val xs)
    have h2 := val_limbs (val ys)
    by_cases hlt : n1 < m1
    · go_wp2_with fail
      go_meet
      exact ⟨_, _, _, _, _, _, _, _, rfl, rfl, by omega, by omega, hs1, hr1, by omega, rfl⟩
    · go_wp2_with fail
      go_meet
      exact ⟨_, _, _, _, _, _, _, _, rfl, rfl, by omega, by omega, hr1, hs1, by omega, rfl⟩
  case rest =>
    obtain ⟨po, pn, pc, PL, qo, qn, qc, QL, rfl, rfl, hle, hbig, hp, hq, hval, rfl⟩ := hcut
    have Hval := hid hval
    clear hval hr hs hr1 hs1 hn1 hm1
    go_wp2_with (at_make; refine Hid.out ?_)
    refine hid ?_
    refine wpList_mk _ rfl _ _ 22 rfl 68 (.int .u32 0) 4 Try.underlying22 Try.infoU32 rfl .i64 .i64 _ _ (pn + 1) rfl rfl (by omega) (by omega) (by omega) (by unfold maxLen; omega) fun w1 hblk hbelow hlt => ?_
    obtain ⟨G, hG⟩ : ∃ G, G = wc.heap.size := ⟨_, rfl⟩
    rw [← hG] at hblk hlt hbelow ⊢
    have HG := hid hG; clear hG
    rw [← ints_replicate] at hblk
    go_wp2_with fail
    go_loopw [6, 27] (fun s6 s27 wr => ∃ (k cy : Nat) (os : List Nat), k ≤ pn ∧ s27 = .int .i64 k ∧ s6 = .int .u64 cy ∧ cy ≤ 1 ∧ os.length = pn + 1 ∧ (∀ o ∈ os, o < B32) ∧ Blk wr G 68 (ints .u32 os) ∧ Below G wc wr ∧
        valB B32 (os.take k) + B32 ^ k * cy = valB B32 (PL.take k) + valB B32 (QL.take k)) (fun _ s27 _ => pn - (intOf s27).toNat)
    case atStart => exact ⟨0, 0, List.replicate (pn + 1) 0, Nat.zero_le _, rfl, rfl, by omega, by simp, (fun o ho => by simp at ho; subst ho; decide), hblk, hbelow, by simp [valB]⟩
    case round =>
      obtain ⟨k, cy, os, hk, rfl, rfl, hcy, hol, hoB, hb, hbe, hv⟩ := hrel
      have HV := hid hv; have HOL := hid hol; clear hv hol hblk hbelow
      have hb0 := hb.lt
      by_cases hkn : k < pn
      · obtain ⟨b1, off1, x, rfl, hx, hxB, hcx⟩ := (hp.ext (by rw [← HG.out]; exact hbe)).at hkn
        have hcell := hb.cell k (by rw [ints_length, HOL.out]; omega)
        have hfree := hb.free k
        have hx' : x < 4294967296 := hxB
        have Hx := hid hx; clear hx hxB
        by_cases hkq : k < qn
        · obtain ⟨b2, off2, y, rfl, hy, hyB, hcy2⟩ := (hq.ext (by rw [← HG.out]; exact hbe)).at hkq
          have hy' : y < 4294967296 := hyB
          have Hy := hid hy; clear hy hyB
          go_wp2
          go_roundw
          case rel =>
            have hv := hb.set k (.int .u32 (((x + cy + y) % 4294967296 : Nat) : Int))
            rw [ints_set] at hv
            refine ⟨k + 1, (x + cy + y) / 4294967296, os.set k ((x + cy + y) % 4294967296), by omega, by go_num, by go_num, by omega, by rw [List.length_set]; exact HOL.out, mem_set_lt hoB (Nat.mod_lt _ (by decide)) k, ?_, ?_, ?_⟩
            · have e : ((x : Int) + cy + y) % 4294967296 = (((x + cy + y) % 4294967296 : Nat) : Int) := by omega
              rw [e]; exact hv
            · exact hbe.setCell (Nat.le_refl _) _
            · exact add_step (by rw [HOL.out]; omega) HV.out (valB_take_some _ Hx.out) (valB_take_some _ Hy.out)
          case measure => simp [intOf]; omega
        · have hql := hq.len
          have HQL := hid hql; clear hql
          go_wp2
          go_roundw
          case rel =>
            have hv := hb.set k (.int .u32 (((x + cy + 0) % 4294967296 : Nat) : Int))
            rw [ints_set] at hv
            refine ⟨k + 1, (x + cy + 0) / 4294967296, os.set k ((x + cy + 0) % 4294967296), by omega, by go_num, by go_num, by omega, by rw [List.length_set]; exact HOL.out, mem_set_lt hoB (Nat.mod_lt _ (by decide)) k, ?_, ?_, ?_⟩
            · have e : ((x : Int) + cy) % 4294967296 = (((x + cy + 0) % 4294967296 : Nat) : Int) := by omega
              rw [e]; exact hv
            · exact hbe.setCell (Nat.le_refl _) _
            · exact add_step (by rw [HOL.out]; omega) HV.out (valB_take_some _ Hx.out) (by rw [valB_take_none _ (by rw [HQL.out]; omega)]; simp)
          case measure => simp [intOf]; omega
      · obtain rfl : k = pn := by omega
        have hcell := hb.cell k (by rw [ints_length, HOL.out]; omega)
        have hfree := hb.free k
        go_wp2_with fail
        have hv := hb.set k (.int .u32 (cy : Int))
        rw [ints_set] at hv
        have hlt : ∀ x ∈ os.set k cy, x < B32 := mem_set_lt hoB (by show cy < 4294967296; omega) k
        have hrow := hv.rw hlt
        rw [List.length_set, HOL.out] at hrow
        refine (cut_any _ _ _ _ _ (by omega) hrow).mono ?_
        rintro e w' ⟨r1, rfl, hr1, hres, rfl⟩
        have hown := hv.own (base := G) (n := k + 1) (Nat.le_refl _) (by rw [ints_length, List.length_set, HOL.out]; exact Nat.le_refl _)
        go_wp2
        go_ret
        refine ⟨_, _, _, rfl, ?_, by rw [← HG.out]; exact hown, by rw [← HG.out]; exact hbe.setCell (Nat.le_refl _) _⟩
        have hval : val (os.set k cy) = val xs + val ys := by
          have h1 := valB_take_set B32 os k cy (by rw [HOL.out]; omega)
          rw [valB_take_all _ (by rw [List.length_set, HOL.out])] at h1
          have h2 := HV.out
          rw [valB_take_all _ hp.len, List.take_of_length_le (l := QL) (by rw [hq.len]; exact hle)] at h2
          rw [← Hval.out]; unfold val; omega
        rw [← hval]; exact hres

set_option maxHeartbeats 1000000 in
/-- Sub: the difference; nil where it is below 0. -/
theorem sub_any (ao bo : Option Addr) (n c m d : Nat) (xs ys : List Nat) (w : World) (hn : n ≤ 1073741824) (hm : m ≤ 1073741824) (hr : Rw .u32 B32 w ao n c xs) (hs : Rw .u32 B32 w bo m d ys) :
    Calls Try.prog 57 #[.slice ao n c, .slice bo m d] w fun e w' => ∃ ro k c', e = .returned (.tuple #[.slice ro k c', .bool (decide (val ys ≤ val xs))]) ∧ Rw .u32 B32 w' ro k c' (limbs (val xs - val ys)) ∧ Own w.heap.size w' ro c' ∧ Below w.heap.size w w' := by
  go_enter Try.func57, Try.ntmps57
  go_wp2_with fail
  refine (cut_any ao n c xs _ (by omega) hr).mono ?_
  rintro e w' ⟨n1, rfl, hn1, hr1, rfl⟩
  go_wp2_with fail
  refine (cut_any bo m d ys _ (by omega) hs).mono ?_
  rintro e w' ⟨m1, rfl, hm1, hs1, rfl⟩
  go_wp2_with fail
  refine (cmp_any _ _ _ _ _ _ _ _ _ (by omega) (by omega) hr1 hs1).mono ?_
  rintro e w1 ⟨rfl, hw1⟩
  rw [val_limbs, val_limbs]
  obtain ⟨z, hz⟩ : ∃ z, z = cmpZ (val xs) (val ys) := ⟨_, rfl⟩
  rw [← hz]
  by_cases hlt : val xs < val ys
  · have hz0 : z < 0 := by rw [hz, cmpZ, if_pos (by omega)]; decide
    clear hz
    have hdec : decide (val ys ≤ val xs) = false := by simpa using hlt
    have HD := hid hdec; clear hdec
    have hsub : val xs - val ys = 0 := by omega
    have HS := hid hsub; clear hsub
    go_wp2
    go_ret2
    exact ⟨_, _, _, by rw [HD.out]; rfl, by rw [HS.out]; exact Rw.nil _ _ _, Own.nil _ _ _, hw1⟩
  · have hz0 : 0 ≤ z := by rw [hz, cmpZ, if_neg (by omega)]; split <;> decide
    clear hz
    have hdec : decide (val ys ≤ val xs) = true := by simpa using Nat.le_of_not_lt hlt
    have HD := hid hdec; clear hdec
    have hle := Nat.le_of_not_lt hlt; clear hlt
    have hmn := limbs_mono hle
    rw [hr1.len, hs1.len] at hmn
    have hp := hr1.ext hw1
    have hq := hs1.ext hw1
    go_wp2_with (at_make; refine Hid.out ?_)
    refine hid ?_
    refine wpList_mk _ rfl _ _ 22 rfl 68 (.int .u32 0) 4 Try.underlying22 Try.infoU32 rfl .i64 .i64 _ _ n1 rfl rfl (by omega) (by omega) (by omega) (by unfold maxLen; omega) fun w2 hblk hbelow hlt => ?_
    obtain ⟨G, hG⟩ : ∃ G, G = w1.heap.size := ⟨_, rfl⟩
    rw [← hG] at hblk hlt hbelow ⊢
    have HG := hid hG; clear hG
    rw [← ints_replicate] at hblk
    go_wp2_with fail
    go_loopw [7, 24] (fun s7 s24 wr => ∃ (k cy : Nat) (os : List Nat), k ≤ n1 ∧ s24 = .int .i64 k ∧ s7 = .int .u64 cy ∧ cy ≤ 1 ∧ os.length = n1 ∧ (∀ o ∈ os, o < B32) ∧ Blk wr G 68 (ints .u32 os) ∧ Below G w1 wr ∧
        valB B32 (os.take k) + valB B32 ((limbs (val ys)).take k) = valB B32 ((limbs (val xs)).take k) + B32 ^ k * cy) (fun _ s24 _ => n1 - (intOf s24).toNat)
    case atStart => exact ⟨0, 0, List.replicate n1 0, Nat.zero_le _, rfl, rfl, by omega, by simp, (fun o ho => by have := (List.mem_replicate.1 ho).2; subst this; decide), hblk, hbelow, by simp [valB]⟩
    case round =>
      obtain ⟨k, cy, os, hk, rfl, rfl, hcy, hol, hoB, hb, hbe, hv⟩ := hrel
      have HV := hid hv; have HOL := hid hol; clear hv hol hblk hbelow
      have hb0 := hb.lt
      by_cases hkn : k < n1
      · obtain ⟨b1, off1, x, rfl, hx, hxB, hcx⟩ := (hp.ext (by rw [← HG.out]; exact hbe)).at hkn
        have hcell := hb.cell k (by rw [ints_length, HOL.out]; omega)
        have hfree := hb.free k
        have hx' : x < 4294967296 := hxB
        have Hx := hid hx; clear hx hxB
        by_cases hkq : k < m1
        · obtain ⟨b2, off2, y, rfl, hy, hyB, hcy2⟩ := (hq.ext (by rw [← HG.out]; exact hbe)).at hkq
          have hy' : y < 4294967296 := hyB
          have Hy := hid hy; clear hy hyB
          obtain ⟨d1, b, hd1, hb1, e1, e2, e3⟩ := sub_wrap x cy y hx' hcy hy'
          have E1 := hid e1; have E2 := hid e2; have E3 := hid e3; clear e1 e2 e3
          go_wp2
          rw [E1.out, E2.out]
          go_roundw
          case rel =>
            have hv := hb.set k (.int .u32 (d1 : Int))
            rw [ints_set] at hv
            exact ⟨k + 1, b, os.set k d1, by omega, by go_num, rfl, hb1, by rw [List.length_set]; exact HOL.out, mem_set_lt hoB hd1 k, hv, hbe.setCell (Nat.le_refl _) _, sub_step (by rw [HOL.out]; omega) HV.out (valB_take_some _ Hx.out) (valB_take_some _ Hy.out) E3.out⟩
          case measure => simp [intOf]; omega
        · have hql := hq.len
          have HQL := hid hql; clear hql
          obtain ⟨d1, b, hd1, hb1, e1, e2, e3⟩ := sub_wrap0 x cy hx' hcy
          have E1 := hid e1; have E2 := hid e2; have E3 := hid e3; clear e1 e2 e3
          go_wp2
          rw [E1.out, E2.out]
          go_roundw
          case rel =>
            have hv := hb.set k (.int .u32 (d1 : Int))
            rw [ints_set] at hv
            exact ⟨k + 1, b, os.set k d1, by omega, by go_num, rfl, hb1, by rw [List.length_set]; exact HOL.out, mem_set_lt hoB hd1 k, hv, hbe.setCell (Nat.le_refl _) _, sub_step (by rw [HOL.out]; omega) HV.out (valB_take_some _ Hx.out) (by rw [valB_take_none _ (by rw [HQL.out]; omega)]; simp) E3.out⟩
          case measure => simp [intOf]; omega
      · obtain rfl : k = n1 := by omega
        go_wp2_with fail
        have hrow := hb.rw hoB
        rw [HOL.out] at hrow
        refine (cut_any _ _ _ _ _ (by omega) hrow).mono ?_
        rintro e w' ⟨r1, rfl, hr1', hres, rfl⟩
        have hown := hb.own (base := G) (n := k) (Nat.le_refl _) (by rw [ints_length, HOL.out]; exact Nat.le_refl _)
        go_wp2
        go_ret2
        refine ⟨_, _, _, by rw [HD.out]; rfl, ?_, (hown.mono (by rw [HG.out]; exact hw1.size)), hw1.trans (hbe.mono (by rw [HG.out]; exact hw1.size))⟩
        have hval : val os = val xs - val ys := by
          have h2 := HV.out
          rw [valB_take_all _ hp.len, List.take_of_length_le (l := limbs (val ys)) (by rw [hq.len]; exact hmn), valB_take_all _ HOL.out] at h2
          have h3 := val_lt hoB
          rw [HOL.out] at h3
          change val os + val (limbs (val ys)) = val (limbs (val xs)) + _ at h2
          rw [val_limbs, val_limbs] at h2
          have : cy = 0 ∨ cy = 1 := by omega
          rcases this with rfl | rfl
          · omega
          · rw [Nat.mul_one] at h2; omega
        rw [← hval]; exact hres

end Go.Proofs.Ytkcagkcphobmfaa
