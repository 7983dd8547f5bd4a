/-
  WALKS: limb.Add, limb.Sub: what they return, as numbers; nothing that was there turns.
-/
import Derived.Test.YtpnoklbijfmoaaaJ1
import Derived.Deep.DeepCutAuto
import Derived.Test.YtpnoklbijfmoaaaJ0
import Derived.Deep.CutBlock
import Derived.Deep.RegionWith
set_option linter.unusedVariables false
set_option linter.unusedSimpArgs false
namespace Go.Proofs.Ytpnoklbijfmoaaa
open Go.RowKit

set_option maxHeartbeats 1000000 in
/-- Add: the sum. -/
theorem add_any (ao bo : Option Addr) (n c m d : Nat) (xs ys : List Nat) (w : World) (hn : n ≤ 1073741824) (hm : m ≤ 1073741824) (hr : Rw .u32 B32 w ao n c xs) (hs : Rw .u32 B32 w bo m d ys) :
    Calls Try.prog 40 #[.slice ao n c, .slice bo m d] w fun e w' => ∃ ro k c', e = .returned (.slice ro k c') ∧ Rw .u32 B32 w' ro k c' (limbs (val xs + val ys)) ∧ Own w.heap.size w' ro c' ∧ Below w.heap.size w w' := by
  go_enter Try.func40, Try.ntmps40
  go_wp2_with fail
  refine (cut_any ao n c xs _ (by omega) hr).mono ?_
  rintro e w' ⟨n1, rfl, hn1, hr1, rfl⟩
  go_wp2_with fail
  refine (cut_any bo m d ys _ (by omega) hs).mono ?_
  rintro e w' ⟨m1, rfl, hm1, hs1, rfl⟩
  go_upto_if 18 with (fail)
  go_cut [0, 1] (fun s0 s1 wx => ∃ po pn pc PL qo qn qc QL, s0 = .slice po pn pc ∧ s1 = .slice qo qn qc ∧ qn ≤ pn ∧ pn ≤ 1073741824 ∧ Rw .u32 B32 w po pn pc PL ∧ Rw .u32 B32 w qo qn qc QL ∧ val PL + val QL = val xs + val ys ∧ wx = w)
  case first =>
    have h1 := val_limbs (val xs)
    have h2 := val_limbs (val ys)
    by_cases hlt : n1 < m1
    · go_wp2_with fail
      go_meet
      exact ⟨_, _, _, _, _, _, _, _, rfl, rfl, by omega, by omega, hs1, hr1, by omega, rfl⟩
    · go_wp2_with fail
      go_meet
      exact ⟨_, _, _, _, _, _, _, _, rfl, rfl, by omega, by omega, hr1, hs1, by omega, rfl⟩
  case rest =>
    obtain ⟨po, pn, pc, PL, qo, qn, qc, QL, rfl, rfl, hle, hbig, hp, hq, hval, rfl⟩ := hcut
    have Hval := hid hval
    clear hval hr hs hr1 hs1 hn1 hm1
    go_wp2_with (at_make; refine Hid.out ?_)
    refine hid ?_
    refine wpList_mk _ rfl _ _ 23 rfl 24 (.int .u32 0) 4 Try.underlying23 Try.infoU32 rfl .i64 .i64 _ _ (pn + 1) rfl rfl (by omega) (by omega) (by omega) (by unfold maxLen; omega) fun w1 hblk hbelow hlt => ?_
    obtain ⟨G, hG⟩ : ∃ G, G = wc.heap.size := ⟨_, rfl⟩
    rw [← hG] at hblk hlt hbelow ⊢
    have HG := hid hG; clear hG
    rw [← ints_replicate] at hblk
    go_wp2_with fail
    go_loopw [6, 27] (fun s6 s27 wr => ∃ (k cy : Nat) (os : List Nat), k ≤ pn ∧ s27 = .int .i64 k ∧ s6 = .int .u64 cy ∧ cy ≤ 1 ∧ os.length = pn + 1 ∧ (∀ o ∈ os, o < B32) ∧ Blk wr G 24 (ints .u32 os) ∧ Below G wc wr ∧
        valB B32 (os.take k) + B32 ^ k * cy = valB B32 (PL.take k) + valB B32 (QL.take k)) (fun _ s27 _ => pn - (intOf s27).toNat)
    case atStart => exact ⟨0, 0, List.replicate (pn + 1) 0, Nat.zero_le _, rfl, rfl, by omega, by simp, (fun o ho => by simp at ho; subst ho; decide), hblk, hbelow, by simp [valB]⟩
    case round =>
      obtain ⟨k, cy, os, hk, rfl, rfl, hcy, hol, hoB, hb, hbe, hv⟩ := hrel
      have HV := hid hv; have HOL := hid hol; clear hv hol hblk hbelow
      have hb0 := hb.lt
      by_cases hkn : k < pn
      · obtain ⟨b1, off1, x, rfl, hx, hxB, hcx⟩ := (hp.ext (by rw [← HG.out]; exact hbe)).at hkn
        have hcell := hb.cell k (by rw [ints_length, HOL.out]; omega)
        have hfree := hb.free k
        have hx' : x < 4294967296 := hxB
        have Hx := hid hx; clear hx hxB
        by_cases hkq : k < qn
        · obtain ⟨b2, off2, y, rfl, hy, hyB, hcy2⟩ := (hq.ext (by rw [← HG.out]; exact hbe)).at hkq
          have hy' : y < 4294967296 := hyB
          have Hy := hid hy; clear hy hyB
          go_wp2
          go_roundw
          case rel =>
            have hv := hb.set k (.int .u32 (((x + cy + y) % 4294967296 : Nat) : Int))
            rw [ints_set] at hv
            refine ⟨k + 1, (x + cy + y) / 4294967296, os.set k ((x + cy + y) % 4294967296), by omega, by go_num, by go_num, by omega, by rw [List.length_set]; exact HOL.out, mem_set_lt hoB (Nat.mod_lt _ (by decide)) k, ?_, ?_, ?_⟩
            · have e : ((x : Int) + cy + y) % 4294967296 = (((x + cy + y) % 4294967296 : Nat) : Int) := by omega
              rw [e]; exact hv
            · exact hbe.setCell (Nat.le_refl _) _
            · exact add_step (by rw [HOL.out]; omega) HV.out (valB_take_some _ Hx.out) (valB_take_some _ Hy.out)
          case measure => simp [intOf]; omega
        · have hql := hq.len
          have HQL := hid hql; clear hql
          go_wp2
          go_roundw
          case rel =>
            have hv := hb.set k (.int .u32 (((x + cy + 0) % 4294967296 : Nat) : Int))
            rw [ints_set] at hv
            refine ⟨k + 1, (x + cy + 0) / 4294967296, os.set k ((x + cy + 0) % 4294967296), by omega, by go_num, by go_num, by omega, by rw [List.length_set]; exact HOL.out, mem_set_lt hoB (Nat.mod_lt _ (by decide)) k, ?_, ?_, ?_⟩
            · have e : ((x : Int) + cy) % 4294967296 = (((x + cy + 0) % 4294967296 : Nat) : Int) := by omega
              rw [e]; exact hv
            · exact hbe.setCell (Nat.le_refl _) _
            · exact add_step (by rw [HOL.out]; omega) HV.out (valB_take_some _ Hx.out) (by rw [valB_take_none _ (by rw [HQL.out]; omega)]; simp)
          case measure => simp [intOf]; omega
      · obtain rfl : k = pn := by omega
        have hcell := hb.cell k (by rw [ints_length, HOL.out]; omega)
        have hfree := hb.free k
        go_wp2_with fail
        have hv := hb.set k (.int .u32 (cy : Int))
        rw [ints_set] at hv
        have hlt : ∀ x ∈ os.set k cy, x < B32 := mem_set_lt hoB (by show cy < 4294967296; omega) k
        have hrow := hv.rw hlt
        rw [List.length_set, HOL.out] at hrow
        refine (cut_any _ _ _ _ _ (by omega) hrow).mono ?_
        rintro e w' ⟨r1, rfl, hr1, hres, rfl⟩
        have hown := hv.own (base := G) (n := k + 1) (Nat.le_refl _) (by rw [ints_length, List.length_set, HOL.out]; exact Nat.le_refl _)
        go_wp2
        go_ret
        refine ⟨_, _, _, rfl, ?_, by rw [← HG.out]; exact hown, by rw [← HG.out]; exact hbe.setCell (Nat.le_refl _) _⟩
        have hval : val (os.set k cy) = val xs + val ys := by
          have h1 := valB_take_set B32 os k cy (by rw [HOL.out]; omega)
          rw [valB_take_all _ (by rw [List.length_set, HOL.out])] at h1
          have h2 := HV.out
          rw [valB_take_all _ hp.len, List.take_of_length_le (l := QL) (by rw [hq.len]; exact hle)] at h2
          rw [← Hval.out]; unfold val; omega
        rw [← hval]; exact hres

set_option maxHeartbeats 1000000 in
/-- Sub: the difference; nil where it is below 0. -/
theorem sub_any (ao bo : Option Addr) (n c m d : Nat) (xs ys : List Nat) (w : World) (hn : n ≤ 1073741824) (hm : m ≤ 1073741824) (hr : Rw .u32 B32 w ao n c xs) (hs : Rw .u32 B32 w bo m d ys) :
    Calls Try.prog 41 #[.slice ao n c, .slice bo m d] w fun e w' => ∃ ro k c', e = .returned (.tuple #[.slice ro k c', .bool (decide (val ys ≤ val xs))]) ∧ Rw .u32 B32 w' ro k c' (limbs (val xs - val ys)) ∧ Own w.heap.size w' ro c' ∧ Below w.heap.size w w' := by
  go_enter Try.func41, Try.ntmps41
  go_wp2_with fail
  refine (cut_any ao n c xs _ (by omega) hr).mono ?_
  rintro e w' ⟨n1, rfl, hn1, hr1, rfl⟩
  go_wp2_with fail
  refine (cut_any bo m d ys _ (by omega) hs).mono ?_
  rintro e w' ⟨m1, rfl, hm1, hs1, rfl⟩
  go_wp2_with fail
  refine (cmp_any _ _ _ _ _ _ _ _ _ (by omega) (by omega) hr1 hs1).mono ?_
  rintro e w1 ⟨rfl, hw1⟩
  rw [val_limbs, val_limbs]
  obtain ⟨z, hz⟩ : ∃ z, z = cmpZ (val xs) (val ys) := ⟨_, rfl⟩
  rw [← hz]
  by_cases hlt : val xs < val ys
  · have hz0 : z < 0 := by rw [hz, cmpZ, if_pos (by omega)]; decide
    clear hz
    have hdec : decide (val ys ≤ val xs) = false := by simpa using hlt
    have HD := hid hdec; clear hdec
    have hsub : val xs - val ys = 0 := by omega
    have HS := hid hsub; clear hsub
    go_wp2
    go_ret2
    exact ⟨_, _, _, by rw [HD.out]; rfl, by rw [HS.out]; exact Rw.nil _ _ _, Own.nil _ _ _, hw1⟩
  · have hz0 : 0 ≤ z := by rw [hz, cmpZ, if_neg (by omega)]; split <;> decide
    clear hz
    have hdec : decide (val ys ≤ val xs) = true := by simpa using Nat.le_of_not_lt hlt
    have HD := hid hdec; clear hdec
    have hle := Nat.le_of_not_lt hlt; clear hlt
    have hmn := limbs_mono hle
    rw [hr1.len, hs1.len] at hmn
    have hp := hr1.ext hw1
    have hq := hs1.ext hw1
    go_wp2_with (at_make; refine Hid.out ?_)
    refine hid ?_
    refine wpList_mk _ rfl _ _ 23 rfl 24 (.int .u32 0) 4 Try.underlying23 Try.infoU32 rfl .i64 .i64 _ _ n1 rfl rfl (by omega) (by omega) (by omega) (by unfold maxLen; omega) fun w2 hblk hbelow hlt => ?_
    obtain ⟨G, hG⟩ : ∃ G, G = w1.heap.size := ⟨_, rfl⟩
    rw [← hG] at hblk hlt hbelow ⊢
    have HG := hid hG; clear hG
    rw [← ints_replicate] at hblk
    go_wp2_with fail
    go_loopw [7, 24] (fun s7 s24 wr => ∃ (k cy : Nat) (os : List Nat), k ≤ n1 ∧ s24 = .int .i64 k ∧ s7 = .int .u64 cy ∧ cy ≤ 1 ∧ os.length = n1 ∧ (∀ o ∈ os, o < B32) ∧ Blk wr G 24 (ints .u32 os) ∧ Below G w1 wr ∧
        valB B32 (os.take k) + valB B32 ((limbs (val ys)).take k) = valB B32 ((limbs (val xs)).take k) + B32 ^ k * cy) (fun _ s24 _ => n1 - (intOf s24).toNat)
    case atStart => exact ⟨0, 0, List.replicate n1 0, Nat.zero_le _, rfl, rfl, by omega, by simp, (fun o ho => by have := (List.mem_replicate.1 ho).2; subst this; decide), hblk, hbelow, by simp [valB]⟩
    case round =>
      obtain ⟨k, cy, os, hk, rfl, rfl, hcy, hol, hoB, hb, hbe, hv⟩ := hrel
      have HV := hid hv; have HOL := hid hol; clear hv hol hblk hbelow
      have hb0 := hb.lt
      by_cases hkn : k < n1
      · obtain ⟨b1, off1, x, rfl, hx, hxB, hcx⟩ := (hp.ext (by rw [← HG.out]; exact hbe)).at hkn
        have hcell := hb.cell k (by rw [ints_length, HOL.out]; omega)
        have hfree := hb.free k
        have hx' : x < 4294967296 := hxB
        have Hx := hid hx; clear hx hxB
        by_cases hkq : k < m1
        · obtain ⟨b2, off2, y, rfl, hy, hyB, hcy2⟩ := (hq.ext (by rw [← HG.out]; exact hbe)).at hkq
          have hy' : y < 4294967296 := hyB
          have Hy := hid hy; clear hy hyB
          obtain ⟨d1, b, hd1, hb1, e1, e2, e3⟩ := sub_wrap x cy y hx' hcy hy'
          have E1 := hid e1; have E2 := hid e2; have E3 := hid e3; clear e1 e2 e3
          go_wp2
          rw [E1.out, E2.out]
          go_roundw
          case rel =>
            have hv := hb.set k (.int .u32 (d1 : Int))
            rw [ints_set] at hv
            exact ⟨k + 1, b, os.set k d1, by omega, by go_num, rfl, hb1, by rw [List.length_set]; exact HOL.out, mem_set_lt hoB hd1 k, hv, hbe.setCell (Nat.le_refl _) _, sub_step (by rw [HOL.out]; omega) HV.out (valB_take_some _ Hx.out) (valB_take_some _ Hy.out) E3.out⟩
          case measure => simp [intOf]; omega
        · have hql := hq.len
          have HQL := hid hql; clear hql
          obtain ⟨d1, b, hd1, hb1, e1, e2, e3⟩ := sub_wrap0 x cy hx' hcy
          have E1 := hid e1; have E2 := hid e2; have E3 := hid e3; clear e1 e2 e3
          go_wp2
          rw [E1.out, E2.out]
          go_roundw
          case rel =>
            have hv := hb.set k (.int .u32 (d1 : Int))
            rw [ints_set] at hv
            exact ⟨k + 1, b, os.set k d1, by omega, by go_num, rfl, hb1, by rw [List.length_set]; exact HOL.out, mem_set_lt hoB hd1 k, hv, hbe.setCell (Nat.le_refl _) _, sub_step (by rw [HOL.out]; omega) HV.out (valB_take_some _ Hx.out) (by rw [valB_take_none _ (by rw [HQL.out]; omega)]; simp) E3.out⟩
          case measure => simp [intOf]; omega
      · obtain rfl : k = n1 := by omega
        go_wp2_with fail
        have hrow := hb.rw hoB
        rw [HOL.out] at hrow
        refine (cut_any _ _ _ _ _ (by omega) hrow).mono ?_
        rintro e w' ⟨r1, rfl, hr1', hres, rfl⟩
        have hown := hb.own (base := G) (n := k) (Nat.le_refl _) (by rw [ints_length, HOL.out]; exact Nat.le_refl _)
        go_wp2
        go_ret2
        refine ⟨_, _, _, by rw [HD.out]; rfl, ?_, (hown.mono (by rw [HG.out]; exact hw1.size)), hw1.trans (hbe.mono (by rw [HG.out]; exact hw1.size))⟩
        have hval : val os = val xs - val ys := by
          have h2 := HV.out
          rw [valB_take_all _ hp.len, List.take_of_length_le (l := limbs (val ys)) (by rw [hq.len]; exact hmn), valB_take_all _ HOL.out] at h2
          have h3 := val_lt hoB
          rw [HOL.out] at h3
          change val os + val (limbs (val ys)) = val (limbs (val xs)) + _ at h2
          rw [val_limbs, val_limbs] at h2
          have : cy = 0 ∨ cy = 1 := by omega
          rcases this with rfl | rfl
          · omega
          · rw [Nat.mul_one] at h2; omega
        rw [← hval]; exact hres

end Go.Proofs.Ytpnoklbijfmoaaa


/-
  WALKS: limb.Mul, limb.one: what they return, as numbers; nothing that was there turns.
-/
set_option linter.unusedVariables false
set_option linter.unusedSimpArgs false
namespace Go.Proofs.Ytpnoklbijfmoaaa
open Go.RowKit

/-- One digit of a row's product. -/
theorem mul_step {B k j cy x y o R V : Nat} {ps Q : List Nat} (ho : ps[k + j]? = some o) (hv : valB B ps + B ^ (k + j) * cy = R + B ^ k * (x * V))
    (hQ : valB B (Q.take (j + 1)) = V + B ^ j * y) :
    valB B (ps.set (k + j) ((x * y + o + cy) % B)) + B ^ (k + (j + 1)) * ((x * y + o + cy) / B) = R + B ^ k * (x * valB B (Q.take (j + 1))) := by
  have h1 := valB_set B ho ((x * y + o + cy) % B)
  have h2 := pow_step B (k + j) (x * y + o + cy)
  rw [Nat.mul_add, Nat.mul_add] at h2
  have h3 : B ^ k * (x * (V + B ^ j * y)) = B ^ k * (x * V) + B ^ (k + j) * (x * y) := by rw [Nat.pow_add]; grind
  rw [hQ, h3, ← Nat.add_assoc]
  omega

theorem mul_boundZ (x y : Nat) (hx : x < 4294967296) (hy : y < 4294967296) : (x : Int) * (y : Int) ≤ 18446744065119617025 ∧ (0 : Int) ≤ (x : Int) * (y : Int) := by
  have h := Nat.mul_le_mul (show x ≤ 4294967295 by omega) (show y ≤ 4294967295 by omega)
  rw [← Int.natCast_mul]
  omega

theorem mul_bound (x y o c : Nat) (hx : x < 4294967296) (hy : y < 4294967296) (ho : o < 4294967296) (hc : c < 4294967296) : x * y + o + c < 4294967296 * 4294967296 ∧ x * y ≤ 18446744065119617025 := by
  have h := Nat.mul_le_mul (show x ≤ 4294967295 by omega) (show y ≤ 4294967295 by omega)
  omega

set_option maxHeartbeats 1000000 in
/-- one: a row over a limb above 0. -/
theorem one_any (ao : Option Addr) (n c : Nat) (xs : List Nat) (v : Nat) (w : World) (hn : n ≤ 1073741824) (hv0 : 0 < v) (hvB : v < 4294967296) (hr : Rw .u32 B32 w ao n c xs) :
    Calls Try.prog 35 #[.slice ao n c, .int .u32 v] w fun e w' => ∃ ro k c', e = .returned (.tuple #[.slice ro k c', .int .u32 ((val xs % v : Nat) : Int)]) ∧ Rw .u32 B32 w' ro k c' (limbs (val xs / v)) ∧ Own w.heap.size w' ro c' ∧ Below w.heap.size w w' := by
  have hvne : ((v : Int) == 0) = false := by rw [beq_eq_false_iff_ne]; omega
  go_enter Try.func35, Try.ntmps35
  go_wp2_with (at_make; refine Hid.out ?_)
  refine hid ?_
  refine wpList_mk _ rfl _ _ 23 rfl 24 (.int .u32 0) 4 Try.underlying23 Try.infoU32 rfl .i64 .i64 _ _ n rfl rfl (by omega) (by omega) (by omega) (by unfold maxLen; omega) fun w2 hblk hbelow hlt => ?_
  obtain ⟨G, hG⟩ : ∃ G, G = w.heap.size := ⟨_, rfl⟩
  rw [← hG] at hblk hlt hbelow ⊢
  have HG := hid hG; clear hG
  rw [← ints_replicate] at hblk
  have hpl := hr.len
  have HPL := hid hpl; clear hpl
  go_wp2_with fail
  go_loopw [7, 8] (fun s7 s8 wr => ∃ (k r : Nat) (os : List Nat), k ≤ n ∧ s8 = .int .i64 ((k : Int) - 1) ∧ s7 = .int .u64 r ∧ r < v ∧ os.length = n ∧ (∀ o ∈ os, o < B32) ∧ Blk wr G 24 (ints .u32 os) ∧ Below G w wr ∧
      valB B32 (xs.drop k) = v * valB B32 (os.drop k) + r) (fun _ s8 _ => (intOf s8 + 1).toNat)
  case atStart => exact ⟨n, 0, List.replicate n 0, Nat.le_refl _, rfl, rfl, hv0, by simp, (fun o ho => by have := (List.mem_replicate.1 ho).2; subst this; decide), hblk, hbelow, by rw [List.drop_of_length_le (Nat.le_of_eq HPL.out), List.drop_of_length_le (by simp)]; rfl⟩
  case round =>
    obtain ⟨k, r, os, hk, rfl, rfl, hrv, hol, hoB, hb, hbe, hv⟩ := hrel
    have HV := hid hv; have HOL := hid hol; clear hv hol hblk hbelow
    have hb0 := hb.lt
    by_cases h0 : k = 0
    · subst h0
      have hv := HV.out
      rw [List.drop_zero, List.drop_zero] at hv
      have HV2 := hid hv; clear hv HV
      go_wp2_with fail
      have hrow := hb.rw hoB
      rw [HOL.out] at hrow
      refine (cut_any _ _ _ _ _ (by omega) hrow).mono ?_
      rintro e w' ⟨r1, rfl, hr1', hres, rfl⟩
      have hown := hb.own (base := G) (n := n) (Nat.le_refl _) (by rw [ints_length, HOL.out]; exact Nat.le_refl _)
      have hr4 : r < 4294967296 := by omega
      go_wp2
      go_ret2
      have hmod : val xs % v = r := by
        have h2 := HV2.out
        unfold val; rw [h2, Nat.mul_add_mod, Nat.mod_eq_of_lt hrv]
      have hdiv : val xs / v = val os := by
        have h2 := HV2.out
        unfold val; rw [h2, Nat.mul_add_div hv0, Nat.div_eq_of_lt hrv, Nat.add_zero]
      exact ⟨_, _, _, by rw [hmod]; rfl, by rw [hdiv]; exact hres, by rw [← HG.out]; exact hown, by rw [← HG.out]; exact hbe⟩
    · obtain ⟨j, rfl⟩ : ∃ j, k = j + 1 := ⟨k - 1, by omega⟩
      obtain ⟨b1, off1, x, rfl, hx, hxB, hcx⟩ := (hr.ext (by rw [← HG.out]; exact hbe)).at (show j < n by omega)
      have hx' : x < 4294967296 := hxB
      have hr' : r < 4294967296 := by omega
      have Hx := hid hx; clear hx hxB
      have hcell := hb.cell j (by rw [ints_length, HOL.out]; omega)
      have hfree := hb.free j
      obtain ⟨s, hs⟩ : ∃ s : Nat, s = r * 4294967296 + x := ⟨_, rfl⟩
      have hor := or_join r x hr' hx'
      rw [← hs] at hor
      have hqB : s / v < 4294967296 := by
        rw [Nat.div_lt_iff_lt_mul hv0, hs]
        have := Nat.mul_le_mul_right 4294967296 (show r + 1 ≤ v from hrv)
        rw [Nat.add_mul, Nat.mul_comm v] at this
        omega
      obtain ⟨q, hq⟩ : ∃ q : Nat, q = s / v := ⟨_, rfl⟩
      obtain ⟨t, ht⟩ : ∃ t : Nat, t = s % v := ⟨_, rfl⟩
      have htv : t < v := by rw [ht]; exact Nat.mod_lt _ hv0
      have hqv : v * q + t = s := by rw [hq, ht]; exact Nat.div_add_mod s v
      have hq' : (s : Int) / (v : Int) = (q : Int) := by rw [hq]; rfl
      have ht' : (s : Int) % (v : Int) = (t : Int) := by rw [ht]; rfl
      rw [← hq] at hqB
      have HS := hid hs; have HQV := hid hqv; clear hs hqv hq ht
      go_wp2
      go_region
      go_wp2
      rw [ht']
      go_roundw
      case rel =>
        have hv := hb.set j (.int .u32 (q : Int))
        rw [ints_set] at hv
        exact ⟨j, t, os.set j q, by omega, rfl, rfl, htv, by rw [List.length_set]; exact HOL.out, mem_set_lt hoB hqB j, hv.drew, (hbe.setCell (Nat.le_refl _) _).drew, small_step (by rw [HOL.out]; omega) Hx.out HV.out HS.out HQV.out⟩
      case measure => simp [intOf]

end Go.Proofs.Ytpnoklbijfmoaaa

/-
  WALKS: limb.Shl, limb.Shr, limb.Bits, limb.wide: what they return, as numbers; nothing that was there turns.
-/
set_option linter.unusedVariables false
set_option linter.unusedSimpArgs false
namespace Go.Proofs.Ytpnoklbijfmoaaa
open Go.RowKit

/-- A shift's number: from 0 to 65536. -/
def clampN (n : Int) : Nat := (max 0 (min n 65536)).toNat

set_option maxHeartbeats 1000000 in
/-- Shl: times 2 to the n. -/
theorem shl_any (ao : Option Addr) (n c : Nat) (xs : List Nat) (z : Int) (w : World) (hn : n ≤ 1073741824) (hr : Rw .u32 B32 w ao n c xs) :
    Calls Try.prog 43 #[.slice ao n c, .int .i64 z] w fun e w' => ∃ ro k c', e = .returned (.slice ro k c') ∧ Rw .u32 B32 w' ro k c' (limbs (val xs * 2 ^ clampN z)) ∧ Own w.heap.size w' ro c' ∧ Below w.heap.size w w' := by
  go_enter Try.func43, Try.ntmps43
  go_wp2_with fail
  refine (cut_any ao n c xs _ (by omega) hr).mono ?_
  rintro e w' ⟨n1, rfl, hn1, hp, rfl⟩
  go_upto_region 2 with (fail)
  go_cut [1] (fun s1 wx => s1 = .int .i64 (clampN z : Nat) ∧ wx = w)
  case first =>
    by_cases hz0 : z ≤ 0
    · go_wp2_with fail
      go_meet
      exact ⟨by rw [show clampN z = 0 by unfold clampN; omega]; rfl, rfl⟩
    · by_cases hz1 : 65536 < z
      · go_wp2_with fail
        go_meet
        exact ⟨by rw [show clampN z = 65536 by unfold clampN; omega]; rfl, rfl⟩
      · go_wp2_with fail
        go_meet
        exact ⟨by rw [show ((clampN z : Nat) : Int) = z by unfold clampN; omega], rfl⟩
  case rest =>
    obtain ⟨rfl, rfl⟩ := hcut
    have hzB : clampN z ≤ 65536 := by unfold clampN; omega
    obtain ⟨zn, hzn⟩ : ∃ zn, zn = clampN z := ⟨_, rfl⟩
    rw [← hzn] at hzB ⊢
    have HZN := hid hzn; clear hzn
    obtain ⟨kk, hkk⟩ : ∃ kk, kk = zn / 32 := ⟨_, rfl⟩
    obtain ⟨ss, hss⟩ : ∃ ss, ss = zn % 32 := ⟨_, rfl⟩
    have hkkB : kk ≤ 2048 := by omega
    have hssB : ss < 32 := by omega
    have hzks : zn = 32 * kk + ss := by omega
    have hd1 : (zn : Int) / 32 = (kk : Int) := by omega
    have hd2 : (zn : Int) % 32 = (ss : Int) := by omega
    have HZ := hid hzks; clear hkk hss hzks
    by_cases h0 : n1 = 0
    · subst h0
      go_wp2
      go_ret
      have hx0 : val xs = 0 := limbs_eq_nil.1 (List.eq_nil_of_length_eq_zero hp.len)
      exact ⟨_, _, _, rfl, by rw [hx0, Nat.zero_mul]; exact Rw.nil _ _ _, Own.nil _ _ _, Below.refl _ _⟩
    · have hn0 : ((n1 : Int) == 0) = false := by rw [beq_eq_false_iff_ne]; omega
      go_wp2_with (at_make; refine Hid.out ?_)
      refine hid ?_
      refine wpList_mk _ rfl _ _ 23 rfl 24 (.int .u32 0) 4 Try.underlying23 Try.infoU32 rfl .i64 .i64 _ _ (n1 + kk + 1) rfl rfl (by omega) (by omega) (by omega) (by unfold maxLen; omega) fun w2 hblk hbelow hlt => ?_
      obtain ⟨G, hG⟩ : ∃ G, G = wc.heap.size := ⟨_, rfl⟩
      rw [← hG] at hblk hlt hbelow ⊢
      have HG := hid hG; clear hG
      rw [← ints_replicate] at hblk
      generalize hA : limbs (val xs) = P at *
      have HA := hid hA; clear hA hr hd1 hd2
      have hpl := hp.len
      have HPL := hid hpl; clear hpl
      go_wp2_with fail
      go_loopw [32] (fun s32 wr => ∃ (k : Nat) (os : List Nat), k ≤ n1 ∧ s32 = .int .i64 k ∧ os.length = n1 + kk + 1 ∧ (∀ o ∈ os, o < B32) ∧ (∃ o, os[k + kk]? = some o ∧ o < 2 ^ ss) ∧ (∀ j, k + kk < j → j < n1 + kk + 1 → os[j]? = some 0) ∧ Blk wr G 24 (ints .u32 os) ∧ Below G wc wr ∧
          valB B32 os = B32 ^ kk * (2 ^ ss * valB B32 (P.take k))) (fun s32 _ => n1 - (intOf s32).toNat)
      case atStart => exact ⟨0, List.replicate (n1 + kk + 1) 0, Nat.zero_le _, rfl, by simp, (fun o ho => by have := (List.mem_replicate.1 ho).2; subst this; decide), ⟨0, by rw [List.getElem?_replicate, if_pos (by omega)], Nat.two_pow_pos _⟩, (fun j _ hj => by simp [hj]), hblk, hbelow, by simp [valB, valB_replicate_zero]⟩
      case round =>
        obtain ⟨k, os, hk, rfl, hol, hoB, ⟨o, ho, hoS⟩, hz, hb, hbe, hv⟩ := hrel
        have HV := hid hv; have HOL := hid hol; have HZ0 := hid hz; have Ho := hid ho; have HoS := hid hoS; clear hv hol hblk hbelow hz ho hoS
        have hb0 := hb.lt
        by_cases hkn : k < n1
        · obtain ⟨b1, off1, x, rfl, hx, hxB, hcx⟩ := (hp.ext (by rw [← HG.out]; exact hbe)).at hkn
          have hx' : x < 4294967296 := hxB
          have Hx := hid hx; clear hx hxB
          have hcell := hb.cell (k + kk) (by rw [ints_length, HOL.out]; omega)
          have hg : (ints .u32 os)[k + kk]'(by rw [ints_length, HOL.out]; omega) = .int .u32 (o : Int) := by
            obtain ⟨h1, h2⟩ := List.getElem?_eq_some_iff.1 Ho.out
            rw [ints_get, h2]
          rw [hg] at hcell
          clear hg
          have hfree := hb.free (k + kk)
          have hcell2 := hb.cell (k + kk + 1) (by rw [ints_length, HOL.out]; omega)
          have hfree2 := hb.free (k + kk + 1)
          obtain ⟨v, t, hi, e1, e2, e3, ht, hhi, hhiS, hvB, e4⟩ := shl_parts x ss o hx' hssB HoS.out
          have E4 := hid e4; have HHS := hid hhiS; clear e4 hhiS
          go_wp2
          go_roundw
          case rel =>
            have hv1 := (hb.set (k + kk) (.int .u32 (t : Int))).set (k + kk + 1) (.int .u32 (hi : Int))
            rw [ints_set, ints_set] at hv1
            refine ⟨k + 1, (os.set (k + kk) t).set (k + kk + 1) hi, by omega, by go_num, by rw [List.length_set, List.length_set]; exact HOL.out, mem_set_lt (mem_set_lt hoB ht _) hhi _, ⟨hi, ?_, HHS.out⟩, ?_, hv1, (hbe.setCell (Nat.le_refl _) _).setCell (Nat.le_refl _) _, ?_⟩
            · rw [show k + 1 + kk = k + kk + 1 by omega, List.getElem?_set_self (by rw [List.length_set, HOL.out]; omega)]
            · intro j h1 h2
              rw [List.getElem?_set_ne (by omega), List.getElem?_set_ne (by omega)]
              exact HZ0.out j (by omega) h2
            · exact shl_step Ho.out (HZ0.out _ (by omega) (by omega)) HV.out Hx.out E4.out
          case measure => simp [intOf]; omega
        · obtain rfl : k = n1 := by omega
          go_wp2_with fail
          have hrow := hb.rw hoB
          rw [HOL.out] at hrow
          refine (cut_any _ _ _ _ _ (by omega) hrow).mono ?_
          rintro e w' ⟨r1, rfl, hr1', hres, rfl⟩
          have hown := hb.own (base := G) (n := k + kk + 1) (Nat.le_refl _) (by rw [ints_length, HOL.out]; exact Nat.le_refl _)
          go_wp2
          go_ret
          refine ⟨_, _, _, rfl, ?_, by rw [← HG.out]; exact hown, by rw [← HG.out]; exact hbe⟩
          have hval : val os = val xs * 2 ^ zn := by
            have h2 := HV.out
            rw [valB_take_all _ HPL.out, ← HA.out] at h2
            change val os = _ * (_ * val (limbs (val xs))) at h2
            rw [val_limbs] at h2
            rw [h2, HZ.out, Nat.pow_add, Nat.pow_mul, show (2 : Nat) ^ 32 = B32 from rfl]
            grind
          rw [← HZN.out, ← hval]; exact hres

set_option maxHeartbeats 1000000 in
/-- Shr: over 2 to the n, rounded down. -/
theorem shr_any (ao : Option Addr) (n c : Nat) (xs : List Nat) (z : Int) (w : World) (hn : n ≤ 1073741824) (hr : Rw .u32 B32 w ao n c xs) :
    Calls Try.prog 39 #[.slice ao n c, .int .i64 z] w fun e w' => ∃ ro k c', e = .returned (.slice ro k c') ∧ Rw .u32 B32 w' ro k c' (limbs (val xs / 2 ^ clampN z)) ∧ Own w.heap.size w' ro c' ∧ Below w.heap.size w w' := by
  go_enter Try.func39, Try.ntmps39
  go_wp2_with fail
  refine (cut_any ao n c xs _ (by omega) hr).mono ?_
  rintro e w' ⟨n1, rfl, hn1, hp, rfl⟩
  go_upto_region 2 with (fail)
  go_cut [1] (fun s1 wx => s1 = .int .i64 (clampN z : Nat) ∧ wx = w)
  case first =>
    by_cases hz0 : z ≤ 0
    · go_wp2_with fail
      go_meet
      exact ⟨by rw [show clampN z = 0 by unfold clampN; omega]; rfl, rfl⟩
    · by_cases hz1 : 65536 < z
      · go_wp2_with fail
        go_meet
        exact ⟨by rw [show clampN z = 65536 by unfold clampN; omega]; rfl, rfl⟩
      · go_wp2_with fail
        go_meet
        exact ⟨by rw [show ((clampN z : Nat) : Int) = z by unfold clampN; omega], rfl⟩
  case rest =>
    obtain ⟨rfl, rfl⟩ := hcut
    have hzB : clampN z ≤ 65536 := by unfold clampN; omega
    obtain ⟨zn, hzn⟩ : ∃ zn, zn = clampN z := ⟨_, rfl⟩
    rw [← hzn] at hzB ⊢
    have HZN := hid hzn; clear hzn
    obtain ⟨kk, hkk⟩ : ∃ kk, kk = zn / 32 := ⟨_, rfl⟩
    obtain ⟨ss, hss⟩ : ∃ ss, ss = zn % 32 := ⟨_, rfl⟩
    have hkkB : kk ≤ 2048 := by omega
    have hssB : ss < 32 := by omega
    have hzks : zn = 32 * kk + ss := by omega
    have hd1 : (zn : Int) / 32 = (kk : Int) := by omega
    have hd2 : (zn : Int) % 32 = (ss : Int) := by omega
    have HZ := hid hzks; clear hkk hss hzks
    by_cases h0 : n1 ≤ kk
    · go_wp2
      go_ret
      have hx0 : val xs / 2 ^ clampN z = 0 := by
        rw [← HZN.out, HZ.out, Nat.pow_add, Nat.pow_mul]
        have h1 := val_lt hp.lt
        rw [val_limbs, hp.len] at h1
        have h2 : B32 ^ n1 ≤ B32 ^ kk := Nat.pow_le_pow_right (by decide) h0
        have h3 : B32 ^ kk * 1 ≤ B32 ^ kk * 2 ^ ss := Nat.mul_le_mul_left _ (Nat.two_pow_pos ss)
        exact Nat.div_eq_of_lt (by show val xs < B32 ^ kk * 2 ^ ss; omega)
      exact ⟨_, _, _, rfl, by rw [hx0]; exact Rw.nil _ _ _, Own.nil _ _ _, Below.refl _ _⟩
    · obtain ⟨l, hl⟩ : ∃ l, n1 = kk + l := ⟨n1 - kk, by omega⟩
      have hl0 : 0 < l := by omega
      subst hl
      go_wp2_with (at_make; refine Hid.out ?_)
      refine hid ?_
      refine wpList_mk _ rfl _ _ 23 rfl 24 (.int .u32 0) 4 Try.underlying23 Try.infoU32 rfl .i64 .i64 _ _ l rfl rfl (by omega) (by omega) (by omega) (by unfold maxLen; omega) fun w2 hblk hbelow hlt => ?_
      obtain ⟨G, hG⟩ : ∃ G, G = wc.heap.size := ⟨_, rfl⟩
      rw [← hG] at hblk hlt hbelow ⊢
      have HG := hid hG; clear hG
      rw [← ints_replicate] at hblk
      generalize hA : limbs (val xs) = P at *
      have HA := hid hA; clear hA hr hd1 hd2
      have hpl := hp.len
      have HPL := hid hpl; clear hpl
      go_wp2_with fail
      go_loopw [31] (fun s31 wr => ∃ (k : Nat) (os : List Nat), k ≤ l ∧ s31 = .int .i64 k ∧ os.length = l ∧ (∀ o ∈ os, o < B32) ∧ Blk wr G 24 (ints .u32 os) ∧ Below G wc wr ∧
          2 ^ ss * valB B32 (os.take k) + (P.drop kk).getD 0 0 % 2 ^ ss = valB B32 ((P.drop kk).take k) + B32 ^ k * ((P.drop kk).getD k 0 % 2 ^ ss)) (fun s31 _ => l - (intOf s31).toNat)
      case atStart => exact ⟨0, List.replicate l 0, Nat.zero_le _, rfl, by simp, (fun o ho => by have := (List.mem_replicate.1 ho).2; subst this; decide), hblk, hbelow, by simp [valB]⟩
      case round =>
        obtain ⟨k, os, hk, rfl, hol, hoB, hb, hbe, hv⟩ := hrel
        have HV := hid hv; have HOL := hid hol; clear hv hol hblk hbelow
        have hb0 := hb.lt
        by_cases hkn : k < l
        · obtain ⟨b1, off1, x, rfl, hx, hxB, hcx⟩ := (hp.ext (by rw [← HG.out]; exact hbe)).at (show k + kk < kk + l by omega)
          have hx' : x < 4294967296 := hxB
          have Hx := hid hx; clear hx hxB
          have hcell := hb.cell k (by rw [ints_length, HOL.out]; omega)
          have hfree := hb.free k
          by_cases hk1 : k + 1 < l
          · obtain ⟨y, hy, hyB, hcy⟩ := (hp.ext (by rw [← HG.out]; exact hbe)).cell (show k + kk + 1 < kk + l by omega)
            have hy' : y < 4294967296 := hyB
            have Hy := hid hy; clear hy hyB
            obtain ⟨q, e1, hq, e2⟩ := shr_parts x y ss hx' hy' hssB
            have E1 := hid e1; have E2 := hid e2; clear e1 e2
            go_wp2
            rw [E1.out]
            go_roundw
            case rel =>
              have hv := hb.set k (.int .u32 (q : Int))
              rw [ints_set] at hv
              refine ⟨k + 1, os.set k q, by omega, by go_num, by rw [List.length_set]; exact HOL.out, mem_set_lt hoB hq k, hv, hbe.setCell (Nat.le_refl _) _, ?_⟩
              refine shr_step (by rw [HOL.out]; omega) HV.out (x := x) (y := y) ?_ ?_ E2.out
              · rw [List.getElem?_drop, Nat.add_comm]; exact Hx.out
              · rw [List.getD_eq_getElem?_getD, List.getElem?_drop, show kk + (k + 1) = k + kk + 1 by omega, Hy.out]; rfl
            case measure => simp [intOf]; omega
          · obtain ⟨q, e1, hq, e2⟩ := shr_parts0 x ss hx'
            have E1 := hid e1; have E2 := hid e2; clear e1 e2
            go_wp2
            rw [E1.out]
            go_roundw
            case rel =>
              have hv := hb.set k (.int .u32 (q : Int))
              rw [ints_set] at hv
              refine ⟨k + 1, os.set k q, by omega, by go_num, by rw [List.length_set]; exact HOL.out, mem_set_lt hoB hq k, hv, hbe.setCell (Nat.le_refl _) _, ?_⟩
              refine shr_step (by rw [HOL.out]; omega) HV.out (x := x) (y := 0) ?_ ?_ E2.out
              · rw [List.getElem?_drop, Nat.add_comm]; exact Hx.out
              · rw [List.getD_eq_getElem?_getD, List.getElem?_drop, List.getElem?_eq_none (by rw [HPL.out]; omega)]; rfl
            case measure => simp [intOf]; omega
        · obtain rfl : k = l := by omega
          go_wp2_with fail
          have hrow := hb.rw hoB
          rw [HOL.out] at hrow
          refine (cut_any _ _ _ _ _ (by omega) hrow).mono ?_
          rintro e w' ⟨r1, rfl, hr1', hres, rfl⟩
          have hown := hb.own (base := G) (n := k) (Nat.le_refl _) (by rw [ints_length, HOL.out]; exact Nat.le_refl _)
          go_wp2
          go_ret
          refine ⟨_, _, _, rfl, ?_, by rw [← HG.out]; exact hown, by rw [← HG.out]; exact hbe⟩
          have hval : val os = val xs / 2 ^ zn := by
            have h2 := HV.out
            have hdl : (P.drop kk).length = k := by rw [List.length_drop, HPL.out]; omega
            rw [valB_take_all _ HOL.out, valB_take_all _ hdl, List.getD_eq_getElem?_getD (i := k), List.getElem?_eq_none (by omega)] at h2
            simp only [Option.getD_none, Nat.zero_mod, Nat.mul_zero, Nat.add_zero] at h2
            have h3 := valB_drop B32 P kk (by rw [HPL.out]; omega)
            have h4 : val P = val xs := by rw [← HA.out, val_limbs]
            have h5 : valB B32 (P.take kk) < B32 ^ kk := by
              have := valB_lt (B := B32) (xs := P.take kk) (fun x h => hp.lt x (List.mem_of_mem_take h))
              rwa [List.length_take, Nat.min_eq_left (by rw [HPL.out]; omega)] at this
            have h6 : (P.drop kk).getD 0 0 % 2 ^ ss < 2 ^ ss := Nat.mod_lt _ (Nat.two_pow_pos ss)
            rw [HZ.out, Nat.pow_add, Nat.pow_mul, show (2 : Nat) ^ 32 = B32 from rfl, ← Nat.div_div_eq_div_mul, ← h4]
            change val P = _ at h3
            rw [h3, Nat.add_mul_div_left _ _ (Nat.pow_pos (by decide)), Nat.div_eq_of_lt h5, Nat.zero_add, ← h2, Nat.mul_add_div (Nat.two_pow_pos ss), Nat.div_eq_of_lt h6]
            rfl
          rw [← HZN.out, ← hval]; exact hres

end Go.Proofs.Ytpnoklbijfmoaaa


/-
  WALKS: math/bits.Len32, LeadingZeros32, limb.Bits: how many binary digits.
-/
set_option linter.unusedVariables false
set_option linter.unusedSimpArgs false
namespace Go.Proofs.Ytpnoklbijfmoaaa
open Go.RowKit

/-- How many binary digits a number has. -/
def nbits (n : Nat) : Nat := if n = 0 then 0 else n.log2 + 1

theorem nbits_unique {n k : Nat} (h0 : 2 ^ k ≤ n) (h1 : n < 2 ^ (k + 1)) : nbits n = k + 1 := by
  have hp := Nat.two_pow_pos k
  have hn : n ≠ 0 := by omega
  rw [nbits, if_neg hn]
  have h2 : n.log2 < k + 1 := (Nat.log2_lt hn).2 h1
  have h3 : k ≤ n.log2 := (Nat.le_log2 hn).2 h0
  omega

theorem nbits_zero : nbits 0 = 0 := rfl

theorem nbits_lt (n : Nat) : n < 2 ^ nbits n := by
  rw [nbits]
  split
  · rename_i h; subst h; decide
  · exact Nat.lt_log2_self

theorem nbits_le {n : Nat} (h : n ≠ 0) : 2 ^ (nbits n - 1) ≤ n := by
  rw [nbits, if_neg h]; exact Nat.log2_self_le h

theorem nbits_pos {n : Nat} (h : n ≠ 0) : 0 < nbits n := by rw [nbits, if_neg h]; omega

/-- A number over a base of 2 to the s: its digits are s and those of the upper part. -/
theorem nbits_split {n s y l : Nat} (hl : l < 2 ^ s) (hy : y ≠ 0) (hn : n = l + 2 ^ s * y) : nbits n = s + nbits y := by
  have h1 := nbits_lt y
  have h2 := nbits_le hy
  have h3 := nbits_pos hy
  obtain ⟨b, hb⟩ : ∃ b, nbits y = b + 1 := ⟨nbits y - 1, by omega⟩
  rw [hb] at h1 h2 ⊢
  rw [Nat.add_sub_cancel] at h2
  refine nbits_unique (k := s + b) ?_ ?_
  · rw [Nat.pow_add]
    have := Nat.mul_le_mul_left (2 ^ s) h2
    omega
  · rw [Nat.add_assoc, Nat.pow_add]
    have := Nat.mul_le_mul_left (2 ^ s) (show y + 1 ≤ 2 ^ (b + 1) from h1)
    rw [Nat.mul_add] at this
    omega

theorem nbits_le_of_lt {n k : Nat} (h : n < 2 ^ k) : nbits n ≤ k := by
  by_cases h0 : n = 0
  · subst h0; simp [nbits]
  · have h1 := nbits_le h0
    have h2 : 2 ^ (nbits n - 1) < 2 ^ k := Nat.lt_of_le_of_lt h1 h
    have := (Nat.pow_lt_pow_iff_right (by decide)).1 h2
    omega

/-- A table of the digits' counts: the first 256 bytes of a string. -/
def tabOk (s : ByteArray) : Bool := (List.range 256).all fun y => (s.data[y]?).map (fun b => b.toNat) == some (nbits y)

theorem tab_at {s : ByteArray} (h : tabOk s = true) {y : Nat} (hy : y < 256) : ∃ b : UInt8, s[y]? = some b ∧ b.toNat = nbits y := by
  have h1 := List.all_eq_true.1 h y (by simpa using hy)
  simp only [beq_iff_eq, Option.map_eq_some_iff] at h1
  obtain ⟨b, h2, h3⟩ := h1
  exact ⟨b, h2, h3⟩

/-- An index into a constant string. -/
theorem wpList_tab {P : Program} (w : World) {ops : Array Oper} {rest : List Oper} {o : Oper} {a : Act} {Q : Exit → Act → World → Prop} (hgd : o.guard = none) (t : TypeId) (s : ByteArray) (x : Operand)
    (hop : o.op = .index t (.const (.string s)) x) (ht : P.underlying t = some .string) (k : IntKind) (y : Nat) (hx : a.eval x = .int k (y : Int)) (hy : y < 256) (htab : tabOk s = true)
    (h : wpList P ops Q rest (a.put o.dst (.int .u8 (nbits y : Nat))) w) : wpList P ops Q (o :: rest) a w := by
  obtain ⟨b, hb, hn⟩ := tab_at htab hy
  refine wpList_plain hgd fun K hK => ?_
  have hrun : (Instr.index t (.string s) (.int k (y : Int))).run P w = .ok (.int .u8 (nbits y : Nat)) w := by
    unfold Instr.index
    simp [run_underlying ht, asIntOf, hb, hn]
  unfold Oper.wp
  have he : a.eval (.const (.string s)) = .string s := rfl
  simp [execOp, hop, hx, he, hrun, Result.andThen]
  exact hK _ _ h

set_option maxRecDepth 100000 in
theorem len32_any (x : Nat) (w : World) (hx : x < 4294967296) :
    Calls Try.prog 42 #[.int .u32 (x : Int)] w fun e w' => e = .returned (.int .i64 (nbits x : Nat)) ∧ w' = w := by
  by_cases h1 : 65536 ≤ x
  · obtain ⟨y, hy⟩ : ∃ y : Nat, y = x / 65536 := ⟨_, rfl⟩
    have hyB : y < 65536 := by omega
    have hq : (x : Int) / 65536 = (y : Int) := by omega
    have HY := hid hy; clear hy
    have hb1 : decide ((65536 : Int) ≤ (x : Int)) = true := by rw [decide_eq_true_eq]; omega
    by_cases h2 : 256 ≤ y
    · obtain ⟨z, hz⟩ : ∃ z : Nat, z = y / 256 := ⟨_, rfl⟩
      have hzB : z < 256 := by omega
      have hq2 : (y : Int) / 256 = (z : Int) := by omega
      have HZ := hid hz; clear hz
      have hbits : nbits x = nbits z + 24 := by
        have := nbits_split (n := x) (s := 24) (y := z) (l := x % 16777216) (Nat.mod_lt _ (by decide)) (by have := HZ.out; omega) (by have h3 := HZ.out; have h4 := HY.out; show x = x % 16777216 + 16777216 * z; omega)
        omega
      have HB := hid hbits; clear hbits
      have hn9 : nbits z ≤ 8 := nbits_le_of_lt hzB
      go_enter Try.func42, Try.ntmps42
      go_wp2_with (with_reducible refine Hid.out (p := wpList _ _ _ ({ dst := some 16, op := _, type := _, pos := _, after := _, guard := _ } :: _) _ _) ?_)
      refine hid ?_
      refine wpList_tab _ rfl 9 _ _ rfl Try.underlying9 .u8 z rfl hzB (by decide +kernel) ?_
      go_wp2
      go_ret
      exact ⟨ret_int (by rw [HB.out]; simp; omega), rfl⟩
    · have hyB2 : y < 256 := by omega
      have hy0 : 0 < y := by omega
      have hb2 : decide ((256 : Int) ≤ (y : Int)) = false := by rw [decide_eq_false_iff_not]; omega
      have hbits : nbits x = nbits y + 16 := by
        have := nbits_split (n := x) (s := 16) (y := y) (l := x % 65536) (Nat.mod_lt _ (by decide)) (by omega) (by have h4 := HY.out; show x = x % 65536 + 65536 * y; omega)
        omega
      have HB := hid hbits; clear hbits
      have hn9 : nbits y ≤ 8 := nbits_le_of_lt hyB2
      go_enter Try.func42, Try.ntmps42
      go_wp2_with (with_reducible refine Hid.out (p := wpList _ _ _ ({ dst := some 16, op := _, type := _, pos := _, after := _, guard := _ } :: _) _ _) ?_)
      refine hid ?_
      refine wpList_tab _ rfl 9 _ _ rfl Try.underlying9 .u8 y rfl hyB2 (by decide +kernel) ?_
      go_wp2
      go_ret
      exact ⟨ret_int (by rw [HB.out]; simp; omega), rfl⟩
  · have hb1 : decide ((65536 : Int) ≤ (x : Int)) = false := by rw [decide_eq_false_iff_not]; omega
    by_cases h2 : 256 ≤ x
    · obtain ⟨z, hz⟩ : ∃ z : Nat, z = x / 256 := ⟨_, rfl⟩
      have hzB : z < 256 := by omega
      have hq2 : (x : Int) / 256 = (z : Int) := by omega
      have HZ := hid hz; clear hz
      have hb2 : decide ((256 : Int) ≤ (x : Int)) = true := by rw [decide_eq_true_eq]; omega
      have hbits : nbits x = nbits z + 8 := by
        have := nbits_split (n := x) (s := 8) (y := z) (l := x % 256) (Nat.mod_lt _ (by decide)) (by have := HZ.out; omega) (by have h3 := HZ.out; show x = x % 256 + 256 * z; omega)
        omega
      have HB := hid hbits; clear hbits
      have hn9 : nbits z ≤ 8 := nbits_le_of_lt hzB
      go_enter Try.func42, Try.ntmps42
      go_wp2_with (with_reducible refine Hid.out (p := wpList _ _ _ ({ dst := some 16, op := _, type := _, pos := _, after := _, guard := _ } :: _) _ _) ?_)
      refine hid ?_
      refine wpList_tab _ rfl 9 _ _ rfl Try.underlying9 .u8 z rfl hzB (by decide +kernel) ?_
      go_wp2
      go_ret
      exact ⟨ret_int (by rw [HB.out]; simp; omega), rfl⟩
    · have hxB : x < 256 := by omega
      have hb2 : decide ((256 : Int) ≤ (x : Int)) = false := by rw [decide_eq_false_iff_not]; omega
      have hn9 : nbits x ≤ 8 := nbits_le_of_lt hxB
      go_enter Try.func42, Try.ntmps42
      go_wp2_with (with_reducible refine Hid.out (p := wpList _ _ _ ({ dst := some 16, op := _, type := _, pos := _, after := _, guard := _ } :: _) _ _) ?_)
      refine hid ?_
      refine wpList_tab _ rfl 9 _ _ rfl Try.underlying9 .u8 x rfl hxB (by decide +kernel) ?_
      go_wp2
      go_ret
      exact ⟨rfl, rfl⟩

theorem lz32_any (x : Nat) (w : World) (hx : x < 4294967296) :
    Calls Try.prog 36 #[.int .u32 (x : Int)] w fun e w' => e = .returned (.int .i64 ((32 - nbits x : Nat) : Int)) ∧ w = w' := by
  have hn := nbits_le_of_lt (n := x) (k := 32) hx
  go_enter Try.func36, Try.ntmps36
  go_wp2_with fail
  refine (len32_any x _ hx).mono ?_
  rintro e w' ⟨rfl, rfl⟩
  go_wp2
  go_ret
  exact ⟨ret_int (by omega), rfl⟩

end Go.Proofs.Ytpnoklbijfmoaaa


/-
  WALKS: the plain reckoning: MulN, BitsN.
-/
set_option linter.unusedVariables false
set_option linter.unusedSimpArgs false
namespace Go.Proofs.Ytpnoklbijfmoaaa
open Go.RowKit

theorem mulN_step {B k j cy x y o R V V' : Nat} {ps : List Nat} (ho : ps[k + j]? = some o) (hv : valB B ps + B ^ (k + j) * cy = R + B ^ k * (x * V))
    (hQ : V' = V + B ^ j * y) :
    valB B (ps.set (k + j) ((o + cy + x * y) % B)) + B ^ (k + (j + 1)) * ((o + cy + x * y) / B) = R + B ^ k * (x * V') := by
  have h1 := valB_set B ho ((o + cy + x * y) % B)
  have h2 := pow_step B (k + j) (o + cy + x * y)
  rw [Nat.mul_add, Nat.mul_add] at h2
  have h3 : B ^ k * (x * (V + B ^ j * y)) = B ^ k * (x * V) + B ^ (k + j) * (x * y) := by rw [Nat.pow_add]; grind
  rw [hQ, h3, ← Nat.add_assoc]
  omega

theorem mulN_boundZ (x y : Nat) (hx : x ≤ 9999) (hy : y ≤ 9999) : (x : Int) * (y : Int) ≤ 99980001 ∧ (0 : Int) ≤ (x : Int) * (y : Int) := by
  have h := Nat.mul_le_mul hx hy
  rw [← Int.natCast_mul]
  omega

end Go.Proofs.Ytpnoklbijfmoaaa

/-
  Within: any number as one from 0 to n - 1.
-/
set_option linter.unusedVariables false
set_option linter.unusedSimpArgs false
namespace Go.Proofs.Ytpnoklbijfmoaaa
open Go.RowKit

/-- Within: any number as one from 0 to n - 1. -/
theorem within_any (v : Int) (n : Nat) (w : World) (hn : 1 ≤ n) (hn2 : n ≤ 1000000) (hv1 : -9223372036854775808 ≤ v) (hv2 : v ≤ 9223372036854775807) :
    Calls Try.prog 4 #[.int .i64 v, .int .i64 (n : Int)] w fun e w' => e = .returned (.int .i64 (v % (n : Int))) ∧ w = w' := by
  have hn0 : ((n : Int) == 0) = false := by rw [beq_eq_false_iff_ne]; omega
  obtain ⟨t, ht⟩ : ∃ t, t = v.tmod (n : Int) := ⟨_, rfl⟩
  have hte : v.tmod (n : Int) = t := ht.symm
  have hb1 : -(n : Int) < t ∧ t < n := by
    have h1 := Int.tmod_lt_of_pos v (show (0 : Int) < n by omega)
    have h2 := Int.lt_tmod_of_pos v (show (0 : Int) < n by omega)
    omega
  have hem : v % (n : Int) = if t < 0 then t + n else t := by
    have hv : v = t + n * (v.tdiv n) := by rw [ht]; exact (Int.tmod_add_mul_tdiv v n).symm
    rw [hv, Int.add_mul_emod_self_left]
    split
    · have h3 : t % (n : Int) = (t + n) % (n : Int) := by simp
      rw [h3, Int.emod_eq_of_lt (by omega) (by omega)]
    · rw [Int.emod_eq_of_lt (by omega) (by omega)]
  have HEM := hid hem; clear hem ht
  obtain ⟨hb1, hb2⟩ := hb1
  by_cases ht0 : t < 0
  · have hd : decide (t < 0) = true := by simpa using ht0
    by_cases hv0 : 0 ≤ v
    · exfalso
      have := Int.tmod_nonneg (n : Int) hv0
      omega
    · go_enter Try.func4, Try.ntmps4
      go_wp2
      go_ret
      exact ⟨ret_int (by rw [HEM.out, if_pos (by omega)]), rfl⟩
  · have hd : decide (t < 0) = false := by simpa using ht0
    by_cases hv0 : 0 ≤ v
    · have hvt : v % (n : Int) = t := by rw [← hte, Int.tmod_eq_emod_of_nonneg hv0]
      clear HEM
      go_enter Try.func4, Try.ntmps4
      go_wp2
      go_ret
      exact ⟨rfl, rfl⟩
    · go_enter Try.func4, Try.ntmps4
      go_wp2
      go_ret
      exact ⟨ret_int (by rw [HEM.out, if_neg (by omega)]), rfl⟩

end Go.Proofs.Ytpnoklbijfmoaaa

/-
  PLAIN MATHEMATICS: one digit of a long division, as Knuth guesses it. No program.
-/
set_option linter.unusedVariables false
set_option linter.unusedSimpArgs false
namespace Go.Proofs.Ytpnoklbijfmoaaa

section
variable {b M top next Vl head u2 Ul U V g r : Nat}

/-- The first guess is not too small. -/
theorem kn_init (hU : U = (head * b + u2) * M + Ul) (hUl : Ul < M) (hu2 : u2 < b) (hV : V = (top * b + next) * M + Vl) (hh : head = g * top + r) (hr : r < top) : U < (g + 1) * V := by
  have h1 : (head * b + u2 + 1) * M ≤ ((g + 1) * (top * b)) * M := by
    refine Nat.mul_le_mul_right _ ?_
    have h2 : (head + 1) * b ≤ ((g + 1) * top) * b := Nat.mul_le_mul_right _ (by rw [hh, Nat.add_mul]; omega)
    rw [Nat.add_mul] at h2
    rw [← Nat.mul_assoc]
    omega
  have h3 : (g + 1) * V = ((g + 1) * (top * b)) * M + (g + 1) * (next * M + Vl) := by rw [hV]; grind
  have h4 : (head * b + u2 + 1) * M = (head * b + u2) * M + M := by rw [Nat.add_mul, Nat.one_mul]
  omega

/-- Where the test says so the guess is too great. -/
theorem kn_dec (hU : U = (head * b + u2) * M + Ul) (hUl : Ul < M) (hV : V = (top * b + next) * M + Vl) (hh : head = g * top + r) (ht : r * b + u2 < g * next) : U < g * V := by
  have h1 : (head * b + u2 + 1) * M ≤ (g * (top * b) + g * next) * M := by
    refine Nat.mul_le_mul_right _ ?_
    have : head * b = g * (top * b) + r * b := by rw [hh]; grind
    omega
  have h3 : g * V = (g * (top * b) + g * next) * M + g * Vl := by rw [hV]; grind
  have h4 : (head * b + u2 + 1) * M = (head * b + u2) * M + M := by rw [Nat.add_mul, Nat.one_mul]
  omega

/-- Where the test says no the guess is one too great at most. -/
theorem kn_exit (hU : U = (head * b + u2) * M + Ul) (hV : V = (top * b + next) * M + Vl) (hVl : Vl < M) (hh : head = g * top + r) (ht : g * next ≤ r * b + u2) (hg : g < b) (htop : 0 < top) : g * V ≤ U + V := by
  have h1 : (g * (top * b) + g * next) * M ≤ (head * b + u2) * M := by
    refine Nat.mul_le_mul_right _ ?_
    have : head * b = g * (top * b) + r * b := by rw [hh]; grind
    omega
  have h3 : g * V = (g * (top * b) + g * next) * M + g * Vl := by rw [hV]; grind
  have h5 : g * Vl ≤ b * M := Nat.mul_le_mul (Nat.le_of_lt hg) (Nat.le_of_lt hVl)
  have h6 : b * M ≤ V := by
    rw [hV]
    have h7 : (1 * b) * M ≤ (top * b + next) * M := Nat.mul_le_mul_right _ (by have := Nat.mul_le_mul_right b (show 1 ≤ top from htop); omega)
    rw [Nat.one_mul] at h7
    omega
  omega
end

/-- The highest digit of what is divided is no greater than the divisor's. -/
theorem kn_top {b M u0 u1 u2 Ul U top next Vl V : Nat} (hU : U = ((u0 * b + u1) * b + u2) * M + Ul) (hV : V = (top * b + next) * M + Vl) (hVl : Vl < M) (hn : next < b) (h : U < b * V) : u0 ≤ top := by
  rcases Nat.lt_or_ge top u0 with h0 | h0
  · exfalso
    have h1 : ((top + 1) * b) * b * M ≤ (u0 * b) * b * M := Nat.mul_le_mul_right _ (Nat.mul_le_mul_right _ (Nat.mul_le_mul_right _ h0))
    have h2 : (u0 * b) * b * M ≤ U := by
      rw [hU]
      have : (u0 * b) * b * M ≤ ((u0 * b + u1) * b + u2) * M := Nat.mul_le_mul_right _ (by rw [Nat.add_mul (u0 * b)]; omega)
      omega
    have h3 : V + M ≤ ((top + 1) * b) * M + M := by
      have : (top * b + next + 1) * M ≤ ((top + 1) * b) * M := Nat.mul_le_mul_right _ (by rw [Nat.add_mul]; omega)
      rw [Nat.add_mul, Nat.one_mul] at this
      rw [hV]; omega
    have h3' : V ≤ ((top + 1) * b) * M := by omega
    have h4 := Nat.mul_le_mul_left b h3'
    have h5 : b * ((top + 1) * b * M) = ((top + 1) * b) * b * M := by grind
    omega
  · exact h0

/-- A quotient between a guess less one and the guess. -/
theorem div_is {U V q : Nat} (hV : 0 < V) (h1 : q * V ≤ U) (h2 : U < (q + 1) * V) : U / V = q := by
  have h3 : q ≤ U / V := (Nat.le_div_iff_mul_le hV).2 h1
  have h4 : U / V < q + 1 := (Nat.div_lt_iff_lt_mul hV).2 h2
  omega

/-- One digit of a row less a multiple. -/
theorem msub_step {B i x y g cy bw d c1 b1 : Nat} {W U Y : List Nat} (hi : i < W.length) (hv : valB B (W.take i) + g * valB B (Y.take i) = valB B (U.take i) + B ^ i * (cy + bw))
    (hU : U[i]? = some x) (hY : Y[i]? = some y) (hd : d + (g * y + cy) + bw = x + B * (b1 + c1)) :
    valB B ((W.set i d).take (i + 1)) + g * valB B (Y.take (i + 1)) = valB B (U.take (i + 1)) + B ^ (i + 1) * (c1 + b1) := by
  rw [valB_take_set B W i d hi, valB_take_some B hU, valB_take_some B hY, Nat.pow_succ, Nat.mul_assoc]
  have h1 : B ^ i * (d + (g * y + cy) + bw) = B ^ i * (x + B * (b1 + c1)) := by rw [hd]
  rw [Nat.mul_add, Nat.mul_add, Nat.mul_add, Nat.mul_add] at h1
  have h2 : g * (valB B (Y.take i) + B ^ i * y) = g * valB B (Y.take i) + B ^ i * (g * y) := by grind
  rw [h2, Nat.add_comm c1 b1]
  rw [Nat.mul_add] at hv
  omega

/-- The end of a digit whose guess is right. -/
theorem digit_end0 {B n u0 cy bw g t : Nat} {W Wc Y : List Nat} (hWl : W.length = n + 1) (hWc : Wc.length = n + 1) (hYl : Y.length = n) (hu : W[n]? = some u0)
    (hv : valB B (Wc.take n) + g * valB B (Y.take n) = valB B (W.take n) + B ^ n * (cy + bw)) (ht : t + cy + bw = u0) : valB B (Wc.set n t) + g * valB B Y = valB B W := by
  have h1 := valB_take_set B Wc n t (by omega)
  rw [valB_take_all B (by rw [List.length_set]; exact hWc)] at h1
  have h2 := valB_take_some B hu
  rw [valB_take_all B hWl] at h2
  rw [valB_take_all B hYl] at hv
  rw [h1, h2, ← ht, Nat.mul_add, Nat.mul_add]
  rw [Nat.mul_add] at hv
  omega

/-- .. whose guess is one too great: before what is added back. -/
theorem digit_end1 {B n u0 cy bw g t : Nat} {W Wc Y : List Nat} (hWl : W.length = n + 1) (hWc : Wc.length = n + 1) (hYl : Y.length = n) (hu : W[n]? = some u0)
    (hv : valB B (Wc.take n) + g * valB B (Y.take n) = valB B (W.take n) + B ^ n * (cy + bw)) (ht : t + cy + bw = u0 + B) : valB B (Wc.set n t) + g * valB B Y = valB B W + B ^ (n + 1) := by
  have h1 := valB_take_set B Wc n t (by omega)
  rw [valB_take_all B (by rw [List.length_set]; exact hWc)] at h1
  have h2 := valB_take_some B hu
  rw [valB_take_all B hWl] at h2
  rw [valB_take_all B hYl] at hv
  have h3 : B ^ n * (t + cy + bw) = B ^ n * (u0 + B) := by rw [ht]
  rw [h1, h2, Nat.pow_succ]
  rw [Nat.mul_add, Nat.mul_add, Nat.mul_add] at h3
  rw [Nat.mul_add] at hv
  omega

/-- .. behind it. -/
theorem digit_end2 {B n bk g t e x : Nat} {V : Nat} {Wd Wc Y : List Nat} (hWd : Wd.length = n + 1) (hWc : Wc.length = n + 1) (hYl : Y.length = n) (ht : Wc[n]? = some t)
    (hv : valB B (Wd.take n) + B ^ n * bk = valB B (Wc.take n) + valB B (Y.take n)) (hx : x + B * e = t + bk) (he : e ≤ 1)
    (hW : valB B Wc + g * valB B Y = V + B ^ (n + 1)) (hB : valB B (Wd.set n x) < B ^ (n + 1)) (hY : valB B Y < B ^ (n + 1)) (hg : g * valB B Y ≤ V + valB B Y) (hg2 : V < g * valB B Y) :
    valB B (Wd.set n x) + g * valB B Y = V + valB B Y := by
  have h1 := valB_take_set B Wd n x (by omega)
  rw [valB_take_all B (by rw [List.length_set]; exact hWd)] at h1
  have h2 := valB_take_some B ht
  rw [valB_take_all B hWc] at h2
  rw [valB_take_all B hYl] at hv
  have h3 : B ^ n * (x + B * e) = B ^ n * (t + bk) := by rw [hx]
  have hp : B ^ n * (B * e) = B ^ (n + 1) * e := by rw [Nat.pow_succ, Nat.mul_assoc]
  rw [Nat.mul_add, Nat.mul_add, hp] at h3
  have he2 : e = 0 ∨ e = 1 := by omega
  rcases he2 with rfl | rfl
  · rw [Nat.mul_zero] at h3; omega
  · rw [Nat.mul_one] at h3; omega

theorem mod_is {U V q r : Nat} (h : r + q * V = U) (hr : r < V) : U / V = q ∧ U % V = r := by
  have hV : 0 < V := by omega
  have h1 : U / V = q := div_is hV (by omega) (by rw [Nat.add_mul, Nat.one_mul]; omega)
  refine ⟨h1, ?_⟩
  have h2 := Nat.mod_add_div U V
  rw [h1, Nat.mul_comm V q] at h2
  omega

/-- One digit of what is added back. -/
theorem addb_step {B i x y bk d c1 : Nat} {W U Y : List Nat} (hi : i < W.length) (hv : valB B (W.take i) + B ^ i * bk = valB B (U.take i) + valB B (Y.take i))
    (hU : U[i]? = some x) (hY : Y[i]? = some y) (hd : d + B * c1 = x + y + bk) :
    valB B ((W.set i d).take (i + 1)) + B ^ (i + 1) * c1 = valB B (U.take (i + 1)) + valB B (Y.take (i + 1)) := by
  rw [valB_take_set B W i d hi, valB_take_some B hU, valB_take_some B hY, Nat.pow_succ, Nat.mul_assoc]
  have h1 : B ^ i * (d + B * c1) = B ^ i * (x + y + bk) := by rw [hd]
  rw [Nat.mul_add, Nat.mul_add, Nat.mul_add] at h1
  omega

/-- A row of k + 2 digits by its two highest ones. -/
theorem top_two {B k a c : Nat} {Y : List Nat} (hl : Y.length = k + 2) (ha : Y[k + 1]? = some a) (hc : Y[k]? = some c) : valB B Y = (a * B + c) * B ^ k + valB B (Y.take k) := by
  have h1 := valB_take_some B ha
  have h2 := valB_take_some B hc
  rw [valB_take_all B hl, h2, Nat.pow_succ] at h1
  rw [h1]; grind

/-- A row of k + 3 digits by its three highest ones. -/
theorem top_three {B k a c e : Nat} {U : List Nat} (hl : U.length = k + 3) (ha : U[k + 2]? = some a) (hc : U[k + 1]? = some c) (he : U[k]? = some e) :
    valB B U = ((a * B + c) * B + e) * B ^ k + valB B (U.take k) := by
  have h1 := valB_take_some B ha
  have h2 := valB_take_some B hc
  have h3 := valB_take_some B he
  rw [valB_take_all B hl, h2, h3, Nat.pow_succ, Nat.pow_succ] at h1
  rw [h1, Nat.pow_succ]; grind

theorem top_two' {B n a c : Nat} {Y : List Nat} (h2 : 2 ≤ n) (hl : Y.length = n) (ha : Y[n - 1]? = some a) (hc : Y[n - 2]? = some c) : valB B Y = (a * B + c) * B ^ (n - 2) + valB B (Y.take (n - 2)) := by
  obtain ⟨k, rfl⟩ : ∃ k, n = k + 2 := ⟨n - 2, by omega⟩
  exact top_two hl ha hc

theorem top_three' {B n a c e : Nat} {U : List Nat} (h2 : 2 ≤ n) (hl : U.length = n + 1) (ha : U[n]? = some a) (hc : U[n - 1]? = some c) (he : U[n - 2]? = some e) :
    valB B U = ((a * B + c) * B + e) * B ^ (n - 2) + valB B (U.take (n - 2)) := by
  obtain ⟨k, rfl⟩ : ∃ k, n = k + 2 := ⟨n - 2, by omega⟩
  exact top_three hl ha hc he

theorem take_lt {B k : Nat} {Y : List Nat} (hB : ∀ x ∈ Y, x < B) (hk : k ≤ Y.length) : valB B (Y.take k) < B ^ k := by
  have := valB_lt (B := B) (xs := Y.take k) (fun x h => hB x (List.mem_of_mem_take h))
  rwa [List.length_take, Nat.min_eq_left hk] at this

/-- One digit of a long division: what is divided is low enough; what lies above is nothing. -/
theorem div_pre {B n V i : Nat} {A W C : List Nat} (hB : 2 ≤ B) (hi : A.length = i) (hW : W.length = n + 1) (hlt : ∀ x ∈ W, x < B) (hV : V < B ^ n) (h : valB B ((A ++ (W ++ C)).drop (i + 1)) < V) :
    valB B W < B * V ∧ valB B C = 0 := by
  obtain ⟨x, W1, rfl⟩ : ∃ x W1, W = x :: W1 := by
    cases W with
    | nil => simp at hW
    | cons x W1 => exact ⟨x, W1, rfl⟩
  have e : (A ++ (x :: W1 ++ C)).drop (i + 1) = W1 ++ C := by
    subst hi
    rw [← List.drop_drop, List.drop_left]; rfl
  rw [e, valB_append] at h
  have hx : x < B := hlt x List.mem_cons_self
  have hl : W1.length = n := by simpa using hW
  rw [hl] at h
  have h0 : valB B C = 0 := by
    rcases Nat.eq_zero_or_pos (valB B C) with h1 | h1
    · exact h1
    · have := Nat.mul_le_mul_left (B ^ n) h1
      omega
  refine ⟨?_, h0⟩
  rw [h0, Nat.mul_zero, Nat.add_zero] at h
  rw [valB_cons]
  have := Nat.mul_le_mul_left B (show valB B W1 + 1 ≤ V from h)
  rw [Nat.mul_add, Nat.mul_one] at this
  omega

theorem div_step {B n V i q X : Nat} {A W W' C qs : List Nat} (hA : A.length = i) (hC : valB B C = 0) (hW : valB B W' + q * V = valB B W) (hi : i < qs.length)
    (hv : valB B (A ++ (W ++ C)) + B ^ (i + 1) * (valB B (qs.drop (i + 1)) * V) = X) (hW' : W'.length = n + 1) (hWl : W.length = n + 1) :
    valB B (A ++ (W' ++ C)) + B ^ i * (valB B ((qs.set i q).drop i) * V) = X ∧ valB B ((A ++ (W' ++ C)).drop i) = valB B W' := by
  constructor
  · rw [valB_drop_set B qs i q hi]
    rw [valB_append, valB_append, hC, Nat.mul_zero, Nat.add_zero, hA] at hv ⊢
    rw [← hv, ← hW, Nat.pow_succ]
    grind
  · subst hA
    rw [List.drop_left, valB_append, hC, Nat.mul_zero, Nat.add_zero]

theorem unscale {U V S q r : Nat} (hS : 0 < S) (h : r + q * (V * S) = U * S) (hr : r < V * S) : U / V = q ∧ U % V = r / S := by
  have h1 : q * (V * S) = (q * V) * S := by rw [Nat.mul_assoc]
  have hle : q * V ≤ U := by
    refine Nat.le_of_mul_le_mul_right (c := S) ?_ hS
    omega
  have hr2 : r = (U - q * V) * S := by rw [Nat.sub_mul]; omega
  have hrS : r / S = U - q * V := by rw [hr2, Nat.mul_div_cancel _ hS]
  have hlt : U - q * V < V := by
    rw [hr2] at hr
    exact Nat.lt_of_mul_lt_mul_right hr
  have := mod_is (U := U) (V := V) (q := q) (r := U - q * V) (by omega) hlt
  rw [hrS]
  exact this

/-- What the first divisor's digit says of the divisor moved up. -/
theorem scale_facts {B k v low S V : Nat} (hV : V = v * B ^ k + low) (hlow : low < B ^ k) (h1 : (v + 1) * S ≤ B) (h2 : B ≤ 2 * (v * S)) (hS : 0 < S) :
    V * S < B ^ (k + 1) ∧ B * B ^ k ≤ 2 * (V * S) ∧ B ^ k * S ≤ V * S := by
  have hv : 1 ≤ v := by
    rcases Nat.eq_zero_or_pos v with h0 | h0
    · exfalso
      subst h0
      have := Nat.mul_le_mul_left 1 hS
      omega
    · exact h0
  refine ⟨?_, ?_, ?_⟩
  · have h3 : V + 1 ≤ (v + 1) * B ^ k := by rw [Nat.add_mul]; omega
    have h4 : (V + 1) * S ≤ (v + 1) * B ^ k * S := Nat.mul_le_mul_right _ h3
    have h5 : (v + 1) * B ^ k * S = (v + 1) * S * B ^ k := by grind
    have h6 : (v + 1) * S * B ^ k ≤ B * B ^ k := Nat.mul_le_mul_right _ h1
    rw [Nat.pow_succ, Nat.mul_comm _ B]
    rw [Nat.add_mul] at h4
    omega
  · have h3 : B * B ^ k ≤ 2 * (v * S) * B ^ k := Nat.mul_le_mul_right _ h2
    have h4 : 2 * (v * S) * B ^ k = 2 * ((v * B ^ k) * S) := by grind
    have h5 : (v * B ^ k) * S ≤ V * S := Nat.mul_le_mul_right _ (by omega)
    omega
  · refine Nat.mul_le_mul_right _ ?_
    have := Nat.mul_le_mul_right (B ^ k) hv
    omega

/-- What is divided, moved up, is less than the divisor above the quotient's place. -/
theorem start_lt {B k j S U V T D X : Nat} (hU : U < B ^ (j + k)) (hX : X = T + B ^ j * D) (hXU : X = U * S) (hV : B ^ k * S ≤ V) (hB : 0 < B) (hS : 0 < S) : D < V := by
  have h1 : B ^ j * D < B ^ j * (B ^ k * S) := by
    have h2 : U * S < B ^ (j + k) * S := Nat.mul_lt_mul_of_pos_right hU hS
    rw [Nat.pow_add, Nat.mul_assoc] at h2
    omega
  have := Nat.lt_of_mul_lt_mul_left h1
  omega

theorem top_digit {B k y V : Nat} {Y : List Nat} (hB : ∀ x ∈ Y, x < B) (hl : Y.length = k + 1) (hy : Y[k]? = some y) (hV : valB B Y = V) (h : B * B ^ k ≤ 2 * V) : B ≤ 2 * y + 1 := by
  have h1 := valB_take_some B hy
  rw [valB_take_all B hl, hV] at h1
  have h2 := take_lt hB (k := k) (by omega)
  have h3 : B * B ^ k < (2 * y + 2) * B ^ k := by
    rw [Nat.mul_comm] at h1
    rw [Nat.add_mul, Nat.mul_assoc]
    have := Nat.mul_comm (B ^ k) y
    omega
  have := Nat.lt_of_mul_lt_mul_right h3
  omega

end Go.Proofs.Ytpnoklbijfmoaaa

/-
  WALKS: limb.digit: one digit of a quotient; what is left stands in the row.
-/
set_option linter.unusedVariables false
set_option linter.unusedSimpArgs false
namespace Go.Proofs.Ytpnoklbijfmoaaa
open Go.RowKit

/-- A WINDOW in a block of the call's own: the limbs W behind A, ahead of C. -/
def Win (w : World) (G : Nat) (A W C : List Nat) (off : Nat) : Prop := Blk w G 24 (ints .u32 (A ++ (W ++ C))) ∧ A.length = off

section
variable {w w' : World} {G off : Nat} {A W C : List Nat}
theorem Win.lt (h : Win w G A W C off) : G < w.heap.size := h.1.lt
theorem Win.cell (h : Win w G A W C off) {i x : Nat} (hi : W[i]? = some x) : w.cell? ⟨G, off + i, none⟩ = some (.int .u32 (x : Int)) := by
  obtain ⟨hb, hl⟩ := h
  obtain ⟨hlt, hx⟩ := List.getElem?_eq_some_iff.1 hi
  have hlen : off + i < (ints .u32 (A ++ (W ++ C))).length := by rw [ints_length]; simp; omega
  rw [hb.cell _ hlen, ints_get]
  congr 3
  rw [List.getElem_append_right (by omega), List.getElem_append_left (by omega)]
  simp only [← hl, Nat.add_sub_cancel_left]; exact hx
theorem Win.free (h : Win w G A W C off) (j : Nat) : w.frozen? ⟨G, j, none⟩ = false := h.1.free j
theorem Win.set (h : Win w G A W C off) {i : Nat} (hi : i < W.length) (d : Nat) : Win (w.setCell ⟨G, off + i, none⟩ (.int .u32 (d : Int))) G A (W.set i d) C off := by
  obtain ⟨hb, hl⟩ := h
  refine ⟨?_, hl⟩
  have := hb.set (off + i) (.int .u32 (d : Int))
  rw [ints_set, List.set_append_right (off + i) d (by omega), List.set_append_left (off + i - A.length) d (by omega), show off + i - A.length = i by omega] at this
  exact this
theorem Win.drewN (h : Win w G A W C off) (n : Nat) : Win (w.drewN n) G A W C off := h
end

/-- Nothing has turned but the block G. -/
def OnlyB (G : Nat) (w w' : World) : Prop := w'.os = w.os ∧ w'.tape = w.tape ∧ w'.output = w.output ∧ w'.heap.size = w.heap.size ∧ ∀ k, k ≠ G → w'.heap[k]? = w.heap[k]?

theorem OnlyB.refl (G : Nat) (w : World) : OnlyB G w w := ⟨rfl, rfl, rfl, rfl, fun _ _ => rfl⟩
theorem OnlyB.drewN {G : Nat} {w w' : World} (h : OnlyB G w w') (n : Nat) : OnlyB G w (w'.drewN n) := h
theorem OnlyB.setCell {G : Nat} {w w' : World} (h : OnlyB G w w') (i : Nat) (v : Value) : OnlyB G w (w'.setCell ⟨G, i, none⟩ v) :=
  ⟨h.1, h.2.1, h.2.2.1, by rw [World.size_setCell]; exact h.2.2.2.1, fun k hk => by rw [heap_setCell_other _ _ k _ hk]; exact h.2.2.2.2 k hk⟩
theorem OnlyB.below {G B : Nat} {w w' : World} (h : OnlyB G w w') (hB : B ≤ G) : Below B w w' := ⟨h.1, h.2.1, h.2.2.1, by rw [h.2.2.2.1]; exact Nat.le_refl _, fun k hk => h.2.2.2.2 k (by omega)⟩

set_option maxRecDepth 100000 in
set_option maxHeartbeats 2000000 in
theorem digit_any (G off n c b2 off2 d : Nat) (A W C Y : List Nat) (w : World) (hn : n ≤ 1073741824) (hn2 : 2 ≤ n) (hwin : Win w G A W C off) (hWl : W.length = n + 1) (hWB : ∀ x ∈ W, x < B32) (hc : n + 1 ≤ c)
    (hy : Rw .u32 B32 w (some ⟨b2, off2, none⟩) n d Y) (hne : b2 ≠ G) (top : Nat) (htop : Y[n - 1]? = some top) (htopB : 2147483648 ≤ top) (hlt : val W < B32 * val Y) :
    Calls Try.prog 38 #[.slice (some ⟨G, off, none⟩) (n + 1) c, .slice (some ⟨b2, off2, none⟩) n d] w fun e w' => ∃ W', e = .returned (.int .u32 ((val W / val Y : Nat) : Int)) ∧ Win w' G A W' C off ∧ W'.length = n + 1 ∧
      (∀ x ∈ W', x < B32) ∧ val W' = val W % val Y ∧ OnlyB G w w' := by
  obtain ⟨next, hnext, hnextB, hcn⟩ := hy.cell (show n - 2 < n by omega)
  obtain ⟨top', htop', htopB', hct⟩ := hy.cell (show n - 1 < n by omega)
  rw [htop] at htop'
  obtain rfl := Option.some.inj htop'
  obtain ⟨u0, hu0⟩ : ∃ u, W[n]? = some u := ⟨_, List.getElem?_eq_getElem (by omega)⟩
  obtain ⟨u1, hu1⟩ : ∃ u, W[n - 1]? = some u := ⟨_, List.getElem?_eq_getElem (by omega)⟩
  obtain ⟨u2, hu2⟩ : ∃ u, W[n - 2]? = some u := ⟨_, List.getElem?_eq_getElem (by omega)⟩
  have hu0B : u0 < 4294967296 := hWB _ (List.mem_of_getElem? hu0)
  have hu1B : u1 < 4294967296 := hWB _ (List.mem_of_getElem? hu1)
  have hu2B : u2 < 4294967296 := hWB _ (List.mem_of_getElem? hu2)
  have hc0 := hwin.cell hu0
  have hc1 := hwin.cell hu1
  have hc2 := hwin.cell hu2
  have hnB : next < 4294967296 := hnextB
  have htB : top < 4294967296 := htopB'
  obtain ⟨head, hhead⟩ : ∃ head : Nat, head = u0 * 4294967296 + u1 := ⟨_, rfl⟩
  have hor := or_join u0 u1 hu0B hu1B
  rw [← hhead] at hor
  obtain ⟨g0, hg0⟩ : ∃ g : Nat, g = head / top := ⟨_, rfl⟩
  obtain ⟨r0, hr0⟩ : ∃ g : Nat, g = head % top := ⟨_, rfl⟩
  have hg0' : (head : Int) / (top : Int) = (g0 : Int) := by rw [hg0]; rfl
  have hr0' : (head : Int) % (top : Int) = (r0 : Int) := by rw [hr0]; rfl
  have htne : ((top : Int) == 0) = false := by rw [beq_eq_false_iff_ne]; omega
  have htpos : (1 : Int) ≤ top := by omega
  have hg0B : g0 ≤ 8589934592 := by
    rw [hg0]
    have h1 : head / top < 8589934593 := by
      rw [Nat.div_lt_iff_lt_mul (by omega)]
      have := Nat.mul_le_mul_left 8589934593 htopB
      omega
    omega
  have HG0 := hid hg0; have HR0 := hid hr0; have HH := hid hhead; have HT := hid htop; have HU0 := hid hu0; have HU1 := hid hu1; have HU2 := hid hu2; have HN := hid hnext; have HWL := hid hWl; have HLT := hid hlt
  clear hg0 hr0 hhead htop hu0 hu1 hu2 hnext hWl hlt hnextB htopB'
  go_enter Try.func38, Try.ntmps38
  go_wp2
  go_quiet (fail)
  go_wp2
  go_quiet (fail)
  go_upto_block 0 with (fail)
  rw [hr0']
  clear hr0' hg0' hor
  go_cut [9] (fun s9 wx => ∃ g : Nat, s9 = .int .u64 g ∧ g < 4294967296 ∧ val W < (g + 1) * val Y ∧ g * val Y ≤ val W + val Y ∧ Win wx G A W C off ∧ OnlyB G w wx)
  case first =>
    have h2 := HH.out
    have hUW := top_three' hn2 HWL.out HU0.out HU1.out HU2.out (B := B32)
    have hVY := top_two' hn2 hy.len HT.out HN.out (B := B32)
    have hUl := take_lt hWB (k := n - 2) (by rw [HWL.out]; omega)
    have hVl := take_lt hy.lt (k := n - 2) (by rw [hy.len]; omega)
    have hu0t : u0 ≤ top := kn_top hUW hVY hVl hnB HLT.out
    rw [show u0 * B32 + u1 = head from h2.symm] at hUW
    have hhd : head = g0 * top + r0 := by rw [HG0.out, HR0.out, Nat.mul_comm]; exact (Nat.div_add_mod head top).symm
    have hin : val W < (g0 + 1) * val Y := kn_init hUW hUl hu2B hVY hhd (by rw [HR0.out]; exact Nat.mod_lt _ (by omega))
    have hr0t : r0 < 4294967296 := by rw [HR0.out]; have := Nat.mod_lt head (show 0 < top by omega); omega
    have HUW := hid hUW; have HVY := hid hVY; have HUL := hid hUl; have HVL := hid hVl; have HIN := hid hin; have HHD := hid hhd
    clear h2 hUW hVY hUl hVl hin hhd
    go_wp2_with fail
    go_loop [9, 10] (fun s9 s10 => ∃ g r : Nat, s9 = .int .u64 g ∧ s10 = .int .u64 r ∧ g ≤ 8589934592 ∧ head = g * top + r ∧ r < 4294967296 ∧ val W < (g + 1) * val Y) (fun s9 _ => (intOf s9).toNat)
    case atStart => exact ⟨g0, r0, rfl, rfl, hg0B, HHD.out, hr0t, HIN.out⟩
    case round =>
      obtain ⟨g, r, rfl, rfl, hgU, hgr, hrB, hUg⟩ := hrel
      have HGR := hid hgr; have HUG := hid hUg; clear hgr hUg
      obtain ⟨s2, hs2⟩ : ∃ s2 : Nat, s2 = r * 4294967296 + u2 := ⟨_, rfl⟩
      have hor2 := or_join r u2 hrB hu2B
      rw [← hs2] at hor2
      have HS2 := hid hs2; clear hs2
      by_cases hgB : 4294967296 ≤ g
      · have hg1 : 1 ≤ g := by omega
        have hdg : decide ((4294967296 : Int) ≤ (g : Int)) = true := by rw [decide_eq_true_eq]; omega
        have hUg' : val W < g * val Y := Nat.lt_of_lt_of_le HLT.out (Nat.mul_le_mul_right _ hgB)
        have HUG' := hid hUg'; clear hUg'
        have hgr' : head = (g - 1) * top + (r + top) := by
          have := HGR.out
          have h3 := Nat.mul_le_mul_right top hg1
          rw [Nat.sub_mul, Nat.one_mul]; omega
        have HGR' := hid hgr'; clear hgr'
        have hgc : ((g : Int) - 1) = ((g - 1 : Nat) : Int) := by omega
        have HGC := hid hgc; clear hgc
        by_cases hbr : 4294967296 ≤ r + top
        · have hdb : decide ((4294967296 : Int) ≤ (r : Int) + (top : Int)) = true := by rw [decide_eq_true_eq]; omega
          have hgsB : g - 1 < 4294967296 := by
            have h3 : (g - 1) * top < 4294967296 * top := by
              have := HGR'.out
              have h5 := HH.out
              have h6 := Nat.mul_le_mul_right 4294967296 hu0t
              rw [Nat.mul_comm 4294967296 top]
              omega
            exact Nat.lt_of_mul_lt_mul_right h3
          have hex : (g - 1) * val Y ≤ val W + val Y := by
            refine kn_exit HUW.out HVY.out HVL.out HGR'.out ?_ hgsB (by omega)
            have h3 : (g - 1) * next ≤ 4294967296 * 4294967296 := Nat.mul_le_mul (Nat.le_of_lt hgsB) (Nat.le_of_lt hnB)
            have h4 : 4294967296 * 4294967296 ≤ (r + top) * 4294967296 := Nat.mul_le_mul_right _ hbr
            show (g - 1) * next ≤ (r + top) * 4294967296 + u2
            omega
          have HEX := hid hex; clear hex
          go_wp2_with fail
          go_meet
          exact ⟨g - 1, by rw [HGC.out], hgsB, by rw [Nat.sub_add_cancel hg1]; exact HUG'.out, HEX.out, hwin, OnlyB.refl _ _⟩
        · have hdb : decide ((4294967296 : Int) ≤ (r : Int) + (top : Int)) = false := by rw [decide_eq_false_iff_not]; omega
          go_wp2_with fail
          go_round
          case rel => exact ⟨g - 1, r + top, by rw [HGC.out], by go_num, by omega, HGR'.out, by omega, by rw [Nat.sub_add_cancel hg1]; exact HUG'.out⟩
          case measure => simp [intOf]; omega
      · have hgB' : g < 4294967296 := by omega
        have hdg : decide ((4294967296 : Int) ≤ (g : Int)) = false := by rw [decide_eq_false_iff_not]; omega
        obtain ⟨hm1, hm2⟩ := mul_boundZ g next hgB' hnB
        by_cases ht : s2 < g * next
        · have hdt : decide ((s2 : Int) < (g : Int) * (next : Int)) = true := by rw [decide_eq_true_eq, ← Int.natCast_mul]; omega
          have hg1 : 1 ≤ g := by
            rcases Nat.eq_zero_or_pos g with h0 | h0
            · subst h0; omega
            · exact h0
          have hUg' : val W < g * val Y := kn_dec HUW.out HUL.out HVY.out HGR.out (by rw [← HS2.out]; exact ht)
          have HUG' := hid hUg'; clear hUg'
          have hgr' : head = (g - 1) * top + (r + top) := by
            have := HGR.out
            have h3 := Nat.mul_le_mul_right top hg1
            rw [Nat.sub_mul, Nat.one_mul]; omega
          have HGR' := hid hgr'; clear hgr'
          have hgc : ((g : Int) - 1) = ((g - 1 : Nat) : Int) := by omega
          have HGC := hid hgc; clear hgc
          by_cases hbr : 4294967296 ≤ r + top
          · have hdb : decide ((4294967296 : Int) ≤ (r : Int) + (top : Int)) = true := by rw [decide_eq_true_eq]; omega
            have hgsB : g - 1 < 4294967296 := by
              have h3 : (g - 1) * top < 4294967296 * top := by
                have := HGR'.out
                have h5 := HH.out
                have h6 := Nat.mul_le_mul_right 4294967296 hu0t
                rw [Nat.mul_comm 4294967296 top]
                omega
              exact Nat.lt_of_mul_lt_mul_right h3
            have hex : (g - 1) * val Y ≤ val W + val Y := by
              refine kn_exit HUW.out HVY.out HVL.out HGR'.out ?_ hgsB (by omega)
              have h3 : (g - 1) * next ≤ 4294967296 * 4294967296 := Nat.mul_le_mul (Nat.le_of_lt hgsB) (Nat.le_of_lt hnB)
              have h4 : 4294967296 * 4294967296 ≤ (r + top) * 4294967296 := Nat.mul_le_mul_right _ hbr
              show (g - 1) * next ≤ (r + top) * 4294967296 + u2
              omega
            have HEX := hid hex; clear hex
            go_wp2_with fail
            go_meet
            exact ⟨g - 1, by rw [HGC.out], hgsB, by rw [Nat.sub_add_cancel hg1]; exact HUG'.out, HEX.out, hwin, OnlyB.refl _ _⟩
          · have hdb : decide ((4294967296 : Int) ≤ (r : Int) + (top : Int)) = false := by rw [decide_eq_false_iff_not]; omega
            go_wp2_with fail
            go_round
            case rel => exact ⟨g - 1, r + top, by rw [HGC.out], by go_num, by omega, HGR'.out, by omega, by rw [Nat.sub_add_cancel hg1]; exact HUG'.out⟩
            case measure => simp [intOf]; omega
        · have hdt : decide ((s2 : Int) < (g : Int) * (next : Int)) = false := by rw [decide_eq_false_iff_not, ← Int.natCast_mul]; omega
          have hex : g * val Y ≤ val W + val Y := kn_exit HUW.out HVY.out HVL.out HGR.out (by rw [← HS2.out]; omega) hgB' (by omega)
          have HEX := hid hex; clear hex
          go_wp2_with fail
          go_meet
          exact ⟨g, rfl, hgB', HUG.out, HEX.out, hwin, OnlyB.refl _ _⟩
  case rest =>
    obtain ⟨g, rfl, hgB, hUg, hex, hwin1, honly⟩ := hcut
    have HUG := hid hUg; have HEX := hid hex
    have hyc : Rw .u32 B32 wc (some ⟨b2, off2, none⟩) n d Y := hy.same (honly.2.2.2.2 b2 hne)
    clear hUg hex hc0 hc1 hc2 hcn hct hwin hy htne htpos hg0B htopB htB hnB hu1B hu2B HG0 HR0 HH HT HU1 HU2 HN HLT
    clear htop'
    go_wp2_with fail
    go_loopw [11, 12, 81] (fun s11 s12 s81 wr => ∃ (i cy bw : Nat) (Wc : List Nat), i ≤ n ∧ s81 = .int .i64 i ∧ s11 = .int .u64 cy ∧ s12 = .int .u64 bw ∧ cy < 4294967296 ∧ bw ≤ 1 ∧ Wc.length = n + 1 ∧ (∀ x ∈ Wc, x < B32) ∧ Win wr G A Wc C off ∧ OnlyB G w wr ∧
        (∀ j, i ≤ j → Wc[j]? = W[j]?) ∧ valB B32 (Wc.take i) + g * valB B32 (Y.take i) = valB B32 (W.take i) + B32 ^ i * (cy + bw)) (fun _ _ s81 _ => n - (intOf s81).toNat)
    case atStart => exact ⟨0, 0, 0, W, Nat.zero_le _, rfl, rfl, rfl, by omega, by omega, HWL.out, hWB, hwin1, honly, fun _ _ => rfl, by simp [valB]⟩
    case round =>
      obtain ⟨i, cy, bw, Wc, hi, rfl, rfl, rfl, hcy, hbw, hWcl, hWcB, hwr, hor, hrest, hv⟩ := hrel
      have HV := hid hv; have HWC := hid hWcl; have HRE := hid hrest; clear hv hWcl hrest
      have hyr : Rw .u32 B32 wr (some ⟨b2, off2, none⟩) n d Y := hyc.same (by rw [hor.2.2.2.2 b2 hne, honly.2.2.2.2 b2 hne])
      have hb0 := hwr.lt
      by_cases hin : i < n
      · obtain ⟨y, hy, hyB, hcy2⟩ := hyr.cell hin
        have hy' : y < 4294967296 := hyB
        obtain ⟨x, hx⟩ : ∃ x, Wc[i]? = some x := ⟨_, List.getElem?_eq_getElem (by rw [HWC.out]; omega)⟩
        have hx' : x < 4294967296 := hWcB _ (List.mem_of_getElem? hx)
        have hcx := hwr.cell hx
        have hfree := hwr.free (off + i)
        have HX := hid hx; have HY := hid hy; clear hx hy hyB
        obtain ⟨hm1, hm2⟩ := mul_boundZ g y hgB hy'
        have hmb := mul_bound g y 0 cy hgB hy' (by omega) hcy
        have hpc : (g : Int) * (y : Int) + (cy : Int) = ((g * y + cy : Nat) : Int) := by simp
        obtain ⟨lo, hlo⟩ : ∃ lo : Nat, lo = (g * y + cy) % 4294967296 := ⟨_, rfl⟩
        obtain ⟨hi1, hhi⟩ : ∃ hi1 : Nat, hi1 = (g * y + cy) / 4294967296 := ⟨_, rfl⟩
        have elo : ((g : Int) * (y : Int) + (cy : Int)) % 4294967296 = (lo : Int) := by rw [hpc, hlo]; rfl
        have ehi : ((g : Int) * (y : Int) + (cy : Int)) / 4294967296 = (hi1 : Int) := by rw [hpc, hhi]; rfl
        have hloB : lo < 4294967296 := by omega
        have hhiB : hi1 < 4294967296 := by omega
        have hsum : lo + 4294967296 * hi1 = g * y + cy := by omega
        obtain ⟨d1, b1, hd1, hb1, e1, e2, e3⟩ := sub_wrap2 x lo bw hx' hloB hbw
        have HSUM := hid hsum; have E1 := hid e1; have E2 := hid e2; have E3 := hid e3; have HMB := hid hmb
        clear hsum e1 e2 e3 hpc hlo hhi hmb
        go_wp2
        rw [E1.out, E2.out]
        go_roundw
        case rel =>
          refine ⟨i + 1, hi1, b1, Wc.set i d1, by omega, by go_num, by first | rfl | rw [ehi], rfl, hhiB, hb1, by rw [List.length_set]; exact HWC.out, mem_set_lt hWcB hd1 i, hwr.set (by rw [HWC.out]; omega) d1, hor.setCell _ _, ?_, ?_⟩
          · intro j hj
            rw [List.getElem?_set_ne (by omega)]
            exact HRE.out j (by omega)
          · refine msub_step (by rw [HWC.out]; omega) HV.out (by rw [← HRE.out i (Nat.le_refl _)]; exact HX.out) HY.out ?_
            have h1 := HSUM.out
            have h2 := E3.out
            unfold B32 at h2 ⊢
            omega
        case measure => simp [intOf]; omega
      · obtain rfl : i = n := by omega
        have hcx := hwr.cell (show Wc[i]? = some u0 by rw [HRE.out i (Nat.le_refl _)]; exact HU0.out)
        have hfree := hwr.free (off + i)
        have hW2 := HWC.out
        by_cases hno : cy + bw ≤ u0
        · have et := top_wrap_no u0 cy bw hu0B hno
          obtain ⟨t, htt⟩ : ∃ t, t = u0 - cy - bw := ⟨_, rfl⟩
          rw [← htt] at et
          have htB : t < 4294967296 := by omega
          have hts : t + cy + bw = u0 := by omega
          have HTS := hid hts; clear htt hts hno hW2
          have ed : (t : Int) / 9223372036854775808 = 0 := by omega
          go_wp2
          go_ret
          have hend := digit_end0 (t := t) HWL.out HWC.out hyc.len HU0.out HV.out HTS.out
          have hle : g * val Y ≤ val W := by unfold val; omega
          have hmod := mod_is (U := val W) (V := val Y) (q := g) (r := val (Wc.set i t)) (by unfold val; omega) (by
            have h1 := HUG.out
            rw [Nat.add_mul, Nat.one_mul] at h1
            unfold val at *; omega)
          exact ⟨Wc.set i t, by rw [hmod.1]; rfl, hwr.set (by rw [HWC.out]; omega) t, by rw [List.length_set]; exact HWC.out, mem_set_lt hWcB htB _, hmod.2.symm, hor.setCell _ _⟩
        · obtain ⟨t, tl, et, ed, etl, htlB, hts⟩ := top_wrap_yes u0 cy bw hu0B hcy hbw (by omega)
          have HTS := hid hts; clear hts hno hW2
          have hwin3 : Win (wr.setCell ⟨G, off + i, none⟩ (.int .u32 (tl : Int))) G A (Wc.set i tl) C off := hwr.set (by rw [HWC.out]; omega) tl
          have hor3 : OnlyB G w (wr.setCell ⟨G, off + i, none⟩ (.int .u32 (tl : Int))) := hor.setCell _ _
          have hend := digit_end1 (t := tl) HWL.out HWC.out hyc.len HU0.out HV.out HTS.out
          have hWB3 : ∀ x ∈ Wc.set i tl, x < B32 := mem_set_lt hWcB htlB _
          have hl3 : (Wc.set i tl).length = i + 1 := by rw [List.length_set]; exact HWC.out
          have hti : (Wc.set i tl)[i]? = some tl := by rw [List.getElem?_set_self (by rw [HWC.out]; omega)]
          have hg0 : val W < g * val Y := by
            have h1 := valB_lt hWB3
            rw [hl3] at h1
            unfold val; omega
          have HE := hid hend; have HL3 := hid hl3; have HTI := hid hti; have HG0 := hid hg0
          clear hend hl3 hti hg0
          have hgpos : 1 ≤ g := by
            rcases Nat.eq_zero_or_pos g with h0 | h0
            · have := HG0.out; rw [h0, Nat.zero_mul] at this; omega
            · exact h0
          go_wp2_with fail
          generalize hgen : Wc.set i tl = W3 at *
          clear hgen
          generalize hgenw : wr.setCell ⟨G, off + i, none⟩ (.int .u32 (tl : Int)) = wx at *
          clear hgenw
          go_loopw [18, 134] (fun s18 s134 wr => ∃ (k bk : Nat) (Wd : List Nat), k ≤ i ∧ s134 = .int .i64 k ∧ s18 = .int .u64 bk ∧ bk ≤ 1 ∧ Wd.length = i + 1 ∧ (∀ x ∈ Wd, x < B32) ∧ Win wr G A Wd C off ∧ OnlyB G w wr ∧
              (∀ j, k ≤ j → Wd[j]? = W3[j]?) ∧ valB B32 (Wd.take k) + B32 ^ k * bk = valB B32 (W3.take k) + valB B32 (Y.take k)) (fun _ s134 _ => i - (intOf s134).toNat)
          case atStart => exact ⟨0, 0, W3, Nat.zero_le _, rfl, rfl, by omega, HL3.out, hWB3, hwin3, hor3, fun _ _ => rfl, by simp [valB]⟩
          case round =>
            obtain ⟨k, bk, Wd, hk, rfl, rfl, hbk, hWdl, hWdB, hwd, hod, hrest, hv⟩ := hrel
            have HV4 := hid hv; have HWD := hid hWdl; have HRE4 := hid hrest; clear hv hWdl hrest
            have hyr4 : Rw .u32 B32 wr (some ⟨b2, off2, none⟩) i d Y := hyc.same (by rw [hod.2.2.2.2 b2 hne, honly.2.2.2.2 b2 hne])
            have hb4 := hwd.lt
            by_cases hki : k < i
            · obtain ⟨y, hy, hyB, hcy2⟩ := hyr4.cell hki
              have hy' : y < 4294967296 := hyB
              obtain ⟨x, hx⟩ : ∃ x, Wd[k]? = some x := ⟨_, List.getElem?_eq_getElem (by rw [HWD.out]; omega)⟩
              have hx' : x < 4294967296 := hWdB _ (List.mem_of_getElem? hx)
              have hcx4 := hwd.cell hx
              have hfree4 := hwd.free (off + k)
              have HX := hid hx; have HY := hid hy; clear hx hy hyB
              go_wp2
              go_roundw
              case rel =>
                refine ⟨k + 1, (x + y + bk) / 4294967296, Wd.set k ((x + y + bk) % 4294967296), by omega, by go_num, by go_num, by omega, by rw [List.length_set]; exact HWD.out, mem_set_lt hWdB (Nat.mod_lt _ (by decide)) k, ?_, hod.setCell _ _, ?_, ?_⟩
                · have e : ((x : Int) + y + bk) % 4294967296 = (((x + y + bk) % 4294967296 : Nat) : Int) := by omega
                  rw [e]; exact hwd.set (by rw [HWD.out]; omega) _
                · intro j hj
                  rw [List.getElem?_set_ne (by omega)]
                  exact HRE4.out j (by omega)
                · exact addb_step (by rw [HWD.out]; omega) HV4.out (by rw [← HRE4.out k (Nat.le_refl _)]; exact HX.out) HY.out (Nat.mod_add_div _ _)
              case measure => simp [intOf]; omega
            · obtain rfl : k = i := by omega
              have hcx4 := hwd.cell (show Wd[k]? = some tl by rw [HRE4.out k (Nat.le_refl _)]; exact HTI.out)
              have hfree4 := hwd.free (off + k)
              go_wp2
              go_ret
              have e : ((tl : Int) + bk) % 4294967296 = (((tl + bk) % 4294967296 : Nat) : Int) := by omega
              have hB5 : ∀ x ∈ Wd.set k ((tl + bk) % 4294967296), x < B32 := mem_set_lt hWdB (Nat.mod_lt _ (by decide)) k
              have hl5 : (Wd.set k ((tl + bk) % 4294967296)).length = k + 1 := by rw [List.length_set]; exact HWD.out
              have h5 := valB_lt hB5
              rw [hl5] at h5
              have hYlt : valB B32 Y < B32 ^ (k + 1) := by
                have h1 := valB_lt hyc.lt
                rw [hyc.len] at h1
                exact Nat.lt_of_lt_of_le h1 (Nat.pow_le_pow_right (by decide) (by omega))
              have hend := digit_end2 (V := valB B32 W) (g := g) (x := (tl + bk) % 4294967296) (e := (tl + bk) / 4294967296) HWD.out HL3.out hyc.len HTI.out HV4.out (Nat.mod_add_div _ _) (by omega) HE.out h5 hYlt HEX.out HG0.out
              have hmod := mod_is (U := val W) (V := val Y) (q := g - 1) (r := val (Wd.set k ((tl + bk) % 4294967296))) (by
                have h6 := Nat.mul_le_mul_right (valB B32 Y) hgpos
                rw [Nat.sub_mul, Nat.one_mul]
                unfold val; omega) (by
                have h6 := HG0.out
                unfold val at *; omega)
              refine ⟨Wd.set k ((tl + bk) % 4294967296), ret_int (by rw [hmod.1]; omega), ?_, hl5, hB5, hmod.2.symm, hod.setCell _ _⟩
              rw [e]; exact hwd.set (by rw [HWD.out]; omega) _

end Go.Proofs.Ytpnoklbijfmoaaa

/-
  WALKS: limb.wide, limb.DivMod, limb.Sum: what they return, as numbers; nothing that was there turns.
-/
set_option linter.unusedVariables false
set_option linter.unusedSimpArgs false
namespace Go.Proofs.Ytpnoklbijfmoaaa
open Go.RowKit

theorem clampN_nat (s : Nat) (h : s ≤ 65536) : clampN (s : Int) = s := by unfold clampN; omega

/-- A row moved up, in l limbs. -/
theorem wide_any (ao : Option Addr) (n c : Nat) (xs : List Nat) (s l : Nat) (w : World) (hn : n ≤ 1073741824) (hs : s ≤ 65536) (hl : l ≤ 2147483648) (hr : Rw .u32 B32 w ao n c xs) (hfit : (limbs (val xs * 2 ^ s)).length ≤ l) :
    Calls Try.prog 37 #[.slice ao n c, .int .i64 (s : Int), .int .i64 (l : Int)] w fun e w' => ∃ (G : Nat) (os : List Nat), e = .returned (.slice (some ⟨G, 0, none⟩) l l) ∧ w.heap.size ≤ G ∧ Blk w' G 24 (ints .u32 os) ∧
      os.length = l ∧ (∀ x ∈ os, x < B32) ∧ val os = val xs * 2 ^ s ∧ Below w.heap.size w w' := by
  go_enter Try.func37, Try.ntmps37
  go_wp2_with (at_make; refine Hid.out ?_)
  refine hid ?_
  refine wpList_mk _ rfl _ _ 23 rfl 24 (.int .u32 0) 4 Try.underlying23 Try.infoU32 rfl .i64 .i64 _ _ l rfl rfl (by omega) (by omega) (by omega) (by unfold maxLen; omega) fun w2 hblk hbelow hlt => ?_
  obtain ⟨G, hG⟩ : ∃ G, G = w.heap.size := ⟨_, rfl⟩
  rw [← hG] at hblk hlt hbelow ⊢
  have HG := hid hG; clear hG
  rw [← ints_replicate] at hblk
  have hr2 := hr.ext (by rw [← HG.out]; exact hbelow)
  go_wp2_with fail
  refine (shl_any ao n c xs (s : Int) _ hn hr2).mono ?_
  rintro e w3 ⟨ro, k, c', rfl, hres, hown, hb3⟩
  rw [clampN_nat s hs] at hres
  have hblk3 := hblk.ext hb3
  have hlen := hres.len
  have HFIT := hid hfit; clear hfit
  go_wp2_with (with_reducible refine Hid.out (p := wpList _ _ _ ({ dst := some 14, op := _, type := _, pos := _, after := _, guard := _ } :: _) _ _) ?_)
  refine hid ?_
  refine wpList_cp rfl _ _ 23 23 rfl 24 Try.underlying23 Try.sizeU32 G 0 l l ro k c' rfl rfl _ 24 hblk3 (ints .u32 (limbs (val xs * 2 ^ s))) ?_ hres.cells ?_ (ints_one _ _) G (Nat.le_refl _) fun w4 hblk4 hb4 => ?_
  · rw [ints_length, hlen]; exact (Nat.min_eq_left (by rw [← hlen]; exact HFIT.out)).symm
  · rw [ints_length, ints_length]; simp; exact HFIT.out
  have hsp : splice (ints .u32 (List.replicate l 0)) 0 (ints .u32 (limbs (val xs * 2 ^ s))) = ints .u32 (limbs (val xs * 2 ^ s) ++ List.replicate (l - k) 0) := by
    simp [splice, ints, hlen]
  rw [hsp] at hblk4
  go_wp2
  go_ret
  refine ⟨G, limbs (val xs * 2 ^ s) ++ List.replicate (l - k) 0, rfl, by rw [HG.out]; exact Nat.le_refl _, hblk4, ?_, ?_, ?_, ?_⟩
  · have := HFIT.out
    rw [List.length_append, List.length_replicate, hlen]
    rw [hlen] at this; omega
  · intro x hx
    rcases List.mem_append.1 hx with hx | hx
    · exact limbs_lt _ x hx
    · have := (List.mem_replicate.1 hx).2; subst this; decide
  · unfold val
    rw [valB_append_zeros]
    exact val_limbs _
  · rw [← HG.out]
    exact (hbelow.trans (hb3.mono (by omega))).trans hb4

theorem val_one (x : Nat) : val [x] = x := by simp [val, valB]

/-- The error of a division: 2 by 0. -/
def divErr (v : Nat) : Int := if v = 0 then 2 else 0
/-- The remainder of a division; by 0 there is none. -/
def modZ (u v : Nat) : Nat := if v = 0 then 0 else u % v

theorem divErr_zero : divErr 0 = 2 := rfl
theorem divErr_pos {v : Nat} (h : v ≠ 0) : divErr v = 0 := if_neg h
theorem modZ_zero (u : Nat) : modZ u 0 = 0 := rfl
theorem modZ_pos (u : Nat) {v : Nat} (h : v ≠ 0) : modZ u v = u % v := if_neg h

set_option maxHeartbeats 2000000 in
/-- DivMod: quotient and remainder; by 0 there is none. -/
theorem divmod_any (ao bo : Option Addr) (n c m d : Nat) (xs ys : List Nat) (w : World) (hn : n ≤ 1073741823) (hm : m ≤ 1073741823) (hr : Rw .u32 B32 w ao n c xs) (hs : Rw .u32 B32 w bo m d ys) :
    Calls Try.prog 32 #[.slice ao n c, .slice bo m d] w fun e w' => ∃ qo qn qc ro rn rc, e = .returned (.tuple #[.slice qo qn qc, .slice ro rn rc, .int .i64 (divErr (val ys))]) ∧
      Rw .u32 B32 w' qo qn qc (limbs (val xs / val ys)) ∧ Own w.heap.size w' qo qc ∧ Rw .u32 B32 w' ro rn rc (limbs (modZ (val xs) (val ys))) ∧ Own w.heap.size w' ro rc ∧ Below w.heap.size w w' := by
  go_enter Try.func32, Try.ntmps32
  go_wp2_with fail
  refine (cut_any ao n c xs _ (by omega) hr).mono ?_
  rintro e w' ⟨n1, rfl, hn1, hp, rfl⟩
  go_wp2_with fail
  refine (cut_any bo m d ys _ (by omega) hs).mono ?_
  rintro e w' ⟨m1, rfl, hm1, hq, rfl⟩
  clear hr hs
  have hpl := hp.len
  have hql := hq.len
  by_cases h0 : m1 = 0
  · subst h0
    have hy0 : val ys = 0 := limbs_eq_nil.1 (List.eq_nil_of_length_eq_zero hql)
    have HY := hid hy0; clear hy0 hpl hql
    go_wp2
    go_ret3
    refine ⟨_, _, _, _, _, _, by rw [HY.out]; rfl, ?_, Own.nil _ _ _, ?_, Own.nil _ _ _, Below.refl _ _⟩
    · rw [HY.out, Nat.div_zero]; exact Rw.nil _ _ _
    · rw [HY.out]; exact Rw.nil _ _ _
  · have hy0 : val ys ≠ 0 := fun h => h0 (by rw [← hql, h]; rfl)
    have HY := hid hy0; clear hy0
    by_cases hlt : n1 < m1
    · have hlt2 : val xs < val ys := limbs_shorter (by rw [hpl, hql]; exact hlt)
      have HLT := hid hlt2; clear hlt2 hpl hql
      have hm0 : ((m1 : Int) == 0) = false := by rw [beq_eq_false_iff_ne]; omega
      go_wp2_with fail
      refine (norm_any _ _ _ _ _ (by omega) hp).mono ?_
      rintro e w1 ⟨ro, k, c', rfl, hk, hres, hown, hb⟩
      rw [val_limbs] at hres
      go_wp2
      go_ret3
      refine ⟨_, _, _, _, _, _, by rw [divErr_pos HY.out]; rfl, ?_, Own.nil _ _ _, ?_, hown, hb⟩
      · rw [Nat.div_eq_of_lt HLT.out]; exact Rw.nil _ _ _
      · rw [modZ_pos _ HY.out, Nat.mod_eq_of_lt HLT.out]; exact hres
    · by_cases h1 : m1 = 1
      · subst h1
        obtain ⟨b1, off1, v, rfl, hv, hvB, hcv⟩ := hq.at (show 0 < 1 by omega)
        have hvB' : v < 4294967296 := hvB
        rw [Nat.add_zero] at hcv
        have hvy : val ys = v := by
          have h2 : limbs (val ys) = [v] := by
            match hL : limbs (val ys), hql with
            | [a], _ => rw [hL] at hv; simp at hv; rw [hv]
          have h3 := val_limbs (val ys)
          rw [h2, val_one] at h3; exact h3.symm
        have hv0 : 0 < v := by have := HY.out; omega
        have HV := hid hvy; clear hvy hv hvB hpl hql
        go_wp2_with fail
        refine (one_any _ _ _ _ v _ (by omega) hv0 hvB' hp).mono ?_
        rintro e w1 ⟨ro, k, c', rfl, hres, hown, hb⟩
        rw [val_limbs] at hres ⊢
        have hrB : val xs % v < 4294967296 := Nat.lt_trans (Nat.mod_lt _ hv0) hvB'
        obtain ⟨r, hr⟩ : ∃ r, r = val xs % v := ⟨_, rfl⟩
        rw [← hr] at hrB ⊢
        have HR := hid hr; clear hr
        go_wp2_with fail
        have hblk : Blk (w1.alloc (.cells #[.int .u32 (r : Int)] 24)) w1.heap.size 24 (ints .u32 [r]) := Blk.new w1 24 (ints .u32 [r])
        have hb2 : Below w1.heap.size w1 (w1.alloc (.cells #[.int .u32 (r : Int)] 24)) := (Below.refl _ _).alloc (Nat.le_refl _) _
        have hrow := hblk.rw (B := B32) (by intro x hx; rw [List.mem_singleton.1 hx]; exact hrB)
        refine (cut_any _ 1 1 [r] _ (by omega) hrow).mono ?_
        rintro e w' ⟨k2, rfl, hk2, hres2, rfl⟩
        have hown2 := hblk.own (base := w.heap.size) hb.size (n := 1) (Nat.le_refl _)
        rw [val_one] at hres2
        go_wp2
        go_ret3
        exact ⟨_, _, _, _, _, _, by rw [divErr_pos HY.out]; rfl, by rw [HV.out]; exact hres.ext hb2, hown.ext hb2, by rw [modZ_pos _ HY.out, HV.out, ← HR.out]; exact hres2, hown2, ext_trans hb hb2⟩
      · have hm2 : 2 ≤ m1 := by omega
        have hm0 : ((m1 : Int) == 0) = false := by rw [beq_eq_false_iff_ne]; omega
        have hm1' : ((m1 : Int) == 1) = false := by rw [beq_eq_false_iff_ne]; omega
        obtain ⟨b1, off1, v, rfl, hv, hvB, hcv⟩ := hq.at (show m1 - 1 < m1 by omega)
        have hvB' : v < 4294967296 := hvB
        have hv0 : v ≠ 0 := by
          rintro rfl
          have h1 := (digs_nrm B32_two (val ys)).2
          rw [List.getLast?_eq_getElem?] at h1
          change (limbs (val ys))[(limbs (val ys)).length - 1]? ≠ some 0 at h1
          rw [hql] at h1
          exact h1 hv
        have hnb := nbits_le_of_lt (n := v) (k := 32) hvB'
        have hnb1 := nbits_pos hv0
        have hnb2 := nbits_lt v
        have hnb3 := nbits_le hv0
        obtain ⟨s, hs⟩ : ∃ s, s = 32 - nbits v := ⟨_, rfl⟩
        have hsB : s ≤ 31 := by omega
        have hS1 : (v + 1) * 2 ^ s ≤ B32 := by
          have h3 := Nat.mul_le_mul_right (2 ^ s) (show v + 1 ≤ 2 ^ nbits v from hnb2)
          rw [← Nat.pow_add, show nbits v + s = 32 by omega] at h3
          exact h3
        have hS2 : B32 ≤ 2 * (v * 2 ^ s) := by
          have h3 := Nat.mul_le_mul_right (2 ^ s) hnb3
          rw [← Nat.pow_add, show nbits v - 1 + s = 31 by omega] at h3
          unfold B32; omega
        have hSpos := Nat.two_pow_pos s
        have hVdec : val ys = v * B32 ^ (m1 - 1) + val ((limbs (val ys)).take (m1 - 1)) := by
          have h3 := valB_take_some B32 hv
          rw [show m1 - 1 + 1 = m1 by omega, valB_take_all _ hql] at h3
          change val (limbs (val ys)) = _ at h3
          rw [val_limbs] at h3
          rw [Nat.mul_comm, Nat.add_comm]; exact h3
        have hVlow := take_lt (B := B32) (k := m1 - 1) (limbs_lt (val ys)) (by rw [hql]; omega)
        obtain ⟨hs1, hs2, hs3⟩ := scale_facts hVdec hVlow hS1 hS2 hSpos
        have hU1 : val xs < B32 ^ n1 := by have h3 := val_lt (limbs_lt (val xs)); rwa [val_limbs, hpl] at h3
        have hfita : (limbs (val (limbs (val xs)) * 2 ^ s)).length ≤ n1 + 1 := by
          rw [val_limbs]
          refine limbs_le ?_
          rw [Nat.pow_succ]
          have h3 : 2 ^ s ≤ B32 := by
            have := Nat.mul_le_mul_right (2 ^ s) (show 1 ≤ v + 1 by omega)
            omega
          exact Nat.lt_of_lt_of_le (Nat.mul_lt_mul_of_pos_right hU1 hSpos) (Nat.mul_le_mul_left _ h3)
        have hfitb : (limbs (val (limbs (val ys)) * 2 ^ s)).length ≤ m1 := by
          rw [val_limbs]
          refine limbs_le ?_
          rw [show m1 - 1 + 1 = m1 by omega] at hs1; exact hs1
        have HS := hid hs; have HPL := hid hpl; have HQL := hid hql; have HFA := hid hfita; have HFB := hid hfitb; have HS1 := hid hs1; have HS2 := hid hs2; have HS3 := hid hs3; have HU1 := hid hU1; have HSP := hid hSpos
        clear hs hv hpl hql hvB hVdec hVlow hfita hfitb hs1 hs2 hs3 hU1 hSpos hS1 hS2 hnb hnb1 hnb2 hnb3
        go_wp2_with fail
        refine (lz32_any v _ hvB').mono ?_
        rintro e w' ⟨rfl, rfl⟩
        rw [← HS.out]
        go_wp2_with fail
        refine (wide_any ao n1 c _ s (n1 + 1) _ (by omega) (by omega) (by omega) hp HFA.out).mono ?_
        rintro e w1 ⟨Gx, X0, rfl, hGx, hbx, hxl, hxB, hxv, hb1⟩
        rw [val_limbs] at hxv
        have HXL := hid hxl; have HXV := hid hxv; clear hxl hxv
        have hbxlt := hbx.lt
        have hq1 := hq.ext hb1
        go_wp2_with fail
        refine (wide_any _ m1 d _ s m1 _ (by omega) (by omega) (by omega) hq1 HFB.out).mono ?_
        rintro e w2 ⟨Gy, Y0, rfl, hGy, hby, hyl, hyB, hyv, hb2⟩
        rw [val_limbs] at hyv
        have HYL := hid hyl; have HYV := hid hyv; clear hyl hyv
        have hbx2 := hbx.ext hb2
        have hb12 : Below w.heap.size w w2 := ext_trans hb1 hb2
        have hbylt := hby.lt
        obtain ⟨l, hl⟩ : ∃ l, n1 = m1 + l := ⟨n1 - m1, by omega⟩
        subst hl
        go_wp2_with (at_make; refine Hid.out ?_)
        refine hid ?_
        refine wpList_mk _ rfl _ _ 23 rfl 24 (.int .u32 0) 4 Try.underlying23 Try.infoU32 rfl .i64 .i64 _ _ (l + 1) rfl rfl (by omega) (by omega) (by omega) (by unfold maxLen; omega) fun w3 hblk hbelow hlt3 => ?_
        obtain ⟨Gq, hGq⟩ : ∃ G, G = w2.heap.size := ⟨_, rfl⟩
        rw [← hGq] at hblk hlt3 hbelow ⊢
        rw [← ints_replicate] at hblk
        have hbx3 := hbx2.ext (by rw [← hGq]; exact hbelow)
        have hby3 := hby.ext (by rw [← hGq]; exact hbelow)
        have hb13 : Below w.heap.size w w3 := ext_trans hb12 (by rw [← hGq]; exact hbelow)
        have HGQ := hid hGq
        have hxy : Gx ≠ Gy := by omega
        have hxq : Gx ≠ Gq := by omega
        have hyq : Gy ≠ Gq := by omega
        have hqbase : w.heap.size ≤ Gq := by rw [hGq]; exact hb12.size
        clear hGq hbx hbx2 hby hp hq hq1
        have hstart : valB B32 (X0.drop (l + 1)) < val Y0 := by
          rw [HYV.out]
          have h3 := valB_drop B32 X0 (l + 1) (by rw [HXL.out]; omega)
          have h4 := HU1.out
          rw [show m1 + l = (l + 1) + (m1 - 1) by omega] at h4
          exact start_lt (B := B32) (S := 2 ^ s) h4 h3 (by have := HXV.out; unfold val at *; exact this) HS3.out (by decide) HSP.out
        obtain ⟨yt, hyt⟩ : ∃ yt, Y0[m1 - 1]? = some yt := ⟨_, List.getElem?_eq_getElem (by rw [HYL.out]; omega)⟩
        have hytB : 2147483648 ≤ yt := by
          have h3 := top_digit (B := B32) (k := m1 - 1) (V := val ys * 2 ^ s) hyB (by rw [HYL.out]; omega) hyt HYV.out HS2.out
          unfold B32 at h3; omega
        have hYlt : val Y0 < B32 ^ m1 := by
          have h3 := HS1.out
          rw [show m1 - 1 + 1 = m1 by omega] at h3
          rw [HYV.out]; exact h3
        have HST := hid hstart; have HYT := hid hyt; have HYLT := hid hYlt
        clear hstart hyt hYlt
        go_wp2_with fail
        go_loopw [13] (fun s13 wr => ∃ (k : Nat) (os qs : List Nat), k ≤ l + 1 ∧ s13 = .int .i64 ((k : Int) - 1) ∧ os.length = m1 + l + 1 ∧ (∀ x ∈ os, x < B32) ∧ qs.length = l + 1 ∧ (∀ x ∈ qs, x < B32) ∧ Blk wr Gx 24 (ints .u32 os) ∧
            Blk wr Gy 24 (ints .u32 Y0) ∧ Blk wr Gq 24 (ints .u32 qs) ∧ Below w.heap.size w wr ∧ valB B32 (os.drop k) < val Y0 ∧ valB B32 os + B32 ^ k * (valB B32 (qs.drop k) * val Y0) = val X0) (fun s13 _ => (intOf s13 + 1).toNat)
        case atStart => exact ⟨l + 1, X0, List.replicate (l + 1) 0, Nat.le_refl _, by go_num, HXL.out, hxB, by simp, (fun o ho => by have := (List.mem_replicate.1 ho).2; subst this; decide), hbx3, hby3, hblk, hb13, HST.out, by rw [List.drop_of_length_le (by simp)]; simp [valB, val]⟩
        case round =>
          obtain ⟨k, os, qs, hk, rfl, hol, hoB, hqsl, hqsB, hbx, hby, hbq, hbe, hlt4, hv⟩ := hrel
          have HOL := hid hol; have HQSL := hid hqsl; have HLT4 := hid hlt4; have HV := hid hv
          clear hol hqsl hlt4 hv hblk hbx3 hby3 hb13 hbelow
          by_cases hk0 : k = 0
          · subst hk0
            have hv := HV.out
            have hlt4 := HLT4.out
            rw [List.drop_zero] at hv hlt4
            rw [Nat.pow_zero, Nat.one_mul, HXV.out, HYV.out] at hv
            rw [HYV.out] at hlt4
            obtain ⟨hdiv, hmod⟩ := unscale HSP.out hv hlt4
            have hqrow := hbq.rw hqsB
            rw [HQSL.out] at hqrow
            have hxrow := hbx.rw hoB
            rw [HOL.out] at hxrow
            have hxrow2 := hxrow.take (m := m1) (by omega)
            have hxval : val (os.take m1) = val os := by
              have h3 := valB_drop B32 os m1 (by rw [HOL.out]; omega)
              have h4 := HYLT.out
              rw [HYV.out] at h4
              have h5 : valB B32 (os.drop m1) = 0 := by
                rcases Nat.eq_zero_or_pos (valB B32 (os.drop m1)) with h5 | h5
                · exact h5
                · have := Nat.mul_le_mul_left (B32 ^ m1) h5
                  omega
              rw [h5] at h3
              exact h3.symm
            have hownq := hbq.own (base := w.heap.size) hqbase (n := l + 1) (by rw [ints_length, HQSL.out]; exact Nat.le_refl _)
            have hdiv' : val xs / val ys = val qs := hdiv
            have hmod' : val xs % val ys = val os / 2 ^ s := hmod
            have HD := hid hdiv'; have HM := hid hmod'; have HXVL := hid hxval
            clear hv hlt4 hdiv hmod hdiv' hmod' hxval HV HLT4
            have hqd : Rw .u32 B32 wr.drew (some ⟨Gq, 0, none⟩) (l + 1) (l + 1) qs := hqrow
            have hxd : Rw .u32 B32 wr.drew (some ⟨Gx, 0, none⟩) m1 (m1 + l + 1) (os.take m1) := hxrow2
            go_wp2_with fail
            go_region_with (first | (go_at_call 34; refine (cut_any _ _ _ _ _ (by omega) hqd).mono ?_; rintro e w' ⟨k2, rfl, hk2, hres2, rfl⟩) | (go_at_call 39; refine (shr_any _ _ _ _ (s : Int) _ (by omega) hxd).mono ?_; rintro e w' ⟨ro, k3, c3, rfl, hres3, hown3, hb3⟩))
            all_goals
              go_wp2
              go_ret3
              rw [clampN_nat s (by omega), HXVL.out, ← HM.out] at hres3
              have hres4 : Rw .u32 B32 wr.drew (some ⟨Gq, 0, none⟩) k2 (l + 1) (limbs (val xs / val ys)) := by rw [HD.out]; exact hres2
              have hown4 : Own w.heap.size wr.drew (some ⟨Gq, 0, none⟩) (l + 1) := hownq
              have hbd : Below w.heap.size w wr.drew := hbe.drew
              exact ⟨_, _, _, _, _, _, by rw [divErr_pos HY.out]; rfl, hres4.ext hb3, hown4.ext hb3, by rw [modZ_pos _ HY.out]; exact hres3, hown3.mono hbd.size, ext_trans hbd hb3⟩
          · obtain ⟨j, rfl⟩ : ∃ j, k = j + 1 := ⟨k - 1, by omega⟩
            obtain ⟨A, hA⟩ : ∃ A, A = os.take j := ⟨_, rfl⟩
            obtain ⟨W, hW⟩ : ∃ W, W = (os.drop j).take (m1 + 1) := ⟨_, rfl⟩
            obtain ⟨C, hC⟩ : ∃ C, C = (os.drop j).drop (m1 + 1) := ⟨_, rfl⟩
            have hos : os = A ++ (W ++ C) := by rw [hA, hW, hC, List.take_append_drop, List.take_append_drop]
            have hAl : A.length = j := by rw [hA, List.length_take, HOL.out]; omega
            have hWl : W.length = m1 + 1 := by rw [hW, List.length_take, List.length_drop, HOL.out]; omega
            have hWB : ∀ x ∈ W, x < B32 := fun x hx => hoB x (by rw [hos]; exact List.mem_append_right _ (List.mem_append_left _ hx))
            have hABs : ∀ x ∈ A, x < B32 := fun x hx => hoB x (by rw [hos]; exact List.mem_append_left _ hx)
            have hCBs : ∀ x ∈ C, x < B32 := fun x hx => hoB x (by rw [hos]; exact List.mem_append_right _ (List.mem_append_right _ hx))
            have hCl : C.length + j + m1 = m1 + l := by
              have := HOL.out
              rw [hos, List.length_append, List.length_append, hAl, hWl] at this; omega
            have hv := HV.out
            have hlt4 := HLT4.out
            rw [hos] at hv hlt4 hbx
            have hpre := div_pre B32_two hAl hWl hWB HYLT.out hlt4
            have hwin : Win wr Gx A W C j := ⟨hbx, hAl⟩
            have hyrow := hby.rw hyB
            rw [HYL.out] at hyrow
            have HV2 := hid hv; have HPRE := hid hpre; have HWL := hid hWl; have HCL := hid hCl; have HAL := hid hAl
            clear hv hlt4 hbx hA hW hC hos hWl hCl hAl hpre HV HLT4
            go_wp2_with fail
            rw [show j + m1 + 1 - j = m1 + 1 by omega]
            refine (digit_any Gx j m1 _ Gy 0 m1 A W C Y0 _ (by omega) hm2 hwin HWL.out hWB (by omega) hyrow (Ne.symm hxy) yt HYT.out hytB HPRE.out.1).mono ?_
            rintro e w' ⟨W', rfl, hwin', hWl', hWB', hWv', honly⟩
            have hbq' : Blk w' Gq 24 (ints .u32 qs) := by unfold Blk; rw [honly.2.2.2.2 Gq (Ne.symm hxq)]; exact hbq
            have hby' : Blk w' Gy 24 (ints .u32 Y0) := by unfold Blk; rw [honly.2.2.2.2 Gy (Ne.symm hxy)]; exact hby
            have hbe' : Below w.heap.size w w' := hbe.trans (honly.below hGx)
            have hcell := hbq'.cell j (by rw [ints_length, HQSL.out]; omega)
            have hfree := hbq'.free j
            obtain ⟨q, hq⟩ : ∃ q, q = val W / val Y0 := ⟨_, rfl⟩
            rw [← hq]
            have hYpos : 0 < val Y0 := by
              have := HPRE.out.1
              rcases Nat.eq_zero_or_pos (val Y0) with h5 | h5
              · rw [h5, Nat.mul_zero] at this; omega
              · exact h5
            have hqB : q < 4294967296 := by
              rw [hq, Nat.div_lt_iff_lt_mul hYpos]; exact HPRE.out.1
            have hWq : valB B32 W' + q * val Y0 = valB B32 W := by
              have := Nat.mod_add_div (val W) (val Y0)
              rw [← hWv', ← hq, Nat.mul_comm (val Y0)] at this; exact this
            have hWlt : valB B32 W' < val Y0 := by
              have := Nat.mod_lt (val W) hYpos
              rw [← hWv'] at this; exact this
            have hstep := div_step (n := m1) (C := C) HAL.out HPRE.out.2 hWq (by rw [HQSL.out]; omega) HV2.out hWl' HWL.out
            have HQ := hid hq; have HST2 := hid hstep; have HWL' := hid hWl'; have HWV := hid hWv'; have HWLT := hid hWlt
            clear hq hstep hWl' hWv' hWq hWlt
            have hlen' : (A ++ (W' ++ C)).length = m1 + l + 1 := by
              rw [List.length_append, List.length_append, HAL.out, HWL'.out]
              have := HCL.out; omega
            have HL5 := hid hlen'; clear hlen'
            go_wp2
            go_roundw
            case rel =>
              have hv := hbq'.set j (.int .u32 (q : Int))
              rw [ints_set] at hv
              refine ⟨j, A ++ (W' ++ C), qs.set j q, by omega, by go_num, HL5.out, ?_, by rw [List.length_set]; exact HQSL.out, mem_set_lt hqsB hqB j, hwin'.1.other hxq _, hby'.other hyq _, hv, hbe'.setCell hqbase _, ?_, ?_⟩
              · intro x hx
                rcases List.mem_append.1 hx with hx | hx
                · exact hABs x hx
                · rcases List.mem_append.1 hx with hx | hx
                  · exact hWB' x hx
                  · exact hCBs x hx
              · rw [HST2.out.2]; exact HWLT.out
              · exact HST2.out.1
            case measure => simp [intOf]; try omega

end Go.Proofs.Ytpnoklbijfmoaaa

/-
  CONTRACTS in the machine's words: rows of limbs and of digits.
-/
set_option linter.unusedVariables false
set_option linter.unusedSimpArgs false
namespace Go.Proofs.Ytpnoklbijfmoaaa
open Go.RowKit

theorem ln_R {B : BS} {w w' : World} {K m : Nat} {a : Option Addr} {n c : Nat} (hB : ∀ b, B b → b < w.heap.size) (h : Rw .u32 B32 w' a n c (limbs m)) (hm : m < B32 ^ K) (ho : Own w.heap.size w' a c) : LfR B w' (ln K m) (.slice a n c) := lr_R h (limbs_K h hm) (own_out hB ho h)
theorem dn_R {B : BS} {w w' : World} {K m : Nat} {a : Option Addr} {n c : Nat} (hB : ∀ b, B b → b < w.heap.size) (h : Rw .i64 B4 w' a n c (digs4 m)) (hm : m < B4 ^ K) (ho : Own w.heap.size w' a c) : LfR B w' (dn K m) (.slice a n c) := dr_R h (digs_K h hm) (own_out hB ho h)
theorem pow_le {B K M : Nat} (hB : 2 ≤ B) (h : K ≤ M) {m : Nat} (hm : m < B ^ K) : m < B ^ M := Nat.lt_of_lt_of_le hm (Nat.pow_le_pow_right (by omega) h)

set_option maxHeartbeats 1000000 in
theorem aLNorm {l : Lf} {K m : Nat} (h : IsL l K m) (hK : K ≤ 1073741824 := by decide) : ACall Try.prog 31 [.one l] (.d (.one (ln K m))) := by
  obtain ⟨xs, hl1, rfl⟩ := h
  refine ⟨enters Try.func31 rfl rfl, fun B w vs hB hvs => ?_⟩
  match vs, hvs with
  | [v], ⟨h1, _⟩ =>
    obtain ⟨a, n, c, rfl, hr, hn, hb⟩ := lr_of (hl1 _ _ _ h1)
    refine (norm_any a n c xs w (by omega) hr).mono ?_
    rintro e w' ⟨ro, k, c', rfl, hk, h3, ho, hbb⟩
    exact ⟨_, rfl, hbb, ln_R hB h3 (lr_lt hr hn) ho⟩

set_option maxHeartbeats 1000000 in
theorem aLAdd {a b : Lf} {K L M m n : Nat} (h : IsL a K m) (k : IsL b L n) (hM : max K L + 1 ≤ M := by decide) (hK : K ≤ 1073741824 := by decide) (hL : L ≤ 1073741824 := by decide) : ACall Try.prog 40 [.one a, .one b] (.d (.one (ln M (m + n)))) := by
  obtain ⟨xs, hl1, rfl⟩ := h
  obtain ⟨ys, hl2, rfl⟩ := k
  refine ⟨enters Try.func40 rfl rfl, fun B w vs hB hvs => ?_⟩
  match vs, hvs with
  | [v, u], ⟨h1, h2, _⟩ =>
    obtain ⟨a, n, c, rfl, hr, hn, hb⟩ := lr_of (hl1 _ _ _ h1)
    obtain ⟨a', n', c', rfl, hr', hn', hb'⟩ := lr_of (hl2 _ _ _ h2)
    refine (add_any a a' n c n' c' xs ys w (by omega) (by omega) hr hr').mono ?_
    rintro e w' ⟨ro, k, cc, rfl, h3, ho, hbb⟩
    exact ⟨_, rfl, hbb, ln_R hB h3 (pow_le (by decide) hM (max_add_lt (by decide) (lr_lt hr hn) (lr_lt hr' hn'))) ho⟩

set_option maxHeartbeats 1000000 in
theorem aLSub {a b : Lf} {K L m n : Nat} (h : IsL a K m) (k : IsL b L n) (hK : K ≤ 1073741824 := by decide) (hL : L ≤ 1073741824 := by decide) : ACall Try.prog 41 [.one a, .one b] (.tup [.one (ln K (m - n)), .one (.v (.bool (decide (n ≤ m))))]) := by
  obtain ⟨xs, hl1, rfl⟩ := h
  obtain ⟨ys, hl2, rfl⟩ := k
  refine ⟨enters Try.func41 rfl rfl, fun B w vs hB hvs => ?_⟩
  match vs, hvs with
  | [v, u], ⟨h1, h2, _⟩ =>
    obtain ⟨a, n, c, rfl, hr, hn, hb⟩ := lr_of (hl1 _ _ _ h1)
    obtain ⟨a', n', c', rfl, hr', hn', hb'⟩ := lr_of (hl2 _ _ _ h2)
    refine (sub_any a a' n c n' c' xs ys w (by omega) (by omega) hr hr').mono ?_
    rintro e w' ⟨ro, k, cc, rfl, h3, ho, hbb⟩
    have hlt := lr_lt hr hn
    exact ⟨_, rfl, hbb, [.slice ro k cc, .bool (decide (val ys ≤ val xs))], rfl, ln_R hB h3 (by omega) ho, ⟨rfl, rfl⟩, trivial⟩

set_option maxHeartbeats 1000000 in
theorem aLCmp {a b : Lf} {K L m n : Nat} (h : IsL a K m) (k : IsL b L n) (hK : K ≤ 1073741824 := by decide) (hL : L ≤ 1073741824 := by decide) : ACall Try.prog 44 [.one a, .one b] (.d (.one (.v (.int .i64 (cmpZ m n))))) := by
  obtain ⟨xs, hl1, rfl⟩ := h
  obtain ⟨ys, hl2, rfl⟩ := k
  refine ⟨enters Try.func44 rfl rfl, fun B w vs hB hvs => ?_⟩
  match vs, hvs with
  | [v, u], ⟨h1, h2, _⟩ =>
    obtain ⟨a, n, c, rfl, hr, hn, hb⟩ := lr_of (hl1 _ _ _ h1)
    obtain ⟨a', n', c', rfl, hr', hn', hb'⟩ := lr_of (hl2 _ _ _ h2)
    refine (cmp_any a a' n c n' c' xs ys w (by omega) (by omega) hr hr').mono ?_
    rintro e w' ⟨rfl, hbb⟩
    exact ⟨_, rfl, hbb, rfl, rfl⟩

set_option maxHeartbeats 1000000 in
theorem aLDiv {a b : Lf} {K L m n : Nat} (h : IsL a K m) (k : IsL b L n) (hK : K ≤ 1073741823 := by decide) (hL : L ≤ 1073741823 := by decide) : ACall Try.prog 32 [.one a, .one b] (.tup [.one (ln K (m / n)), .one (ln L (modZ m n)), .one (.v (.int .i64 (divErr n)))]) := by
  obtain ⟨xs, hl1, rfl⟩ := h
  obtain ⟨ys, hl2, rfl⟩ := k
  refine ⟨enters Try.func32 rfl rfl, fun B w vs hB hvs => ?_⟩
  match vs, hvs with
  | [v, u], ⟨h1, h2, _⟩ =>
    obtain ⟨a, n, c, rfl, hr, hn, hb⟩ := lr_of (hl1 _ _ _ h1)
    obtain ⟨a', n', c', rfl, hr', hn', hb'⟩ := lr_of (hl2 _ _ _ h2)
    refine (divmod_any a a' n c n' c' xs ys w (by omega) (by omega) hr hr').mono ?_
    rintro e w' ⟨qo, qn, qc, ro, rn, rc, rfl, h3, h4, h5, h6, hbb⟩
    have hq : val xs / val ys < B32 ^ K := Nat.lt_of_le_of_lt (Nat.div_le_self _ _) (lr_lt hr hn)
    have hm : modZ (val xs) (val ys) < B32 ^ L := by
      by_cases h0 : val ys = 0
      · rw [h0, modZ_zero]; exact Nat.pow_pos (by decide)
      · rw [modZ_pos _ h0]; exact Nat.lt_trans (Nat.mod_lt _ (by omega)) (lr_lt hr' hn')
    exact ⟨_, rfl, hbb, [.slice qo qn qc, .slice ro rn rc, .int .i64 (divErr (val ys))], rfl, ln_R hB h3 hq h4, ln_R hB h5 hm h6, ⟨rfl, rfl⟩, trivial⟩

set_option maxHeartbeats 1000000 in
theorem aWithin {v : Int} {n : Nat} (hn : 1 ≤ n := by decide) (hn2 : n ≤ 1000000 := by decide) (h1 : -9223372036854775808 ≤ v) (h2 : v ≤ 9223372036854775807) : ACall Try.prog 4 [.one (.v (.int .i64 v)), .one (.v (.int .i64 (n : Int)))] (.d (.one (.v (.int .i64 (v % (n : Int)))))) := by
  refine ⟨enters Try.func4 rfl rfl, fun B w vs hB hvs => ?_⟩
  match vs, hvs with
  | [_, _], ⟨⟨rfl, _⟩, ⟨rfl, _⟩, _⟩ =>
    refine (within_any v n w hn hn2 h1 h2).mono ?_
    rintro e w' ⟨rfl, rfl⟩
    exact ⟨_, rfl, Below.refl _ _, rfl, rfl⟩

end Go.Proofs.Ytpnoklbijfmoaaa

/-
  WHOLE NUMBERS in the machine's words.
-/
set_option linter.unusedVariables false
set_option linter.unusedSimpArgs false
namespace Go.Proofs.Ytpnoklbijfmoaaa
open Go.RowKit

theorem le_made {K m : Nat} {b : Bool} {z : Int} (h1 : b = decide (z < 0)) (h2 : m = z.natAbs) : AV.le (.d (.agg [.v (.bool b), ln K m])) (.d (.agg (zn K z))) := by subst h1; subst h2; exact AV.le.rfl
theorem le_rmade {K m : Nat} {b : Bool} {z : Int} (h1 : b = decide (z < 0)) (h2 : m = z.natAbs) : AV.le (.d (.agg [dn K m, .v (.bool b)])) (.d (.agg (rn K z))) := by subst h1; subst h2; exact AV.le.rfl
theorem limbs_len (m : Nat) : (limbs m).length = 0 ↔ m = 0 := by
  rw [List.length_eq_zero_iff]; exact limbs_eq_nil
theorem digs_len (m : Nat) : (digs4 m).length = 0 ↔ m = 0 := by
  rw [List.length_eq_zero_iff]; exact digs4_eq_nil
def sgn (z : Int) : Int := if z < 0 then -1 else if z = 0 then 0 else 1
theorem nbits_zero_iff (m : Nat) : nbits m = 0 ↔ m = 0 := ⟨fun h => by
  rcases Nat.eq_zero_or_pos m with h0 | h0
  · exact h0
  · have := nbits_pos (n := m) (by omega); omega, fun h => by subst h; rfl⟩
theorem zv_mul (s t : Bool) (a b : Nat) : zv (s != t) (a * b) = zv s a * zv t b := by
  cases s <;> cases t <;> simp [zv, Int.neg_mul, Int.mul_neg]
theorem zv_add (s t : Bool) (a b : Nat) (h : (s == t) = true) : zv s (a + b) = zv s a + zv t b := by
  cases s <;> cases t <;> simp_all [zv] <;> omega
theorem zv_sub1 (s t : Bool) (a b : Nat) (h : (s == t) = false) (hle : b ≤ a) : zv s (a - b) = zv s a + zv t b := by
  cases s <;> cases t <;> simp_all [zv] <;> omega
theorem zv_sub2 (s t : Bool) (a b : Nat) (h : (s == t) = false) (hle : ¬ b ≤ a) : zv t (b - a) = zv s a + zv t b := by
  cases s <;> cases t <;> simp_all [zv] <;> omega
theorem zvz (x : Int) : x = zv (decide (x < 0)) x.natAbs := (zv_natAbs x).symm

set_option maxRecDepth 100000 in
set_option maxHeartbeats 4000000 in
theorem aMade {K m : Nat} {neg : Bool} {z : Int} (hz : zv neg m = z) : ACall Try.prog 30 [.one (ln K m), .one (.v (.bool neg))] (.d (.agg (zn K z))) := by
  subst hz
  cases neg
  · skip
    refine acallN hTT 13 [.cell 4 28] Try.func30 rfl rfl rfl rfl rfl ?_
    refine cSeq ?_
    refine cReg ?_
    refine mN hTT (.box 28 ([.v (.bool false), .v (.slice none 0 0)])) rfl rfl rfl ?_
    refine mNil ?_
    refine tN ?_
    refine cSeq ?_
    refine cReg ?_
    refine mV hTT _ rfl ?_
    refine mV hTT _ rfl ?_
    refine mG rfl rfl ?_
    refine mG rfl rfl ?_
    refine mG rfl rfl ?_
    refine mV hTT _ rfl ?_
    refine mV hTT _ rfl ?_
    refine mV hTT (.d (.agg ([.v (.bool false), ln K m]))) rfl ?_
    refine mS hTT 4 (.box 28 ([.v (.bool false), ln K m])) rfl ?_
    refine mNil ?_
    refine tN ?_
    refine cRet ?_
    exact rQ rfl (le_made (by simp [zv_neg]) (zv_abs _ _).symm)
  · skip
    refine acallN hTT 13 [.cell 4 28] Try.func30 rfl rfl rfl rfl rfl ?_
    refine cSeq ?_
    refine cReg ?_
    refine mN hTT (.box 28 ([.v (.bool false), .v (.slice none 0 0)])) rfl rfl rfl ?_
    refine mNil ?_
    refine tN ?_
    refine cSeq ?_
    refine cReg ?_
    refine mV hTT _ rfl ?_
    refine mV hTT _ rfl ?_
    refine mV hTT _ rfl ?_
    refine mV hTT (.d (.one (.v (.int .i64 ((limbs m).length : Int))))) rfl ?_
    refine mV hTT (.d (.one (.v (.bool (decide (((limbs m).length : Int) > 0)))))) rfl ?_
    refine mV hTT _ rfl ?_
    refine mV hTT _ rfl ?_
    refine mV hTT (.d (.agg ([.v (.bool (decide (((limbs m).length : Int) > 0))), ln K m]))) rfl ?_
    refine mS hTT 4 (.box 28 ([.v (.bool (decide (((limbs m).length : Int) > 0))), ln K m])) rfl ?_
    refine mNil ?_
    refine tN ?_
    refine cRet ?_
    exact rQ rfl (le_made (by rw [zv_neg]; have := limbs_len m; rw [Bool.true_and, decide_eq_decide]; omega) (zv_abs _ _).symm)

set_option maxRecDepth 100000 in
set_option maxHeartbeats 4000000 in
theorem aNorm {a : List Lf} {K : Nat} {x : Int} (ha : IsZ a K x) (hK : K ≤ 1073741824 := by decide) : ACall Try.prog 20 [.agg a] (.d (.agg (zn K x))) := by
  obtain ⟨s, xs, ha, rfl⟩ := ha
  refine ACall.le (dl (DV.z ha) dl0) AV.le.rfl ?_
  refine acallN hTT 9 [.cell 2 28] Try.func20 rfl rfl rfl rfl rfl ?_
  refine cSeq ?_
  refine cReg ?_
  refine mN hTT (.box 28 ([.v (.bool s), lr K xs])) rfl rfl rfl ?_
  refine mN hTT (.box 28 ([.v (.bool false), .v (.slice none 0 0)])) rfl rfl rfl ?_
  refine mNil ?_
  refine tN ?_
  refine cSeq ?_
  refine cDrawK hTT 6 (by kernel_rfl) (by kernel_rfl) (by kernel_rfl) ?_
  refine .cons (OpS.V (.ptr 1 1) rfl) ?_
  refine .cons (OpS.V (.d (.one (lr K xs))) rfl) ?_
  refine .cons (OpS.C0 (aLNorm (islv K xs) (by omega)) rfl rfl rfl) ?_
  refine .cons (OpS.V (.ptr 1 0) rfl) ?_
  refine .cons (OpS.V (.d (.one (.v (.bool s)))) rfl) ?_
  refine .cons (OpS.C0 (aMade (K := K) (m := (val xs)) (neg := s) rfl) rfl rfl rfl) ?_
  refine .nil ?_
  refine mS hTT 2 (.box 28 (zn K (zv s (val xs)))) rfl ?_
  refine mNil ?_
  refine tN ?_
  refine cRet ?_
  exact rQ rfl (AV.le.rfl)

set_option maxRecDepth 100000 in
set_option maxHeartbeats 4000000 in
theorem aNeg {a : List Lf} {K : Nat} {x : Int} (ha : IsZ a K x) (hK : K ≤ 1073741824 := by decide) : ACall Try.prog 27 [.agg a] (.d (.agg (zn K (-x)))) := by
  obtain ⟨s, xs, ha, rfl⟩ := ha
  refine ACall.le (dl (DV.z ha) dl0) AV.le.rfl ?_
  refine acallN hTT 10 [.cell 2 28] Try.func27 rfl rfl rfl rfl rfl ?_
  refine cSeq ?_
  refine cReg ?_
  refine mN hTT (.box 28 ([.v (.bool s), lr K xs])) rfl rfl rfl ?_
  refine mN hTT (.box 28 ([.v (.bool false), .v (.slice none 0 0)])) rfl rfl rfl ?_
  refine mNil ?_
  refine tN ?_
  refine cSeq ?_
  refine cDrawK hTT 7 (by kernel_rfl) (by kernel_rfl) (by kernel_rfl) ?_
  refine .cons (OpS.V (.ptr 1 1) rfl) ?_
  refine .cons (OpS.V (.d (.one (lr K xs))) rfl) ?_
  refine .cons (OpS.C0 (aLNorm (islv K xs) (by omega)) rfl rfl rfl) ?_
  refine .cons (OpS.V (.ptr 1 0) rfl) ?_
  refine .cons (OpS.V (.d (.one (.v (.bool s)))) rfl) ?_
  refine .cons (OpS.V (.d (.one (.v (.bool (!s))))) rfl) ?_
  refine .cons (OpS.C0 (aMade (K := K) (m := (val xs)) (neg := !s) rfl) rfl rfl rfl) ?_
  refine .nil ?_
  refine mS hTT 2 (.box 28 (zn K (zv (!s) (val xs)))) rfl ?_
  refine mNil ?_
  refine tN ?_
  refine cRet ?_
  exact rQ rfl (le_zn (Nat.le_refl _) (by cases s <;> simp [zv]))

end Go.Proofs.Ytpnoklbijfmoaaa

/-
  THE ABSTRACT MACHINE, 16: rules for rows of symbolic length; tuples; plain law of division. No condition; nothing of the program.
-/
set_option linter.unusedVariables false
set_option linter.unusedSimpArgs false
namespace Go.Proofs.Ytpnoklbijfmoaaa
open Go.RowKit

theorem dle {a b : DV} (h : AV.le (.d a) (.d b)) : ∀ B w v, DR B w a v → DR B w b v := fun B w v hv => h (fun _ => none) B w v hv
theorem le_tup {xs ys : List DV} (h : DsLe xs ys) : AV.le (.tup xs) (.tup ys) := fun ρ B w v ⟨cs, e, hl⟩ => ⟨cs, e, h.ok hl⟩

section
variable {T : TypeId → Option TI} {s : AS} {t e : TypeId} {ti te : TI} {x ix : Operand} {k : IntKind} {z : Int} {sz n id : Nat} {el : Nat → Nat → Lf}
theorem ixR (h1 : T t = some ti) (h2 : ti.elem = some e) (h3 : T e = some te) (h4 : ints2 s ix = some (k, z)) (h5 : geto s x = some (.d (.one (.row sz n el)))) (h6 : Nat.beq sz te.n = true) (hz : 0 ≤ z) (hz2 : z < (n : Int)) : evV T s (.indexAddr t x ix) = some (.d (.one (.at sz (el z.toNat)))) := by
  have h6' := Nat.eq_of_beq_eq_true h6
  simp only [evV, h1, h2, h3, h4, h5]
  rw [if_pos ⟨h6', hz, hz2⟩]; rfl
theorem ixO {e' : TypeId} (h1 : T t = some ti) (h2 : ti.elem = some e) (h3 : T e = some te) (h4 : ints2 s ix = some (k, z)) (h5 : geto s x = some (.own id)) (h7 : lkU s.hp id = some (.row e' sz n el)) (h6 : Nat.beq sz te.n = true) (hz : 0 ≤ z) (hz2 : z < (n : Int)) : evV T s (.indexAddr t x ix) = some (.eptr id sz z.toNat 0) := by
  have h6' := Nat.eq_of_beq_eq_true h6
  simp only [evV, h1, h2, h3, h4, h5, h7]
  rw [if_pos ⟨h6', hz, hz2⟩]
theorem slR {hi : Operand} (h1 : T t = some ti) (h2 : ti.elem = some e) (h3 : T e = some te) (h4 : ints2 s hi = some (k, z)) (h5 : geto s x = some (.d (.one (.row sz n el)))) (h6 : Nat.beq sz te.n = true) (hz : 0 ≤ z) (hz2 : z ≤ (n : Int)) : evV T s (.slice t x none (some hi) none) = some (.d (.one (.row sz z.toNat el))) := by
  have h6' := Nat.eq_of_beq_eq_true h6
  simp only [evV, h1, h2, h3, h5, bndV, h4, if_pos hz]
  rw [if_pos ⟨h6', Nat.zero_le _, by omega⟩]
  show some (AV.d (.one (.row sz (z.toNat - 0) fun i j => el (0 + i) j))) = _
  simp only [Nat.sub_zero, Nat.zero_add]
theorem mkO {l c : Operand} {zl zc : Int} {k' : IntKind} {bts nn : Nat} {zz : List Value} (h1 : T t = some ti) (h2 : ti.elem = some e) (h3 : T e = some te) (h4 : ints2 s l = some (k, zl)) (h5 : ints2 s c = some (k', zc)) (h0 : 0 ≤ zl) (h6 : zl ≤ zc) (hb : te.bytes = bts) (hn : te.n = nn) (hzz : te.zero = zz) (h7 : (bts : Int) * zc ≤ 140737488355328) (h8 : zc ≤ 9223372036854775807) (h9 : Nat.beq te.zero.length te.n = true) : evN T s (.makeSlice t l c) = some (.row e nn zl.toNat fun _ j => .v ((zz[j]?).getD undef)) := by
  have h9' := Nat.eq_of_beq_eq_true h9
  subst hb; subst hn; subst hzz
  simp only [evN, h1, h2, h3, h4, h5]
  rw [if_pos ⟨h0, h6, h7, h8, h9'⟩]
end

theorem inc64 {i : Nat} (h : i < 1000000001 := by omega) : IntKind.i64.wrap ((i : Int) + 1) = ((i + 1 : Nat) : Int) := (wr64 (by omega) (by omega)).trans (by omega)

theorem leo_row0 {e : TypeId} {sz : Nat} {el el' : Nat → Nat → Lf} : AO.le (.row e sz 0 el) (.row e sz 0 el') := leo_row fun i hi => absurd hi (Nat.not_lt_zero _)

/-! ### Small numbers -/
theorem shr32 (m : Nat) : Int.fdiv (m : Int) (2 ^ (min (Int.toNat 32) 64)) = ((m / 4294967296 : Nat) : Int) := by
  rw [Int.fdiv_eq_ediv_of_nonneg _ (by decide)]; exact (Int.natCast_ediv m 4294967296).symm
theorem of_row {m : Nat} {el : Nat → Nat → Lf} (hm : m < 18446744073709551616) (h0 : el 0 0 = .v (.int .u32 ((m % 4294967296 : Nat) : Int)) := by rfl) (h1 : el 1 0 = .v (.int .u32 ((m / 4294967296 : Nat) : Int)) := by rfl) : IsL (.row 1 2 el) 2 m := by
  refine (isl_row (xs := [m % 4294967296, m / 4294967296]) rfl ?_ ?_).eq ?_
  · intro x hx
    simp only [B32]
    rcases List.mem_cons.1 hx with rfl | hx
    · exact Nat.mod_lt _ (by decide)
    · rcases List.mem_cons.1 hx with rfl | hx
      · omega
      · simp at hx
  · intro i hi
    match i, hi with
    | 0, _ => exact h0
    | 1, _ => exact h1
  · show m % 4294967296 + B32 * (m / 4294967296 + B32 * 0) = m
    simp only [B32]; omega
theorem one_row {el : Nat → Nat → Lf} (h0 : el 0 0 = .v (.int .u32 1) := by rfl) : IsL (.row 1 1 el) 1 1 := by
  refine (isl_row (xs := [1]) rfl ?_ ?_).eq rfl
  · intro x hx
    simp at hx; subst hx; decide
  · intro i hi
    have hi' : i < 1 := hi
    obtain rfl : i = 0 := by omega
    exact h0
theorem neg_wrap2 (n : Int) (h : n < 0) (h1 : -9223372036854775808 ≤ n) : IntKind.u64.wrap (0 - IntKind.u64.wrap n) = (n.natAbs : Int) := by
  rw [wrap_u64, wrap_u64]; omega
theorem pos_wrap2 (n : Int) (h : ¬ n < 0) (h1 : n ≤ 9223372036854775807) : IntKind.u64.wrap n = (n.natAbs : Int) := by
  rw [wrap_u64]; omega

/-! ### Division -/
theorem zv_ne {t : Bool} {n : Nat} (h : n ≠ 0) : (zv t n).natAbs = n ∧ zv t n ≠ 0 := ⟨zv_abs _ _, fun e => h (by rw [← zv_abs t n, e]; rfl)⟩
theorem dm1 (t : Bool) (m n : Nat) (hn : n ≠ 0) : zv (false != t) (m / n) = zv false m / zv t n ∧ zv false (modZ m n) = zv false m % zv t n := by
  have h := Nat.div_add_mod m n
  have hlt := Nat.mod_lt m (Nat.pos_of_ne_zero hn)
  refine euc ?_ ?_ ?_
  · unfold modZ; rw [if_neg hn]
    have h2 : ((n * (m / n) + m % n : Nat) : Int) = m := by rw [h]
    rw [Int.natCast_add, Int.natCast_mul] at h2
    cases t
    · exact h2.symm
    · show (m : Int) = -(n : Int) * -(((m / n : Nat)) : Int) + (m % n : Nat)
      rw [Int.neg_mul_neg]; exact h2.symm
  · show (0 : Int) ≤ (modZ m n : Nat); exact Int.natCast_nonneg _
  · rw [zv_abs]; show ((modZ m n : Nat) : Int) < _
    unfold modZ; rw [if_neg hn]; omega
theorem dm2 (t : Bool) (m n : Nat) (hn : n ≠ 0) (h0 : modZ m n = 0) : zv (true != t) (m / n) = zv true m / zv t n ∧ zv false (modZ m n) = zv true m % zv t n := by
  have h := Nat.div_add_mod m n
  have h0' : m % n = 0 := by unfold modZ at h0; rw [if_neg hn] at h0; exact h0
  rw [h0]
  refine euc ?_ (by decide) (by rw [zv_abs]; show (0 : Int) < _; omega)
  have h2 : ((n * (m / n) + m % n : Nat) : Int) = m := by rw [h]
  rw [h0', Nat.add_zero, Int.natCast_mul] at h2
  cases t
  · show -(m : Int) = (n : Int) * -(((m / n : Nat)) : Int) + (0 : Nat)
    rw [Int.mul_neg, h2]; simp
  · show -(m : Int) = -(n : Int) * (((m / n : Nat)) : Int) + (0 : Nat)
    rw [Int.neg_mul, h2]; simp
theorem dm3 (t : Bool) (m n : Nat) (hn : n ≠ 0) (h0 : 0 < modZ m n) : zv (true != t) (m / n + 1) = zv true m / zv t n ∧ zv false (n - modZ m n) = zv true m % zv t n := by
  have h := Nat.div_add_mod m n
  have hlt := Nat.mod_lt m (Nat.pos_of_ne_zero hn)
  have e : modZ m n = m % n := by unfold modZ; rw [if_neg hn]
  rw [e] at h0 ⊢
  refine euc ?_ ?_ ?_
  · have h2 : ((n * (m / n) + m % n : Nat) : Int) = m := by rw [h]
    rw [Int.natCast_add, Int.natCast_mul] at h2
    have h3 : ((n - m % n : Nat) : Int) = (n : Int) - (m % n : Nat) := by omega
    generalize m / n = q at h2 ⊢
    generalize m % n = r at h2 h3 ⊢
    cases t
    · show -(m : Int) = (n : Int) * -((((q + 1) : Nat)) : Int) + ((n - r : Nat) : Int)
      rw [h3, Int.natCast_add, Int.mul_neg, Int.mul_add]; simp; omega
    · show -(m : Int) = -(n : Int) * ((((q + 1) : Nat)) : Int) + ((n - r : Nat) : Int)
      rw [h3, Int.natCast_add, Int.neg_mul, Int.mul_add]; simp; omega
  · show (0 : Int) ≤ ((n - m % n : Nat) : Int); exact Int.natCast_nonneg _
  · rw [zv_abs]; show ((n - m % n : Nat) : Int) < _
    omega
/-- The greatest common divisor of the first n. -/
def gcdN (c : Nat → Int) : Nat → Nat
  | 0 => 0
  | n + 1 => Nat.gcd (gcdN c n) (c n).natAbs
theorem gcdN_one {c : Nat → Int} {k n : Nat} (h : gcdN c k = 1) (hk : k ≤ n) : gcdN c n = 1 := by
  obtain ⟨d, rfl⟩ := Nat.exists_eq_add_of_le hk
  clear hk
  induction d with
  | zero => exact h
  | succ d ih => show Nat.gcd (gcdN c (k + d)) _ = 1; rw [ih, Nat.gcd_one_left]
theorem limbs1 {m : Nat} : (limbs m).length = 1 ∧ (limbs m).getD 0 0 = 1 ↔ m = 1 := by
  constructor
  · rintro ⟨h1, h2⟩
    have h3 := val_limbs m
    match h : limbs m, h1 with
    | [x], _ =>
      rw [h] at h2 h3
      simp at h2
      subst h2
      rw [← h3]; rfl
  · rintro rfl; exact ⟨rfl, rfl⟩

/-! ### A region that draws, order by order -/
section
variable {P : Program} {ops : Array Oper} {Q : Qs} {s : AS}
def AllI (p : Nat → Prop) : List Nat → Prop
  | [] => True
  | i :: l => p i ∧ AllI p l
theorem AllI.get {p : Nat → Prop} : ∀ {l : List Nat}, AllI p l → ∀ i ∈ l, p i
  | i :: l, h, k, hk => by
    rcases List.mem_cons.1 hk with rfl | hk
    · exact h.1
    · exact AllI.get h.2 k hk
def AnyA (P : Program) (ops : Array Oper) (Q : Qs) : Nat → Array Bool → AS → Prop
  | 0, listed, s => Region.ready .any ops listed = [] ∧ Q .normal s
  | n + 1, listed, s => (Region.ready .any ops listed = [] → Q .normal s) ∧ ∀ i ∈ Region.ready .any ops listed, ∃ o, ops[i]? = some o ∧ AL P ops (thn (AnyA P ops Q n (listed.setIfInBounds i true)) Q) [o] s
theorem anyS {n : Nat} {listed : Array Bool} (rs : List Nat) (hr : Region.ready .any ops listed = rs) (hne : rs.isEmpty = false) (h : AllI (fun i => ∃ o, ops[i]? = some o ∧ AL P ops (thn (AnyA P ops Q n (listed.setIfInBounds i true)) Q) [o] s) rs) : AnyA P ops Q (n + 1) listed s :=
  ⟨fun e => absurd (hr.symm.trans e) (fun e2 => by subst e2; exact Bool.noConfusion hne), hr ▸ h.get⟩
theorem anyN {n : Nat} {listed : Array Bool} (hr : Region.ready .any ops listed = []) (h : Q .normal s) : AnyA P ops Q n listed s := by
  cases n with
  | zero => exact ⟨hr, h⟩
  | succ n => exact ⟨fun _ => h, by rw [hr]; intro i hi; simp at hi⟩
theorem any_sound {B0 : BS} {w0 : Wz} : ∀ (n : Nat) (listed : Array Bool) (s : AS) (a : Act) (w : World), AnyA P ops Q n listed s → Den s B0 w0 a w → wpAny P .any ops (DQ Q B0 w0) n listed a w
  | 0, listed, s, a, w, h, hd => ⟨h.1, s, h.2, hd⟩
  | n + 1, listed, s, a, w, h, hd => by
    refine ⟨fun e => ⟨s, h.1 e, hd⟩, fun i hi => ?_⟩
    obtain ⟨o, ho, hal⟩ := h.2 i hi
    have h1 := hal B0 w0 a w hd
    unfold wpOp
    rw [ho]
    simp only [wpList] at h1 ⊢
    have hk : ∀ a w, DQ (thn (AnyA P ops Q n (listed.setIfInBounds i true)) Q) B0 w0 .normal a w → wpAny P .any ops (DQ Q B0 w0) n (listed.setIfInBounds i true) a w := fun a w ⟨s', h3, h4⟩ => any_sound n _ s' a w h3 h4
    split
    · rename_i hw
      rw [if_pos hw] at h1
      rcases h1 with h1 | ⟨h1, h2⟩
      · refine Or.inl ?_
        have h3 := Oper.wp_mono hk h1
        unfold Oper.wp at h3 ⊢
        generalize (execOp a.eval o).run P w = r at h3 ⊢
        cases r <;> first | exact h3 | (rename_i x w'; cases x <;> exact h3)
      · exact Or.inr ⟨h1, h2⟩
    · rename_i hw
      rw [if_neg hw] at h1
      exact hk _ _ h1
theorem cAny {id : Nat} {l : List Oper} (hm : P.follows .mixedOrders = true) (h : AnyA P l.toArray Q l.length (Array.replicate l.length false) s) : AW P (.region id l.toArray true) Q s := by
  intro B0 w0 a w hd
  refine wp_region_any hm ?_
  have hd' : Den s B0 w0 a { w with drawn := w.drawn + 1 } := by
    obtain ⟨ρ, hc, hn, hdf, hs⟩ := hd
    have hK : Keep (Bd ρ B0) w w.drew := ⟨Nat.le_refl _, fun _ _ _ => rfl⟩
    exact ⟨ρ, ⟨hc.bel.step (Below.refl _ _).drew, hc.b0, fun id v hv => let ⟨ob, h1, h2⟩ := hc.obj id v hv; ⟨ob, h1, h2.mv hK (fun _ _ hB => hB) (fun _ _ => rfl)⟩, hc.dist⟩, hn, hdf, fun t av ht => let ⟨v, h1, h2⟩ := hs t av ht; ⟨v, h1, AR.mv hK (fun _ _ hB => hB) (fun _ _ => rfl) h2⟩⟩
  have := any_sound (P := P) (ops := l.toArray) (Q := Q) l.length _ s a _ h hd'
  rwa [show l.length = l.toArray.size from rfl] at this
end
end Go.Proofs.Ytpnoklbijfmoaaa

/-
  WHOLE NUMBERS: Zero, Sign, Of, DivMod, Exact, Gcd; the plain reckoning: Of, Quo, Gcd, Same.
-/
set_option linter.unusedVariables false
set_option linter.unusedSimpArgs false
namespace Go.Proofs.Ytpnoklbijfmoaaa
open Go.RowKit

set_option maxRecDepth 100000 in
set_option maxHeartbeats 4000000 in
theorem aZero {a : List Lf} {K : Nat} {z : Int} (ha : IsN a K z) : ACall Try.prog 21 [.agg a] (.d (.one (.v (.bool (decide (z = 0)))))) := by
  refine ACall.le (dl (DV.g ha) dl0) AV.le.rfl ?_
  refine acallN hTT 7 [.tmp 2] Try.func21 rfl rfl rfl rfl rfl ?_
  refine cSeq ?_
  refine cReg ?_
  refine mN hTT (.box 28 (zn K z)) rfl rfl rfl ?_
  refine mV hTT _ rfl ?_
  refine mNil ?_
  refine tN ?_
  refine cSeq ?_
  refine cReg ?_
  refine mV hTT (.ptr 1 1) rfl ?_
  refine mV hTT (.d (.one (ln K z.natAbs))) rfl ?_
  refine mV hTT (.d (.one (.v (.int .i64 ((limbs z.natAbs).length : Int))))) rfl ?_
  refine mV hTT (.d (.one (.v (.bool (((limbs z.natAbs).length : Int) == 0))))) rfl ?_
  refine mV hTT _ rfl ?_
  refine mNil ?_
  refine tN ?_
  refine cRet ?_
  exact rQ rfl (le_bool (by have h0 := limbs_len z.natAbs; rw [Bool.eq_iff_iff, beq_iff_eq, decide_eq_true_eq]; omega))

set_option maxRecDepth 100000 in
set_option maxHeartbeats 4000000 in
theorem aOf {n : Int} (h1 : -9223372036854775808 ≤ n := by decide) (h2 : n ≤ 9223372036854775807 := by decide) : ACall Try.prog 18 [.one (.v (.int .i64 n))] (.d (.agg (zn 2 n))) := by
  refine acallN hTT 20 [.cell 2 28] Try.func18 rfl rfl rfl rfl rfl ?_
  refine cSeq ?_
  refine cReg ?_
  refine mN hTT (.box 28 ([.v (.bool false), .v (.slice none 0 0)])) rfl rfl rfl ?_
  refine mNil ?_
  refine tN ?_
  refine cSeq ?_
  refine cReg ?_
  refine mV hTT _ rfl ?_
  refine mV hTT (.d (.one (.v (.int .u64 (IntKind.u64.wrap n))))) rfl ?_
  refine mV hTT _ rfl ?_
  refine mNil ?_
  refine tN ?_
  refine cSeq ?_
  refine cSeq ?_
  refine cReg ?_
  refine mV hTT _ rfl ?_
  refine mV hTT (.d (.one (.v (.bool (decide (n < 0)))))) rfl ?_
  refine mNil ?_
  refine tN ?_
  refine cCond rfl (fun hc1 => ?_) (fun hc1 => ?_)
  · skip
    refine cReg ?_
    refine mV hTT _ rfl ?_
    refine mV hTT (.d (.one (.v (.int .u64 ((n.natAbs : Nat) : Int))))) (evi (neg_wrap2 n (of_decide_eq_true hc1) h1)) ?_
    refine mV hTT _ rfl ?_
    refine mNil ?_
    refine tN ?_
    refine cSeq ?_
    refine cReg ?_
    refine mV hTT _ rfl ?_
    refine mV hTT (.d (.one (.v (.int .u32 ((n.natAbs % 4294967296 : Nat) : Int))))) (evi (by rw [wrap_u32]; omega)) ?_
    refine mV hTT _ rfl ?_
    refine mV hTT (.d (.one (.v (.int .u64 ((n.natAbs / 4294967296 : Nat) : Int))))) (evi (shr32 _)) ?_
    refine mV hTT (.d (.one (.v (.int .u32 ((n.natAbs / 4294967296 : Nat) : Int))))) (evi (by rw [wrap_u32]; omega)) ?_
    refine mB hTT (.d (.one (.row 1 2 (fun i' j' => (([.v (.int .u32 ((n.natAbs % 4294967296 : Nat) : Int)), .v (.int .u32 ((n.natAbs / 4294967296 : Nat) : Int))])[i' * 1 + j']?).getD (.v undef))))) rfl ?_
    refine mC0 (aLNorm (of_row (m := n.natAbs) (by omega)) (by decide)) rfl rfl rfl ?_
    refine mV hTT _ rfl ?_
    refine mV hTT (.d (.one (.v (.bool (decide (n < 0)))))) rfl ?_
    refine mC0 (aMade (K := 2) (m := n.natAbs) (neg := decide (n < 0)) rfl) rfl rfl rfl ?_
    refine mS hTT 2 (.box 28 (zn 2 (zv (decide (n < 0)) n.natAbs))) rfl ?_
    refine mNil ?_
    refine tN ?_
    refine cRet ?_
    exact rQ rfl (le_zn (Nat.le_refl _) (zv_natAbs n))
  · skip
    refine cSkip ?_
    refine tN ?_
    refine cSeq ?_
    refine cView 3 (.d (.one (.v (.int .u64 ((n.natAbs : Nat) : Int))))) rfl (le_int (pos_wrap2 n (of_decide_eq_false hc1) h2)) ?_
    refine cReg ?_
    refine mV hTT _ rfl ?_
    refine mV hTT (.d (.one (.v (.int .u32 ((n.natAbs % 4294967296 : Nat) : Int))))) (evi (by rw [wrap_u32]; omega)) ?_
    refine mV hTT _ rfl ?_
    refine mV hTT (.d (.one (.v (.int .u64 ((n.natAbs / 4294967296 : Nat) : Int))))) (evi (shr32 _)) ?_
    refine mV hTT (.d (.one (.v (.int .u32 ((n.natAbs / 4294967296 : Nat) : Int))))) (evi (by rw [wrap_u32]; omega)) ?_
    refine mB hTT (.d (.one (.row 1 2 (fun i' j' => (([.v (.int .u32 ((n.natAbs % 4294967296 : Nat) : Int)), .v (.int .u32 ((n.natAbs / 4294967296 : Nat) : Int))])[i' * 1 + j']?).getD (.v undef))))) rfl ?_
    refine mC0 (aLNorm (of_row (m := n.natAbs) (by omega)) (by decide)) rfl rfl rfl ?_
    refine mV hTT _ rfl ?_
    refine mV hTT (.d (.one (.v (.bool (decide (n < 0)))))) rfl ?_
    refine mC0 (aMade (K := 2) (m := n.natAbs) (neg := decide (n < 0)) rfl) rfl rfl rfl ?_
    refine mS hTT 2 (.box 28 (zn 2 (zv (decide (n < 0)) n.natAbs))) rfl ?_
    refine mNil ?_
    refine tN ?_
    refine cRet ?_
    exact rQ rfl (le_zn (Nat.le_refl _) (zv_natAbs n))

set_option maxRecDepth 100000 in
set_option maxHeartbeats 4000000 in
theorem aDivMod {a b : List Lf} {K L M : Nat} {x y : Int} (ha : IsZ a K x) (hb : IsZ b L y) (hy : y ≠ 0) (hM : max K 1 + 1 ≤ M := by decide) (hK : K ≤ 1073741823 := by decide) (hL : L ≤ 1073741823 := by decide) : ACall Try.prog 33 [.agg a, .agg b] (.tup [.agg (zn M (x / y)), .agg (zn L (x % y)), .one (.v (.int .i64 0))]) := by
  obtain ⟨s, xs, ha, rfl⟩ := ha
  obtain ⟨t, ys, hb, rfl⟩ := hb
  refine ACall.le (dl (DV.z ha) (dl (DV.z hb) dl0)) AV.le.rfl ?_
  have hn : val ys ≠ 0 := fun e => hy (by rw [e]; cases t <;> rfl)
  cases s
  · skip
    refine acallN hTT 60 [.cell 4 28, .cell 5 28, .tmp 6] Try.func33 rfl rfl rfl rfl rfl ?_
    refine cSeq ?_
    refine cReg ?_
    refine mN hTT (.box 28 ([.v (.bool false), lr K xs])) rfl rfl rfl ?_
    refine mN hTT (.box 28 ([.v (.bool t), lr L ys])) rfl rfl rfl ?_
    refine mN hTT (.box 28 ([.v (.bool false), .v (.slice none 0 0)])) rfl rfl rfl ?_
    refine mN hTT (.box 28 ([.v (.bool false), .v (.slice none 0 0)])) rfl rfl rfl ?_
    refine mV hTT _ rfl ?_
    refine mNil ?_
    refine tN ?_
    refine cSeq ?_
    refine cReg ?_
    refine mV hTT (.ptr 2 1) rfl ?_
    refine mV hTT (.d (.one (lr K xs))) rfl ?_
    refine mV hTT (.ptr 3 1) rfl ?_
    refine mV hTT (.d (.one (lr L ys))) rfl ?_
    refine mC0 (aLDiv (islv K xs) (islv L ys) (by omega) (by omega)) rfl rfl rfl ?_
    refine mV hTT _ rfl ?_
    refine mV hTT _ rfl ?_
    refine mV hTT _ rfl ?_
    refine mV hTT _ rfl ?_
    refine mV hTT _ rfl ?_
    refine mV hTT _ rfl ?_
    refine mV hTT _ rfl ?_
    refine mNil ?_
    refine tN ?_
    refine cSeq ?_
    refine cSeq ?_
    refine cReg ?_
    refine mV hTT _ rfl ?_
    refine mV hTT (.d (.one (.v (.bool false)))) (evb (by rw [show divErr (val ys) = 0 from if_neg hn]; rfl)) ?_
    refine mNil ?_
    refine tN ?_
    refine cF rfl ?_
    refine cSkip ?_
    refine tN ?_
    refine cSeq ?_
    refine cReg ?_
    refine mV hTT _ rfl ?_
    refine mV hTT (.ptr 2 0) rfl ?_
    refine mV hTT (.d (.one (.v (.bool false)))) rfl ?_
    refine mV hTT (.ptr 3 0) rfl ?_
    refine mV hTT (.d (.one (.v (.bool t)))) rfl ?_
    refine mV hTT (.d (.one (.v (.bool (!(false == t)))))) rfl ?_
    refine mC0 (aMade (K := K) (m := ((val xs) / (val ys))) (neg := !(false == t)) rfl) rfl rfl rfl ?_
    refine mV hTT _ rfl ?_
    refine mC0 (aMade (K := L) (m := (modZ (val xs) (val ys))) (neg := false) rfl) rfl rfl rfl ?_
    refine mS hTT 4 (.box 28 (zn K (zv (!(false == t)) ((val xs) / (val ys))))) rfl ?_
    refine mS hTT 5 (.box 28 (zn L (zv false (modZ (val xs) (val ys))))) rfl ?_
    refine mNil ?_
    refine tN ?_
    refine cSeq ?_
    refine cSeq ?_
    refine cReg ?_
    refine mV hTT (.ptr 2 0) rfl ?_
    refine mV hTT (.d (.one (.v (.bool false)))) rfl ?_
    refine mV hTT _ rfl ?_
    refine mG rfl rfl ?_
    refine mG rfl rfl ?_
    refine mG rfl rfl ?_
    refine mV hTT _ rfl ?_
    refine mNil ?_
    refine tN ?_
    refine cF rfl ?_
    refine cSkip ?_
    refine tN ?_
    refine cSeq ?_
    refine cDrawS hTT 5 (by kernel_rfl) (by kernel_rfl) ?_
    refine .cons (OpS.V (.d (.agg (zn K (zv (!(false == t)) ((val xs) / (val ys)))))) rfl) (by kernel_rfl) ?_
    refine .cons (OpS.V (.d (.agg (zn L (zv false (modZ (val xs) (val ys)))))) rfl) (by kernel_rfl) ?_
    refine .cons (OpS.S 4 (.box 28 (zn K (zv (!(false == t)) ((val xs) / (val ys))))) rfl rfl) (by kernel_rfl) ?_
    refine .cons (OpS.S 5 (.box 28 (zn L (zv false (modZ (val xs) (val ys))))) rfl rfl) (by kernel_rfl) ?_
    refine .cons (OpS.V _ rfl) (by kernel_rfl) ?_
    refine .nil ?_
    refine mNil ?_
    refine tN ?_
    refine cRet ?_
    obtain ⟨e1, e2⟩ := dm1 t (val xs) (val ys) hn
    exact rQ rfl (le_tup (dl (dle (le_zn (by omega) e1)) (dl (dle (le_zn (Nat.le_refl _) e2)) (dl DV.same dl0))))
  · skip
    refine acallN hTT 60 [.cell 4 28, .cell 5 28, .tmp 6] Try.func33 rfl rfl rfl rfl rfl ?_
    refine cSeq ?_
    refine cReg ?_
    refine mN hTT (.box 28 ([.v (.bool true), lr K xs])) rfl rfl rfl ?_
    refine mN hTT (.box 28 ([.v (.bool t), lr L ys])) rfl rfl rfl ?_
    refine mN hTT (.box 28 ([.v (.bool false), .v (.slice none 0 0)])) rfl rfl rfl ?_
    refine mN hTT (.box 28 ([.v (.bool false), .v (.slice none 0 0)])) rfl rfl rfl ?_
    refine mV hTT _ rfl ?_
    refine mNil ?_
    refine tN ?_
    refine cSeq ?_
    refine cReg ?_
    refine mV hTT (.ptr 2 1) rfl ?_
    refine mV hTT (.d (.one (lr K xs))) rfl ?_
    refine mV hTT (.ptr 3 1) rfl ?_
    refine mV hTT (.d (.one (lr L ys))) rfl ?_
    refine mC0 (aLDiv (islv K xs) (islv L ys) (by omega) (by omega)) rfl rfl rfl ?_
    refine mV hTT _ rfl ?_
    refine mV hTT _ rfl ?_
    refine mV hTT _ rfl ?_
    refine mV hTT _ rfl ?_
    refine mV hTT _ rfl ?_
    refine mV hTT _ rfl ?_
    refine mV hTT _ rfl ?_
    refine mNil ?_
    refine tN ?_
    refine cSeq ?_
    refine cSeq ?_
    refine cReg ?_
    refine mV hTT _ rfl ?_
    refine mV hTT (.d (.one (.v (.bool false)))) (evb (by rw [show divErr (val ys) = 0 from if_neg hn]; rfl)) ?_
    refine mNil ?_
    refine tN ?_
    refine cF rfl ?_
    refine cSkip ?_
    refine tN ?_
    refine cSeq ?_
    refine cReg ?_
    refine mV hTT _ rfl ?_
    refine mV hTT (.ptr 2 0) rfl ?_
    refine mV hTT (.d (.one (.v (.bool true)))) rfl ?_
    refine mV hTT (.ptr 3 0) rfl ?_
    refine mV hTT (.d (.one (.v (.bool t)))) rfl ?_
    refine mV hTT (.d (.one (.v (.bool (!(true == t)))))) rfl ?_
    refine mC0 (aMade (K := K) (m := ((val xs) / (val ys))) (neg := !(true == t)) rfl) rfl rfl rfl ?_
    refine mV hTT _ rfl ?_
    refine mC0 (aMade (K := L) (m := (modZ (val xs) (val ys))) (neg := false) rfl) rfl rfl rfl ?_
    refine mS hTT 4 (.box 28 (zn K (zv (!(true == t)) ((val xs) / (val ys))))) rfl ?_
    refine mS hTT 5 (.box 28 (zn L (zv false (modZ (val xs) (val ys))))) rfl ?_
    refine mNil ?_
    refine tN ?_
    refine cSeq ?_
    refine cSeq ?_
    refine cReg ?_
    refine mV hTT (.ptr 2 0) rfl ?_
    refine mV hTT (.d (.one (.v (.bool true)))) rfl ?_
    refine mV hTT _ rfl ?_
    refine mV hTT _ rfl ?_
    refine mV hTT (.d (.one (.v (.int .i64 ((limbs (modZ (val xs) (val ys))).length : Int))))) rfl ?_
    refine mV hTT (.d (.one (.v (.bool (decide (((limbs (modZ (val xs) (val ys))).length : Int) > 0)))))) rfl ?_
    refine mV hTT _ rfl ?_
    refine mNil ?_
    refine tN ?_
    refine cCond rfl (fun hc1 => ?_) (fun hc1 => ?_)
    · skip
      refine cSeq ?_
      refine cReg ?_
      refine mV hTT _ rfl ?_
      refine mB hTT (.d (.one (.row 1 1 (fun i' j' => (([.v (.int .u32 1)])[i' * 1 + j']?).getD (.v undef))))) rfl ?_
      refine mC0 (aLAdd (isl K ((val xs) / (val ys))) one_row (M := (max K 1 + 1)) (by omega) (by omega) (by decide)) rfl rfl rfl ?_
      refine mV hTT _ rfl ?_
      refine mNil ?_
      refine tN ?_
      refine cSeq ?_
      refine cReg ?_
      refine mV hTT (.ptr 3 1) rfl ?_
      refine mV hTT (.d (.one (lr L ys))) rfl ?_
      refine mV hTT _ rfl ?_
      refine mC0 (aLSub (islv L ys) (isl L (modZ (val xs) (val ys))) (by omega) (by omega)) rfl rfl rfl ?_
      refine mV hTT _ rfl ?_
      refine mV hTT _ rfl ?_
      refine mV hTT _ rfl ?_
      refine mV hTT _ rfl ?_
      refine mNil ?_
      refine tN ?_
      refine cReg ?_
      refine mV hTT _ rfl ?_
      refine mV hTT (.ptr 2 0) rfl ?_
      refine mV hTT (.d (.one (.v (.bool true)))) rfl ?_
      refine mV hTT (.ptr 3 0) rfl ?_
      refine mV hTT (.d (.one (.v (.bool t)))) rfl ?_
      refine mV hTT (.d (.one (.v (.bool (!(true == t)))))) rfl ?_
      refine mC0 (aMade (K := (max K 1 + 1)) (m := (((val xs) / (val ys)) + 1)) (neg := !(true == t)) rfl) rfl rfl rfl ?_
      refine mV hTT _ rfl ?_
      refine mC0 (aMade (K := L) (m := ((val ys) - (modZ (val xs) (val ys)))) (neg := false) rfl) rfl rfl rfl ?_
      refine mS hTT 4 (.box 28 (zn (max K 1 + 1) (zv (!(true == t)) (((val xs) / (val ys)) + 1)))) rfl ?_
      refine mS hTT 5 (.box 28 (zn L (zv false ((val ys) - (modZ (val xs) (val ys)))))) rfl ?_
      refine mNil ?_
      refine tN ?_
      refine cSeq ?_
      refine cDrawS hTT 5 (by kernel_rfl) (by kernel_rfl) ?_
      refine .cons (OpS.V (.d (.agg (zn (max K 1 + 1) (zv (!(true == t)) (((val xs) / (val ys)) + 1))))) rfl) (by kernel_rfl) ?_
      refine .cons (OpS.V (.d (.agg (zn L (zv false ((val ys) - (modZ (val xs) (val ys))))))) rfl) (by kernel_rfl) ?_
      refine .cons (OpS.S 4 (.box 28 (zn (max K 1 + 1) (zv (!(true == t)) (((val xs) / (val ys)) + 1)))) rfl rfl) (by kernel_rfl) ?_
      refine .cons (OpS.S 5 (.box 28 (zn L (zv false ((val ys) - (modZ (val xs) (val ys)))))) rfl rfl) (by kernel_rfl) ?_
      refine .cons (OpS.V _ rfl) (by kernel_rfl) ?_
      refine .nil ?_
      refine mNil ?_
      refine tN ?_
      refine cRet ?_
      obtain ⟨e1, e2⟩ := dm3 t (val xs) (val ys) hn (Nat.pos_of_ne_zero fun e => by have h0 := of_decide_eq_true hc1; rw [e] at h0; exact absurd h0 (by decide))
      exact rQ rfl (le_tup (dl (dle (le_zn (by omega) e1)) (dl (dle (le_zn (Nat.le_refl _) e2)) (dl DV.same dl0))))
    · skip
      refine cSkip ?_
      refine tN ?_
      refine cSeq ?_
      refine cDrawS hTT 5 (by kernel_rfl) (by kernel_rfl) ?_
      refine .cons (OpS.V (.d (.agg (zn K (zv (!(true == t)) ((val xs) / (val ys)))))) rfl) (by kernel_rfl) ?_
      refine .cons (OpS.V (.d (.agg (zn L (zv false (modZ (val xs) (val ys)))))) rfl) (by kernel_rfl) ?_
      refine .cons (OpS.S 4 (.box 28 (zn K (zv (!(true == t)) ((val xs) / (val ys))))) rfl rfl) (by kernel_rfl) ?_
      refine .cons (OpS.S 5 (.box 28 (zn L (zv false (modZ (val xs) (val ys))))) rfl rfl) (by kernel_rfl) ?_
      refine .cons (OpS.V _ rfl) (by kernel_rfl) ?_
      refine .nil ?_
      refine mNil ?_
      refine tN ?_
      refine cRet ?_
      obtain ⟨e1, e2⟩ := dm2 t (val xs) (val ys) hn (by have h0 := of_decide_eq_false hc1; have h1 := limbs_len (modZ (val xs) (val ys)); omega)
      exact rQ rfl (le_tup (dl (dle (le_zn (by omega) e1)) (dl (dle (le_zn (Nat.le_refl _) e2)) (dl DV.same dl0))))

set_option maxRecDepth 100000 in
set_option maxHeartbeats 4000000 in
theorem aDivMod0 {a b : List Lf} {K L : Nat} {x : Int} (ha : IsZ a K x) (hb : IsZ b L 0) (hK : K ≤ 1073741823 := by decide) (hL : L ≤ 1073741823 := by decide) : ACall Try.prog 33 [.agg a, .agg b] (.tup [.agg (zn 0 0), .agg (zn 0 0), .one (.v (.int .i64 2))]) := by
  obtain ⟨s, xs, ha, rfl⟩ := ha
  obtain ⟨t, ys, hb, hn⟩ := hb
  replace hn : val ys = 0 := by rw [← zv_abs t (val ys), hn]; rfl
  refine ACall.le (dl (DV.z ha) (dl (DV.z hb) dl0)) AV.le.rfl ?_
  refine acallN hTT 60 [.cell 4 28, .cell 5 28, .tmp 6] Try.func33 rfl rfl rfl rfl rfl ?_
  refine cSeq ?_
  refine cReg ?_
  refine mN hTT (.box 28 ([.v (.bool s), lr K xs])) rfl rfl rfl ?_
  refine mN hTT (.box 28 ([.v (.bool t), lr L ys])) rfl rfl rfl ?_
  refine mN hTT (.box 28 ([.v (.bool false), .v (.slice none 0 0)])) rfl rfl rfl ?_
  refine mN hTT (.box 28 ([.v (.bool false), .v (.slice none 0 0)])) rfl rfl rfl ?_
  refine mV hTT _ rfl ?_
  refine mNil ?_
  refine tN ?_
  refine cSeq ?_
  refine cReg ?_
  refine mV hTT (.ptr 2 1) rfl ?_
  refine mV hTT (.d (.one (lr K xs))) rfl ?_
  refine mV hTT (.ptr 3 1) rfl ?_
  refine mV hTT (.d (.one (lr L ys))) rfl ?_
  refine mC0 (aLDiv (islv K xs) (islv L ys) (by omega) (by omega)) rfl rfl rfl ?_
  refine mV hTT _ rfl ?_
  refine mV hTT _ rfl ?_
  refine mV hTT _ rfl ?_
  refine mV hTT _ rfl ?_
  refine mV hTT _ rfl ?_
  refine mV hTT _ rfl ?_
  refine mV hTT _ rfl ?_
  refine mNil ?_
  refine tN ?_
  refine cSeq ?_
  refine cSeq ?_
  refine cReg ?_
  refine mV hTT _ rfl ?_
  refine mV hTT (.d (.one (.v (.bool true)))) (evb (by rw [show divErr (val ys) = 2 from if_pos hn]; rfl)) ?_
  refine mNil ?_
  refine tN ?_
  refine cT rfl ?_
  refine cSeq ?_
  refine cReg ?_
  refine mV hTT (.d (.agg ([.v (.bool false), .v (.slice none 0 0)]))) rfl ?_
  refine mV hTT (.d (.agg ([.v (.bool false), .v (.slice none 0 0)]))) rfl ?_
  refine mV hTT _ rfl ?_
  refine mS hTT 4 (.box 28 ([.v (.bool false), .v (.slice none 0 0)])) rfl ?_
  refine mS hTT 5 (.box 28 ([.v (.bool false), .v (.slice none 0 0)])) rfl ?_
  refine mV hTT _ rfl ?_
  refine mNil ?_
  refine tN ?_
  refine cRet ?_
  refine tR ?_
  exact rQ rfl (le_tup (dl (DV.g fun _ _ _ h => nil_ls h) (dl (DV.g fun _ _ _ h => nil_ls h) (dl (dle (le_int (if_pos hn))) dl0))))

set_option maxRecDepth 100000 in
set_option maxHeartbeats 4000000 in
theorem aExact {a b : List Lf} {K L M : Nat} {x y : Int} (ha : IsZ a K x) (hb : IsZ b L y) (hy : y ≠ 0) (hd : y ∣ x) (hM : max K 1 + 1 ≤ M := by decide) (hK : K ≤ 1073741823 := by decide) (hL : L ≤ 1073741823 := by decide) : ACall Try.prog 28 [.agg a, .agg b] (.tup [.agg (zn M (x / y)), .one (.v (.int .i64 0))]) := by
  obtain ⟨sa, xa, ha, ea⟩ := ha
  obtain ⟨sb, xb, hb, eb⟩ := hb
  refine ACall.le (dl (DV.z ha) (dl (DV.z hb) dl0)) AV.le.rfl ?_
  refine acallN hTT 26 [.cell 4 28, .tmp 5] Try.func28 rfl rfl rfl rfl rfl ?_
  refine cSeq ?_
  refine cReg ?_
  refine mN hTT (.box 28 ([.v (.bool sa), lr K xa])) rfl rfl rfl ?_
  refine mN hTT (.box 28 ([.v (.bool sb), lr L xb])) rfl rfl rfl ?_
  refine mN hTT (.box 28 ([.v (.bool false), .v (.slice none 0 0)])) rfl rfl rfl ?_
  refine mV hTT _ rfl ?_
  refine mNil ?_
  refine tN ?_
  refine cSeq ?_
  refine cReg ?_
  refine mV hTT (.d (.agg ([.v (.bool sa), lr K xa]))) rfl ?_
  refine mV hTT (.d (.agg ([.v (.bool sb), lr L xb]))) rfl ?_
  refine mC0 (aDivMod ⟨sa, xa, fun _ _ _ h => h, ea⟩ ⟨sb, xb, fun _ _ _ h => h, eb⟩ hy (M := (max K 1 + 1)) (by omega) (by omega) (by omega)) rfl rfl rfl ?_
  refine mV hTT _ rfl ?_
  refine mV hTT _ rfl ?_
  refine mV hTT _ rfl ?_
  refine mV hTT _ rfl ?_
  refine mN hTT (.box 28 ([.v (.bool false), .v (.slice none 0 0)])) rfl rfl rfl ?_
  refine mN hTT (.box 28 ([.v (.bool false), .v (.slice none 0 0)])) rfl rfl rfl ?_
  refine mS hTT 6 (.box 28 (zn (max K 1 + 1) (x / y))) rfl ?_
  refine mS hTT 7 (.box 28 (zn L (x % y))) rfl ?_
  refine mV hTT _ rfl ?_
  refine mNil ?_
  refine tN ?_
  refine cSeq ?_
  refine cSeq ?_
  refine cReg ?_
  refine mV hTT _ rfl ?_
  refine mV hTT (.d (.one (.v (.bool false)))) rfl ?_
  refine mNil ?_
  refine tN ?_
  refine cF rfl ?_
  refine cSkip ?_
  refine tN ?_
  refine cSeq ?_
  refine cSeq ?_
  refine cReg ?_
  refine mV hTT (.ptr 7 1) rfl ?_
  refine mV hTT (.d (.one (ln L (Int.natAbs (x % y))))) rfl ?_
  refine mV hTT (.d (.one (.v (.int .i64 ((limbs (Int.natAbs (x % y))).length : Int))))) rfl ?_
  refine mV hTT (.d (.one (.v (.bool false)))) (evb (decide_eq_false (by rw [Int.emod_eq_zero_of_dvd hd]; decide))) ?_
  refine mNil ?_
  refine tN ?_
  refine cF rfl ?_
  refine cSkip ?_
  refine tN ?_
  refine cSeq ?_
  refine cReg ?_
  refine mV hTT (.d (.agg (zn (max K 1 + 1) (x / y)))) rfl ?_
  refine mS hTT 4 (.box 28 (zn (max K 1 + 1) (x / y))) rfl ?_
  refine mV hTT _ rfl ?_
  refine mNil ?_
  refine tN ?_
  refine cRet ?_
  exact rQ rfl (le_tup (dl (dle (le_zn hM rfl)) (dl DV.same dl0)))

set_option maxRecDepth 100000 in
set_option maxHeartbeats 4000000 in
theorem aGcd {l : Lf} {K n : Nat} {c : Nat → Int} (ha : IsP l K n c) (hn : n ≤ 1000000 := by decide) (hK : K ≤ 1073741823 := by decide) : ACall Try.prog 26 [.one l] (.d (.agg (zn K (gcdN c n : Nat)))) := by
  obtain ⟨⟨f, ha, hf⟩, hz⟩ := ha
  refine ACall.le (dl (DV.l ha) dl0) AV.le.rfl ?_
  refine acallN hTT 44 [.cell 2 28] Try.func26 rfl rfl rfl rfl rfl ?_
  refine cSeq ?_
  refine cReg ?_
  refine mN hTT (.box 28 ([.v (.bool false), .v (.slice none 0 0)])) rfl rfl rfl ?_
  refine mNil ?_
  refine tN ?_
  refine cSeq ?_
  refine cReg ?_
  refine mV hTT _ rfl ?_
  refine mNil ?_
  refine tN ?_
  refine cSeq ?_
  refine cSeq ?_
  refine cView 3 (.d (.one (ln K (gcdN c 0)))) rfl (nil_lr K) ?_
  refine cReg ?_
  refine mV hTT _ rfl ?_
  refine mV hTT (.d (.one (.v (.int .i64 (n : Int))))) rfl ?_
  refine mV hTT _ rfl ?_
  refine mNil ?_
  refine tN ?_
  refine cBlock ?_
  refine cLoop (ι := Nat) (fun (i : Nat) => ⟨44, [(2, .ptr 2 0), (10, .d (.one (.row 2 n (ael K f)))), (11, .d (.one (.v (.int .i64 (n : Int))))), (12, .d (.one (.v (.int .i64 ((i : Nat) : Int))))), (3, .d (.one (ln K (gcdN c i))))], [(2, .box 28 ([.v (.bool false), .v (.slice none 0 0)]))]⟩) (fun (i : Nat) => i ≤ n) (fun (i : Nat) => n - i) 0 (Nat.zero_le _) (wk (sl := [(2, .ptr 2 0), (10, .d (.one (.row 2 n (ael K f)))), (11, .d (.one (.v (.int .i64 (n : Int))))), (12, .d (.one (.v (.int .i64 ((0 : Nat) : Int))))), (3, .d (.one (ln K (gcdN c 0))))]) (hp := [(2, .box 28 ([.v (.bool false), .v (.slice none 0 0)]))]) rfl ⟨hs rfl, hs rfl, hs rfl, hs rfl, hs rfl, trivial⟩ ⟨ho rfl, trivial⟩ rfl) ?_
  rintro i hI
  have hi0 : i ≤ n := hI
  show AW Try.prog _ _ ⟨44, [(2, .ptr 2 0), (10, .d (.one (.row 2 n (ael K f)))), (11, .d (.one (.v (.int .i64 (n : Int))))), (12, .d (.one (.v (.int .i64 ((i : Nat) : Int))))), (3, .d (.one (ln K (gcdN c i))))], [(2, .box 28 ([.v (.bool false), .v (.slice none 0 0)]))]⟩
  refine cSeq ?_
  refine cReg ?_
  refine mV hTT (.d (.one (.v (.bool (decide (((i : Nat) : Int) < (n : Int))))))) rfl ?_
  refine mNil ?_
  refine tN ?_
  refine cSeq ?_
  refine cCond rfl (fun hc1 => ?_) (fun hc1 => ?_)
  · skip
    refine cSkip ?_
    refine tN ?_
    refine cSeq ?_
    refine cBlock ?_
    refine cSeq ?_
    have hi : i < n := by have h0 := of_decide_eq_true hc1; omega
    refine cReg ?_
    refine mV hTT (.d (.one (.at 2 ((ael K f) i)))) (ixR (el := (ael K f)) (z := ((i : Nat) : Int)) (n := n) rfl rfl rfl rfl rfl rfl (by omega) (by omega)) ?_
    refine mV hTT (.d (.agg ([.v (.bool ((f i).1)), lr K ((f i).2)]))) rfl ?_
    refine mN hTT (.box 28 ([.v (.bool false), .v (.slice none 0 0)])) rfl rfl rfl ?_
    refine mS hTT 5 (.box 28 ([.v (.bool ((f i).1)), lr K ((f i).2)])) rfl ?_
    refine mNil ?_
    refine tN ?_
    refine cSeq ?_
    refine cReg ?_
    refine mV hTT (.ptr 5 1) rfl ?_
    refine mV hTT (.d (.one (lr K ((f i).2)))) rfl ?_
    refine mC0 (aLNorm (islv K ((f i).2)) (by omega)) rfl rfl rfl ?_
    refine mV hTT _ rfl ?_
    refine mNil ?_
    refine tN ?_
    refine cSeq ?_
    refine cBlock ?_
    refine cLoop (ι := Nat × Nat) (fun (p : Nat × Nat) => match p with | (x, y) => ⟨44, [(2, .ptr 2 0), (10, .d (.one (.row 2 n (ael K f)))), (11, .d (.one (.v (.int .i64 (n : Int))))), (12, .d (.one (.v (.int .i64 ((i : Nat) : Int))))), (3, .d (.one (ln K x))), (6, .d (.one (ln K y)))], [(2, .box 28 ([.v (.bool false), .v (.slice none 0 0)]))]⟩) (fun (p : Nat × Nat) => match p with | (x, y) => Nat.gcd x y = gcdN c (i + 1)) (fun (p : Nat × Nat) => match p with | (x, y) => y) ((gcdN c i), (val (f i).2)) (by show Nat.gcd (gcdN c i) (val (f i).2) = Nat.gcd (gcdN c i) (c i).natAbs; rw [← hf i hi, show (fzv f i).natAbs = val (f i).2 from zv_abs _ _]) (wk (sl := [(2, .ptr 2 0), (10, .d (.one (.row 2 n (ael K f)))), (11, .d (.one (.v (.int .i64 (n : Int))))), (12, .d (.one (.v (.int .i64 ((i : Nat) : Int))))), (3, .d (.one (ln K (gcdN c i)))), (6, .d (.one (ln K (val (f i).2))))]) (hp := [(2, .box 28 ([.v (.bool false), .v (.slice none 0 0)]))]) rfl ⟨hs rfl, hs rfl, hs rfl, hs rfl, hs rfl, hs rfl, trivial⟩ ⟨ho rfl, trivial⟩ rfl) ?_
    rintro ⟨x, y⟩ hI
    have hg : Nat.gcd x y = gcdN c (i + 1) := hI
    show AW Try.prog _ _ ⟨44, [(2, .ptr 2 0), (10, .d (.one (.row 2 n (ael K f)))), (11, .d (.one (.v (.int .i64 (n : Int))))), (12, .d (.one (.v (.int .i64 ((i : Nat) : Int))))), (3, .d (.one (ln K x))), (6, .d (.one (ln K y)))], [(2, .box 28 ([.v (.bool false), .v (.slice none 0 0)]))]⟩
    refine cSeq ?_
    refine cSeq ?_
    refine cReg ?_
    refine mV hTT _ rfl ?_
    refine mV hTT (.d (.one (.v (.int .i64 ((limbs y).length : Int))))) rfl ?_
    refine mV hTT (.d (.one (.v (.bool (decide (((limbs y).length : Int) > 0)))))) rfl ?_
    refine mNil ?_
    refine tN ?_
    refine cCond rfl (fun hc2 => ?_) (fun hc2 => ?_)
    · skip
      refine cSkip ?_
      refine tN ?_
      refine cBlock ?_
      refine cSeq ?_
      have hy0 : y ≠ 0 := fun e => by have h0 := of_decide_eq_true hc2; rw [e] at h0; exact absurd h0 (by decide)
      refine cReg ?_
      refine mV hTT _ rfl ?_
      refine mV hTT _ rfl ?_
      refine mC0 (aLDiv (isl K x) (isl K y) (by omega) (by omega)) rfl rfl rfl ?_
      refine mV hTT _ rfl ?_
      refine mV hTT _ rfl ?_
      refine mV hTT _ rfl ?_
      refine mV hTT _ rfl ?_
      refine mV hTT _ rfl ?_
      refine mV hTT _ rfl ?_
      refine mV hTT _ rfl ?_
      refine mNil ?_
      refine tN ?_
      refine cReg ?_
      refine mV hTT _ rfl ?_
      refine mV hTT _ rfl ?_
      refine mV hTT _ rfl ?_
      refine mV hTT _ rfl ?_
      refine mNil ?_
      refine bN ?_
      exact ⟨(y, (modZ x y)), by show Nat.gcd y (modZ x y) = _; unfold modZ; rw [if_neg hy0, ← hg, Nat.gcd_comm x y, Nat.gcd_rec y x, Nat.gcd_comm], by show modZ x y < y; unfold modZ; rw [if_neg hy0]; exact Nat.mod_lt _ (Nat.pos_of_ne_zero hy0), wk (sl := [(2, .ptr 2 0), (10, .d (.one (.row 2 n (ael K f)))), (11, .d (.one (.v (.int .i64 (n : Int))))), (12, .d (.one (.v (.int .i64 ((i : Nat) : Int))))), (3, .d (.one (ln K y))), (6, .d (.one (ln K (modZ x y))))]) (hp := [(2, .box 28 ([.v (.bool false), .v (.slice none 0 0)]))]) rfl ⟨hs rfl, hs rfl, hs rfl, hs rfl, hs rfl, hs rfl, trivial⟩ ⟨ho rfl, trivial⟩ rfl⟩
    · skip
      refine cExit ?_
      refine tE ?_
      refine tE ?_
      refine bE ?_
      refine tN ?_
      refine cSeq ?_
      have hy0 : y = 0 := by have h0 := of_decide_eq_false hc2; have h1 := limbs_len y; omega
      have hx : x = gcdN c (i + 1) := by rw [← hg, hy0, Nat.gcd_zero_right]
      by_cases hl1 : (limbs x).length = 1
      · skip
        refine cReg ?_
        refine mV hTT _ rfl ?_
        refine mV hTT (.d (.one (.v (.int .i64 ((limbs x).length : Int))))) rfl ?_
        refine mV hTT (.d (.one (.v (.bool true)))) (evb (by rw [hl1]; rfl)) ?_
        refine mV hTT _ rfl ?_
        refine mV hTT _ rfl ?_
        refine mView 35 (.d (.one (.row 1 ((limbs x).length) (fun i _ => .v (.int .u32 (((limbs x).getD i 0 : Nat) : Int)))))) rfl (le_lrow _ _) ?_
        refine mV hTT (.d (.one (.at 1 ((fun i _ => .v (.int .u32 (((limbs x).getD i 0 : Nat) : Int))) 0)))) (ixR (el := (fun i _ => .v (.int .u32 (((limbs x).getD i 0 : Nat) : Int)))) (z := 0) (n := ((limbs x).length)) rfl rfl rfl rfl rfl rfl (by decide) (by rw [hl1]; decide)) ?_
        refine mV hTT (.d (.one (.v (.int .u32 (((limbs x).getD 0 0 : Nat) : Int))))) rfl ?_
        refine mV hTT (.d (.one (.v (.bool ((((limbs x).getD 0 0 : Nat) : Int) == 1))))) rfl ?_
        refine mV hTT _ rfl ?_
        refine mNil ?_
        refine tN ?_
        refine cCond rfl (fun hc3 => ?_) (fun hc3 => ?_)
        · skip
          refine cExit ?_
          refine bX rfl ?_
          refine tE ?_
          refine tE ?_
          refine bE ?_
          refine tN ?_
          refine cSeq ?_
          refine cReg ?_
          refine mV hTT _ rfl ?_
          refine mC0 (aLNorm (isl K x) (by omega)) rfl rfl rfl ?_
          refine mC0 (aMade (K := K) (m := x) (neg := false) rfl) rfl rfl rfl ?_
          refine mS hTT 2 (.box 28 (zn K (zv false x))) rfl ?_
          refine mNil ?_
          refine tN ?_
          refine cRet ?_
          have h1 : x = 1 := limbs1.1 ⟨hl1, by have h0 := eq_of_beq hc3; exact Int.ofNat_inj.1 h0⟩
          exact rQ rfl (le_zn (Nat.le_refl _) (by show ((x : Nat) : Int) = _; rw [h1, gcdN_one (hx ▸ h1) (show i + 1 ≤ n from hi)]))
        · skip
          refine cSkip ?_
          refine bN ?_
          refine tN ?_
          refine cReg ?_
          refine mV hTT (.d (.one (.v (.int .i64 (IntKind.i64.wrap (((i : Nat) : Int) + 1)))))) rfl ?_
          refine mV hTT _ rfl ?_
          refine mNil ?_
          exact ⟨(i + 1), by omega, by omega, wk (sl := [(2, .ptr 2 0), (10, .d (.one (.row 2 n (ael K f)))), (11, .d (.one (.v (.int .i64 (n : Int))))), (12, .d (.one (.v (.int .i64 (((i + 1) : Nat) : Int))))), (3, .d (.one (ln K (gcdN c (i + 1)))))]) (hp := [(2, .box 28 ([.v (.bool false), .v (.slice none 0 0)]))]) rfl ⟨hs rfl, hs rfl, hs rfl, hs' rfl (le_int (inc64 (by omega))), hs' rfl (le_one (hx ▸ fun _ _ _ h => h)), trivial⟩ ⟨ho rfl, trivial⟩ rfl⟩
      · skip
        refine cReg ?_
        refine mV hTT _ rfl ?_
        refine mV hTT (.d (.one (.v (.int .i64 ((limbs x).length : Int))))) rfl ?_
        refine mV hTT (.d (.one (.v (.bool false)))) (evb (beq_eq_false_iff_ne.2 fun e => hl1 (by exact_mod_cast e))) ?_
        refine mV hTT _ rfl ?_
        refine mG rfl rfl ?_
        refine mG rfl rfl ?_
        refine mG rfl rfl ?_
        refine mG rfl rfl ?_
        refine mV hTT _ rfl ?_
        refine mNil ?_
        refine tN ?_
        refine cF rfl ?_
        refine cSkip ?_
        refine bN ?_
        refine tN ?_
        refine cReg ?_
        refine mV hTT (.d (.one (.v (.int .i64 (IntKind.i64.wrap (((i : Nat) : Int) + 1)))))) rfl ?_
        refine mV hTT _ rfl ?_
        refine mNil ?_
        exact ⟨(i + 1), by omega, by omega, wk (sl := [(2, .ptr 2 0), (10, .d (.one (.row 2 n (ael K f)))), (11, .d (.one (.v (.int .i64 (n : Int))))), (12, .d (.one (.v (.int .i64 (((i + 1) : Nat) : Int))))), (3, .d (.one (ln K (gcdN c (i + 1)))))]) (hp := [(2, .box 28 ([.v (.bool false), .v (.slice none 0 0)]))]) rfl ⟨hs rfl, hs rfl, hs rfl, hs' rfl (le_int (inc64 (by omega))), hs' rfl (le_one (hx ▸ fun _ _ _ h => h)), trivial⟩ ⟨ho rfl, trivial⟩ rfl⟩
  · skip
    refine cExit ?_
    refine tE ?_
    refine tE ?_
    refine bE ?_
    refine tN ?_
    refine cSeq ?_
    refine cReg ?_
    refine mV hTT _ rfl ?_
    refine mC0 (aLNorm (isl K (gcdN c i)) (by omega)) rfl rfl rfl ?_
    refine mC0 (aMade (K := K) (m := (gcdN c i)) (neg := false) rfl) rfl rfl rfl ?_
    refine mS hTT 2 (.box 28 (zn K (zv false (gcdN c i)))) rfl ?_
    refine mNil ?_
    refine tN ?_
    refine cRet ?_
    have hin : i = n := by have h0 := of_decide_eq_false hc1; omega
    exact rQ rfl (le_zn (Nat.le_refl _) (by rw [hin]; rfl))

end Go.Proofs.Ytpnoklbijfmoaaa

/-
  THE ABSTRACT MACHINE, 17: rows that are made and written, element by element; captured rows; the product's coefficients. No condition; nothing of the program.
-/
set_option linter.unusedVariables false
set_option linter.unusedSimpArgs false
namespace Go.Proofs.Ytpnoklbijfmoaaa
open Go.RowKit

/-- Made: all are 0. -/
theorem leo_zero {e : TypeId} {n K : Nat} {c : Nat → Int} (h : ∀ i, i < n → c i = 0) : AO.le (.row e 2 n fun _ j => .v ((([Value.bool false, Value.slice none 0 0] : List Value)[j]?).getD undef)) (.row e 2 n (zel K c)) := by
  refine leo_row fun i hi j hj B w v hv => ?_
  unfold zel
  rw [h i hi]
  match j, hj with
  | 0, _ => exact hv
  | 1, _ => exact nil_lr K (fun _ => none) B w v hv
theorem cell_z {K L : Nat} {z y : Int} (hK : K ≤ L) (e : z = y) : ∀ q, q < 2 → ∀ B w v, LfR B w (((zn K z)[q]?).getD (.v undef)) v → LfR B w (((zn L y)[q]?).getD (.v undef)) v := by
  subst e
  intro q hq B w v hv
  match q, hq with
  | 0, _ => exact hv
  | 1, _ => exact lr_mono hK _ _ _ hv
theorem cell_q {K L : Nat} {z y : Rat} (hK : K ≤ L) (e : z = y) : ∀ q, q < 4 → ∀ B w v, LfR B w (((qn K z)[q]?).getD (.v undef)) v → LfR B w (((qn L y)[q]?).getD (.v undef)) v := by
  subst e
  intro q hq B w v hv
  match q, hq with
  | 0, _ => exact dr_mono hK _ _ _ hv
  | 1, _ => exact hv
  | 2, _ => exact dr_mono hK _ _ _ hv
  | 3, _ => exact hv
/-- One element is written. -/
theorem st_z {e : TypeId} {n i K L M : Nat} {c d : Nat → Int} {z : Int} (hK : K ≤ L) (hM : M ≤ L) (hz : z = d i) (h : ∀ p, p < n → p ≠ i → c p = d p) : AO.le (.row e 2 n fun p q => if p = i then ((zn M z)[q]?).getD (.v undef) else zel K c p q) (.row e 2 n (zel L d)) := by
  refine leo_row fun p hp q hq B w v hv => ?_
  by_cases hpi : p = i
  · subst hpi
    rw [if_pos rfl] at hv
    exact cell_z hM hz q hq _ _ _ hv
  · rw [if_neg hpi] at hv
    unfold zel
    exact cell_z hK (h p hp hpi) q hq _ _ _ hv
/-- Rationals, each of a bound of its own. -/
def qelv (Kf : Nat → Nat) (c : Nat → Rat) : Nat → Nat → Lf := fun i j => ((qn (Kf i) (c i))[j]?).getD (.v undef)
theorem st_q {e : TypeId} {n i M : Nat} {Kf Lf' : Nat → Nat} {c d : Nat → Rat} {z : Rat} (hK : ∀ p, p < n → p ≠ i → Kf p ≤ Lf' p) (hM : M ≤ Lf' i) (hz : z = d i) (h : ∀ p, p < n → p ≠ i → c p = d p) : AO.le (.row e 4 n fun p q => if p = i then ((qn M z)[q]?).getD (.v undef) else qelv Kf c p q) (.row e 4 n (qelv Lf' d)) := by
  refine leo_row fun p hp q hq B w v hv => ?_
  by_cases hpi : p = i
  · subst hpi
    rw [if_pos rfl] at hv
    exact cell_q hM hz q hq _ _ _ hv
  · rw [if_neg hpi] at hv
    exact cell_q (hK p hp hpi) (h p hp hpi) q hq _ _ _ hv
theorem leo_qelv {e : TypeId} {n : Nat} {Kf Lf' : Nat → Nat} {c d : Nat → Rat} (hK : ∀ p, p < n → Kf p ≤ Lf' p) (h : ∀ p, p < n → c p = d p) : AO.le (.row e 4 n (qelv Kf c)) (.row e 4 n (qelv Lf' d)) :=
  leo_row fun p hp q hq B w v hv => cell_q (hK p hp) (h p hp) q hq _ _ _ hv
theorem row_qelv {n K : Nat} {Kf : Nat → Nat} {c d : Nat → Rat} (hK : ∀ p, p < n → Kf p ≤ K) (h : ∀ p, p < n → c p = d p) : ∀ B w v, LfR B w (.row 4 n (qelv Kf c)) v → LfR B w (qrow K n d) v :=
  row_le fun p hp q hq B w v hv => cell_q (hK p hp) (h p hp) q hq _ _ _ hv
/-- A row whose first ones are written; the others are still as they were made. -/
def qpre (K i : Nat) (c : Nat → Rat) (z : Nat → Lf) : Nat → Nat → Lf := fun p q => if p < i then ((qn K (c p))[q]?).getD (.v undef) else z q
theorem st_pre {e : TypeId} {n i K M : Nat} {c : Nat → Rat} {z : Nat → Lf} {q0 : Rat} (hM : M ≤ K) (hz : q0 = c i) : AO.le (.row e 4 n fun p q => if p = i then ((qn M q0)[q]?).getD (.v undef) else qpre K i c z p q) (.row e 4 n (qpre K (i + 1) c z)) := by
  refine leo_row fun p hp q hq B w v hv => ?_
  unfold qpre at *
  by_cases hpi : p = i
  · subst hpi
    rw [if_pos rfl] at hv
    rw [if_pos (by omega)]
    exact cell_q hM hz q hq _ _ _ hv
  · rw [if_neg hpi] at hv
    by_cases hlt : p < i
    · rw [if_pos hlt] at hv; rw [if_pos (by omega)]; exact hv
    · rw [if_neg hlt] at hv; rw [if_neg (by omega)]; exact hv
theorem leo_pre {e : TypeId} {n K : Nat} {Kf : Nat → Nat} {c d : Nat → Rat} {z : Nat → Lf} (hK : ∀ p, p < n → K ≤ Kf p) (h : ∀ p, p < n → c p = d p) : AO.le (.row e 4 n (qpre K n c z)) (.row e 4 n (qelv Kf d)) := by
  refine leo_row fun p hp q hq B w v hv => ?_
  unfold qpre at hv
  rw [if_pos hp] at hv
  exact cell_q (hK p hp) (h p hp) q hq _ _ _ hv
theorem leo_pre0 {e : TypeId} {n K : Nat} {c : Nat → Rat} {z : Nat → Lf} : AO.le (.row e 4 n fun _ j => z j) (.row e 4 n (qpre K 0 c z)) := by
  refine leo_row fun p hp q hq B w v hv => ?_
  unfold qpre
  rw [if_neg (Nat.not_lt_zero _)]; exact hv

/-- Pointers to a cell nobody writes. -/
theorem at1_le {a b : Lf} (h : ∀ B w c, LfR B w a c → LfR B w b c) : ∀ B w c, LfR B w (.at 1 fun q => (([a] : List Lf)[0 + q]?).getD (.v undef)) c → LfR B w (.at 1 fun q => (([b] : List Lf)[0 + q]?).getD (.v undef)) c := by
  rintro B w c ⟨bl, off, rfl, h1, h2, h3⟩
  refine ⟨bl, off, rfl, h1, h2, fun j hj => ?_⟩
  obtain ⟨x, hx, hl⟩ := h3 j hj
  obtain rfl : j = 0 := by omega
  exact ⟨x, hx, h _ _ _ hl⟩
theorem at2_le {l m : List Lf} {n : Nat} (hl : l.length = n) (h : ∀ B w cs, LsR B w l cs → LsR B w m cs) : ∀ B w c, LfR B w (.at n fun q => (l[0 + q]?).getD (.v undef)) c → LfR B w (.at n fun q => (m[0 + q]?).getD (.v undef)) c := by
  rintro B w c ⟨bl, off, rfl, h1, h2, h3⟩
  subst hl
  refine ⟨bl, off, rfl, h1, h2, ?_⟩
  let g : Nat → Value := fun j => (w.cell? ⟨bl, off + j, none⟩).getD (.bool false)
  have hcs : LsR B w l ((List.range l.length).map g) := by
    refine LsR.mk (by simp) fun j lf v hj hv => ?_
    have hlt : j < l.length := (List.getElem?_eq_some_iff.1 hj).1
    obtain ⟨x, hx, hlf⟩ := h3 j hlt
    replace hlf : LfR B w ((l[0 + j]?).getD (.v undef)) x := hlf
    rw [Nat.zero_add, hj] at hlf
    rw [List.getElem?_map, List.getElem?_range hlt] at hv
    have : v = x := by
      simp only [Option.map_some, Option.some.injEq] at hv
      rw [← hv]; show (w.cell? _).getD _ = x; rw [hx]; rfl
    rw [this]; exact hlf
  have hms := h _ _ _ hcs
  have hlen := hms.len
  intro j hj
  obtain ⟨x, hx, _⟩ := h3 j hj
  have hjm : j < m.length := by rw [hlen]; simp [hj]
  obtain ⟨v, hv, hlv⟩ := hms.get (j := j) (l := m[j]) (List.getElem?_eq_getElem hjm)
  rw [List.getElem?_map, List.getElem?_range hj] at hv
  have hvx : v = x := by
    simp only [Option.map_some, Option.some.injEq] at hv
    rw [← hv]; show (w.cell? _).getD _ = x; rw [hx]; rfl
  refine ⟨x, hx, ?_⟩
  show LfR B w ((m[0 + j]?).getD (.v undef)) x
  rw [Nat.zero_add, List.getElem?_eq_getElem hjm, ← hvx]
  exact hlv

/-- An element in any form, 0 where there is none. -/
def fx (n : Nat) (f : Nat → Bool × List Nat) (k : Nat) : Bool × List Nat := if k < n then f k else (false, [])
theorem fx_z {n k : Nat} {f : Nat → Bool × List Nat} {c : Nat → Int} (hf : ∀ i, i < n → fzv f i = c i) (hz : ∀ i, n ≤ i → c i = 0) : zv (fx n f k).1 (val (fx n f k).2) = c k := by
  unfold fx
  by_cases h : k < n
  · rw [if_pos h]; exact hf k h
  · rw [if_neg h]; exact (hz k (by omega)).symm

theorem dg_down {α : Type} [DecidableEq α] [OfNat α 0] {c : Nat → α} {n k : Nat} (h : dg c n = dg c k) (hk : k ≠ 0) (h0 : c (k - 1) = 0) : dg c n = dg c (k - 1) := by
  obtain ⟨j, rfl⟩ := Nat.exists_eq_succ_of_ne_zero hk
  rw [h]; exact dg_step h0

theorem maxNN (n m : Nat) : (if (true = true) then (if (m : Int) > (n : Int) then (m : Int) else (n : Int)) else (if (m : Int) < (n : Int) then (m : Int) else (n : Int))) = ((max n m : Nat) : Int) := by
  rw [if_pos rfl]; split <;> omega
theorem minNN (n m : Nat) : (if (false = true) then (if (m : Int) > (n : Int) then (m : Int) else (n : Int)) else (if (m : Int) < (n : Int) then (m : Int) else (n : Int))) = ((min n m : Nat) : Int) := by
  rw [if_neg (by decide)]; split <;> omega
/-- What is known of the arguments may be used. -/
theorem ACall.fact {P : Program} {f : FuncId} {args : List DV} {r : AV} {p : Prop} (he : ∀ vs w, (callFunc f vs).run P w = .ok (.enter f vs) w) (h : ∀ B w vs, DsR B w args vs → p) (k : p → ACall P f args r) : ACall P f args r :=
  ⟨he, fun B w vs hB hvs => (k (h B w vs hvs)).go B w vs hB hvs⟩
def cutf (k : Nat) (f : Nat → Bool × List Nat) : Nat → Bool × List Nat := fun i => ((f i).1, (f i).2.take k)
/-- The coefficients of a row in any form. -/
def cfz (n : Nat) (f : Nat → Bool × List Nat) : Nat → Int := fun i => if i < n then fzv f i else 0
theorem isp_a {K n : Nat} {f : Nat → Bool × List Nat} : IsP (arow K n f) K n (cfz n f) :=
  ⟨⟨f, fun _ _ _ h => h, fun i hi => by unfold cfz; rw [if_pos hi]⟩, fun i hi => by unfold cfz; rw [if_neg (by omega)]⟩
/-- Rows of integers. -/
def irow (n : Nat) (c : Nat → Int) : Lf := .row 1 n fun i _ => .v (.int .i64 (c i))
def IsI (l : Lf) (n : Nat) (c : Nat → Int) : Prop := (∀ B w v, LfR B w l v → LfR B w (irow n c) v) ∧ ∀ i, n ≤ i → c i = 0
theorem isi {n : Nat} {c : Nat → Int} (h : ∀ i, n ≤ i → c i = 0) : IsI (irow n c) n c := ⟨fun _ _ _ h => h, h⟩
theorem isi_nil : IsI (.v (.slice none 0 0)) 0 (fun _ => 0) := by
  refine ⟨?_, fun _ _ => rfl⟩
  rintro B w c ⟨rfl, _⟩
  exact ⟨none, 0, rfl, Nat.le_refl _, fun _ => rfl, fun i hi => absurd hi (Nat.not_lt_zero _)⟩
def lst (l : List Int) : Nat → Int := fun i => l.getD i 0
theorem isi_lit {l : List Int} {n : Nat} {el : Nat → Nat → Lf} (hn : l.length = n) (h : ∀ i, i < n → el i 0 = .v (.int .i64 (lst l i))) : IsI (.row 1 n el) n (lst l) := by
  refine ⟨row_le fun i hi j hj B w v hv => ?_, fun i hi => ?_⟩
  · obtain rfl : j = 0 := by omega
    rw [h i hi] at hv; exact hv
  · unfold lst; rw [List.getD_eq_getElem?_getD, List.getElem?_eq_none (by omega)]; rfl
theorem nil_prow {K : Nat} {c : Nat → Int} : AV.le (.d (.one (.v (.slice none 0 0)))) (.d (.one (prow K 0 c))) := by
  refine le_one ?_
  rintro B w v ⟨rfl, _⟩
  exact ⟨none, 0, rfl, Nat.le_refl _, fun _ => rfl, fun i hi => absurd hi (Nat.not_lt_zero _)⟩
theorem nil_qrow {K : Nat} {c : Nat → Rat} : AV.le (.d (.one (.v (.slice none 0 0)))) (.d (.one (qrow K 0 c))) := by
  refine le_one ?_
  rintro B w v ⟨rfl, _⟩
  exact ⟨none, 0, rfl, Nat.le_refl _, fun _ => rfl, fun i hi => absurd hi (Nat.not_lt_zero _)⟩
theorem dg_zero {α : Type} [DecidableEq α] [OfNat α 0] {c : Nat → α} (h : ∀ i, c i = 0) : ∀ n, dg c n = 0
  | 0 => rfl
  | n + 1 => by rw [dg_step (h n)]; exact dg_zero h n
theorem dg_all {α : Type} [DecidableEq α] [OfNat α 0] {c : Nat → α} {n : Nat} (hz : ∀ i, n ≤ i → c i = 0) (h : dg c n = 0) : ∀ i, c i = 0 := fun i => dg_z hz i (by omega)
/-- The coefficients as rationals. -/
def rc (c : Nat → Int) : Nat → Rat := fun i => ((c i : Int) : Rat)
theorem rc_z {c : Nat → Int} {n : Nat} (h : ∀ i, n ≤ i → c i = 0) : ∀ i, n ≤ i → rc c i = 0 := fun i hi => by unfold rc; rw [h i hi]; rfl
def faddQ (a b : Nat → Rat) : Nat → Rat := fun i => a i + b i
def fsclQ (a : Nat → Rat) (q : Rat) : Nat → Rat := fun i => a i * q
theorem faddQ_z {a b : Nat → Rat} {n m : Nat} (h : ∀ i, n ≤ i → a i = 0) (k : ∀ i, m ≤ i → b i = 0) : ∀ i, max n m ≤ i → faddQ a b i = 0 := fun i hi => by unfold faddQ; rw [h i (by omega), k i (by omega)]; exact Rat.add_zero 0
theorem fsclQ_z {a : Nat → Rat} {q : Rat} {n : Nat} (h : ∀ i, n ≤ i → a i = 0) : ∀ i, n ≤ i → fsclQ a q i = 0 := fun i hi => by unfold fsclQ; rw [h i hi]; grind
def fadd (a b : Nat → Int) : Nat → Int := fun i => a i + b i
def fsub (a b : Nat → Int) : Nat → Int := fun i => a i - b i
def fneg (a : Nat → Int) : Nat → Int := fun i => -a i
def fscl (a : Nat → Int) (q : Int) : Nat → Int := fun i => a i * q
def fder (a : Nat → Int) : Nat → Int := fun i => a (i + 1) * ((i + 1 : Nat) : Int)
theorem fadd_z {a b : Nat → Int} {n m : Nat} (h : ∀ i, n ≤ i → a i = 0) (k : ∀ i, m ≤ i → b i = 0) : ∀ i, max n m ≤ i → fadd a b i = 0 := fun i hi => by unfold fadd; rw [h i (by omega), k i (by omega)]; rfl
theorem fsub_z {a b : Nat → Int} {n m : Nat} (h : ∀ i, n ≤ i → a i = 0) (k : ∀ i, m ≤ i → b i = 0) : ∀ i, max n m ≤ i → fsub a b i = 0 := fun i hi => by unfold fsub; rw [h i (by omega), k i (by omega)]; rfl
theorem fneg_z {a : Nat → Int} {n : Nat} (h : ∀ i, n ≤ i → a i = 0) : ∀ i, n ≤ i → fneg a i = 0 := fun i hi => by unfold fneg; rw [h i hi]; rfl
theorem fscl_z {a : Nat → Int} {q : Int} {n : Nat} (h : ∀ i, n ≤ i → a i = 0) : ∀ i, n ≤ i → fscl a q i = 0 := fun i hi => by unfold fscl; rw [h i hi]; simp
theorem fder_z {a : Nat → Int} {n : Nat} (h : ∀ i, n ≤ i → a i = 0) : ∀ i, n - 1 ≤ i → fder a i = 0 := fun i hi => by unfold fder; rw [h (i + 1) (by omega)]; simp
/-! ### The product -/
theorem conv_z {a b : Nat → Int} {j : Nat} : ∀ {m : Nat}, (∀ i, i < m → i ≤ j → a i * b (j - i) = 0) → cv a b m j = 0
  | 0, _ => rfl
  | m + 1, h => by
    show cv a b m j + _ = 0
    rw [conv_z (fun i hi => h i (Nat.lt_succ_of_lt hi))]
    split
    · rename_i h1; rw [h m (Nat.lt_succ_self _) h1]; rfl
    · rfl
theorem conv_zQ {a b : Nat → Rat} {j : Nat} : ∀ {m : Nat}, (∀ i, i < m → i ≤ j → a i * b (j - i) = 0) → cv a b m j = 0
  | 0, _ => rfl
  | m + 1, h => by
    show cv a b m j + _ = 0
    rw [conv_zQ (fun i hi => h i (Nat.lt_succ_of_lt hi))]
    split
    · rename_i h1; rw [h m (Nat.lt_succ_self _) h1]; exact Rat.add_zero 0
    · exact Rat.add_zero 0
theorem cv_more {a b : Nat → Int} {j n : Nat} (ha : ∀ i, n ≤ i → a i = 0) : ∀ d, cv a b (n + d) j = cv a b n j
  | 0 => rfl
  | d + 1 => by
    show cv a b (n + d) j + (if n + d ≤ j then a (n + d) * b (j - (n + d)) else 0) = _
    rw [cv_more ha d, ha (n + d) (by omega)]
    split <;> simp
theorem cv_moreQ {a b : Nat → Rat} {j n : Nat} (ha : ∀ i, n ≤ i → a i = 0) : ∀ d, cv a b (n + d) j = cv a b n j
  | 0 => rfl
  | d + 1 => by
    show cv a b (n + d) j + (if n + d ≤ j then a (n + d) * b (j - (n + d)) else 0) = _
    rw [cv_moreQ ha d, ha (n + d) (by omega)]
    split <;> grind
theorem cv_past {a b : Nat → Int} {j : Nat} : ∀ d, cv a b (j + 1 + d) j = cv a b (j + 1) j
  | 0 => rfl
  | d + 1 => by
    show cv a b (j + 1 + d) j + (if j + 1 + d ≤ j then a (j + 1 + d) * b (j - (j + 1 + d)) else 0) = _
    rw [cv_past d, if_neg (by omega)]; simp
theorem cv_pastQ {a b : Nat → Rat} {j : Nat} : ∀ d, cv a b (j + 1 + d) j = cv a b (j + 1) j
  | 0 => rfl
  | d + 1 => by
    show cv a b (j + 1 + d) j + (if j + 1 + d ≤ j then a (j + 1 + d) * b (j - (j + 1 + d)) else 0) = _
    rw [cv_pastQ d, if_neg (by omega)]; grind
theorem cv_conv {a b : Nat → Int} {j n : Nat} (ha : ∀ i, n ≤ i → a i = 0) : cv a b n j = conv a b j := by
  unfold conv
  rw [← cv_more ha (j + 1), ← cv_past (a := a) (b := b) (j := j) n, Nat.add_comm]
theorem cv_convQ {a b : Nat → Rat} {j n : Nat} (ha : ∀ i, n ≤ i → a i = 0) : cv a b n j = conv a b j := by
  unfold conv
  rw [← cv_moreQ ha (j + 1), ← cv_pastQ (a := a) (b := b) (j := j) n, Nat.add_comm]
theorem conv_beyond {a b : Nat → Int} {j n m : Nat} (ha : ∀ i, n ≤ i → a i = 0) (hb : ∀ i, m ≤ i → b i = 0) (h : n + m ≤ j + 1) : conv a b j = 0 := by
  refine conv_z fun i _ hi => ?_
  by_cases h1 : n ≤ i
  · rw [ha i h1]; simp
  · rw [hb (j - i) (by omega)]; simp
theorem conv_beyondQ {a b : Nat → Rat} {j n m : Nat} (ha : ∀ i, n ≤ i → a i = 0) (hb : ∀ i, m ≤ i → b i = 0) (h : n + m ≤ j + 1) : conv a b j = 0 := by
  refine conv_zQ fun i _ hi => ?_
  by_cases h1 : n ≤ i
  · rw [ha i h1]; grind
  · rw [hb (j - i) (by omega)]; grind
theorem conv_z0 {a b : Nat → Int} {n m : Nat} (h : ∀ i, n ≤ i → a i = 0) (k : ∀ i, m ≤ i → b i = 0) : ∀ i, n + m ≤ i → conv a b i = 0 := fun i hi => conv_beyond h k (by omega)
theorem conv_z0Q {a b : Nat → Rat} {n m : Nat} (h : ∀ i, n ≤ i → a i = 0) (k : ∀ i, m ≤ i → b i = 0) : ∀ i, n + m ≤ i → conv a b i = 0 := fun i hi => conv_beyondQ h k (by omega)

theorem cv_cast {a b : Nat → Int} {j : Nat} : ∀ m, cv (fun i => ((a i : Int) : Rat)) (fun i => ((b i : Int) : Rat)) m j = ((cv a b m j : Int) : Rat)
  | 0 => rfl
  | m + 1 => by
    show cv _ _ m j + _ = (((cv a b m j + _ : Int)) : Rat)
    rw [cv_cast m, Rat.intCast_add]
    split
    · rw [Rat.intCast_mul]
    · rfl
/-- Within a round: the first k of the i-th have been added. -/
def cvk (a b : Nat → Int) (i k : Nat) : Nat → Int := fun j => cv a b i j + (if i ≤ j ∧ j < i + k then a i * b (j - i) else 0)
def cvkQ (a b : Nat → Rat) (i k : Nat) : Nat → Rat := fun j => cv a b i j + (if i ≤ j ∧ j < i + k then a i * b (j - i) else 0)
theorem cvk_zero {a b : Nat → Int} {i j : Nat} : cvk a b i 0 j = cv a b i j := by unfold cvk; rw [if_neg (by omega)]; simp
theorem cvkQ_zero {a b : Nat → Rat} {i j : Nat} : cvkQ a b i 0 j = cv a b i j := by unfold cvkQ; rw [if_neg (by omega)]; grind
theorem cvk_end {a b : Nat → Int} {i j m : Nat} (hb : ∀ k, m ≤ k → b k = 0) : cvk a b i m j = cv a b (i + 1) j := by
  show _ = cv a b i j + _
  unfold cvk
  by_cases h : i ≤ j
  · by_cases h2 : j < i + m
    · rw [if_pos ⟨h, h2⟩, if_pos h]
    · rw [if_neg (by omega), if_pos h, hb (j - i) (by omega)]; simp
  · rw [if_neg (by omega), if_neg h]
theorem cvkQ_end {a b : Nat → Rat} {i j m : Nat} (hb : ∀ k, m ≤ k → b k = 0) : cvkQ a b i m j = cv a b (i + 1) j := by
  show _ = cv a b i j + _
  unfold cvkQ
  by_cases h : i ≤ j
  · by_cases h2 : j < i + m
    · rw [if_pos ⟨h, h2⟩, if_pos h]
    · rw [if_neg (by omega), if_pos h, hb (j - i) (by omega)]; grind
  · rw [if_neg (by omega), if_neg h]
theorem cvk_step {a b : Nat → Int} {i k : Nat} : cvk a b i k (i + k) + a i * b k = cvk a b i (k + 1) (i + k) := by
  unfold cvk
  rw [if_neg (by omega), if_pos (by omega), Nat.add_sub_cancel_left]; simp
theorem cvkQ_step {a b : Nat → Rat} {i k : Nat} : cvkQ a b i k (i + k) + a i * b k = cvkQ a b i (k + 1) (i + k) := by
  unfold cvkQ
  rw [if_neg (by omega), if_pos (by omega), Nat.add_sub_cancel_left]; grind
theorem cvk_other {a b : Nat → Int} {i k j : Nat} (h : j ≠ i + k) : cvk a b i k j = cvk a b i (k + 1) j := by
  unfold cvk
  by_cases h1 : i ≤ j ∧ j < i + k
  · rw [if_pos h1, if_pos (by omega)]
  · rw [if_neg h1, if_neg (by omega)]
theorem cvkQ_other {a b : Nat → Rat} {i k j : Nat} (h : j ≠ i + k) : cvkQ a b i k j = cvkQ a b i (k + 1) j := by
  unfold cvkQ
  by_cases h1 : i ≤ j ∧ j < i + k
  · rw [if_pos h1, if_pos (by omega)]
  · rw [if_neg h1, if_neg (by omega)]
theorem conv_l0 {a b : Nat → Int} (h : ∀ i, a i = 0) (j : Nat) : conv a b j = 0 := conv_z fun i _ _ => by rw [h i]; simp
theorem conv_r0 {a b : Nat → Int} (h : ∀ i, b i = 0) (j : Nat) : conv a b j = 0 := conv_z fun i _ _ => by rw [h]; simp
theorem conv_l0Q {a b : Nat → Rat} (h : ∀ i, a i = 0) (j : Nat) : conv a b j = 0 := conv_zQ fun i _ _ => by rw [h i]; grind
theorem conv_r0Q {a b : Nat → Rat} (h : ∀ i, b i = 0) (j : Nat) : conv a b j = 0 := conv_zQ fun i _ _ => by rw [h]; grind
theorem nil_prow' {K n : Nat} {c : Nat → Int} (h : n = 0) : AV.le (.d (.one (.v (.slice none 0 0)))) (.d (.one (prow K n c))) := by subst h; exact nil_prow
theorem nil_qrow' {K n : Nat} {c : Nat → Rat} (h : n = 0) : AV.le (.d (.one (.v (.slice none 0 0)))) (.d (.one (qrow K n c))) := by subst h; exact nil_qrow
/-- The bounds of a product's elements, within a round. -/
def kf (R : Nat → Nat) (i k p : Nat) : Nat := if i ≤ p ∧ p < i + k then R (i + 1) else R i
theorem kf_at {R : Nat → Nat} {i k : Nat} : kf R i k (i + k) = R i := if_neg (by omega)
theorem kf_new {R : Nat → Nat} {i k : Nat} : kf R i (k + 1) (i + k) = R (i + 1) := if_pos (by omega)
theorem kf_le {R : Nat → Nat} {i k p : Nat} (h : R i ≤ R (i + 1)) : kf R i k p ≤ kf R i (k + 1) p := by
  unfold kf
  by_cases h1 : i ≤ p ∧ p < i + k
  · rw [if_pos h1, if_pos (by omega)]; exact Nat.le_refl _
  · rw [if_neg h1]; split
    · exact h
    · exact Nat.le_refl _
theorem kf_end {R : Nat → Nat} {i k p : Nat} (h : R i ≤ R (i + 1)) : kf R i k p ≤ R (i + 1) := by
  unfold kf; split
  · exact Nat.le_refl _
  · exact h
theorem kf_start {R : Nat → Nat} {i p : Nat} : R i ≤ kf R i 0 p := by unfold kf; rw [if_neg (by omega)]; exact Nat.le_refl _
/-- Rows of polynomials. -/
def prows (K n : Nat) (ns : Nat → Nat) (fs : Nat → Nat → Bool × List Nat) : Lf := .row 1 n fun p _ => arow K (ns p) (fs p)
def sumc (ns : Nat → Nat) (fs : Nat → Nat → Bool × List Nat) : Nat → Nat → Int
  | 0 => fun _ => 0
  | i + 1 => fadd (sumc ns fs i) (cfz (ns i) (fs i))
def prodc (ns : Nat → Nat) (fs : Nat → Nat → Bool × List Nat) : Nat → Nat → Int
  | 0 => lst [1]
  | i + 1 => conv (prodc ns fs i) (cfz (ns i) (fs i))
theorem cfz_z {n : Nat} {f : Nat → Bool × List Nat} : ∀ i, n ≤ i → cfz n f i = 0 := fun i hi => if_neg (by omega)
theorem lst_z {l : List Int} : ∀ i, l.length ≤ i → lst l i = 0 := fun i hi => by unfold lst; rw [List.getD_eq_getElem?_getD, List.getElem?_eq_none hi]; rfl
theorem sumc_z {ns : Nat → Nat} {fs : Nat → Nat → Bool × List Nat} {N : Nat} : ∀ {i : Nat}, (∀ p, p < i → ns p ≤ N) → ∀ j, N ≤ j → sumc ns fs i j = 0
  | 0, _, _, _ => rfl
  | i + 1, h, j, hj => by
    show sumc ns fs i j + cfz (ns i) (fs i) j = 0
    rw [sumc_z (fun p hp => h p (by omega)) j hj, cfz_z j (Nat.le_trans (h i (by omega)) hj)]; rfl
theorem prodc_z {ns : Nat → Nat} {fs : Nat → Nat → Bool × List Nat} {N : Nat} : ∀ {i : Nat}, (∀ p, p < i → ns p ≤ N) → ∀ j, i * N + 1 ≤ j → prodc ns fs i j = 0
  | 0, _, j, hj => lst_z j (by simpa using hj)
  | i + 1, h, j, hj => conv_beyond (prodc_z (fun p hp => h p (by omega))) (cfz_z (n := ns i)) (by have := h i (by omega); have h2 : (i + 1) * N = i * N + N := Nat.succ_mul i N; omega)
/-- Moved: step by step from the top. -/
def lin (x y : Int) : Nat → Int := fun i => if i = 0 then x else if i = 1 then y else 0
def onez (z : Int) : Nat → Int := fun i => if i = 0 then z else 0
def mvZ (a : Nat → Int) (x y : Int) (top : Nat) : Nat → Nat → Int
  | 0 => fun _ => 0
  | s + 1 => fadd (conv (mvZ a x y top s) (lin x y)) (onez (a (top - 1 - s) * y ^ s))
theorem lin_z {x y : Int} : ∀ i, 2 ≤ i → lin x y i = 0 := fun i hi => by unfold lin; rw [if_neg (by omega), if_neg (by omega)]
theorem onez_z {z : Int} : ∀ i, 1 ≤ i → onez z i = 0 := fun i hi => if_neg (by omega)
theorem mvZ_z {a : Nat → Int} {x y : Int} {top : Nat} : ∀ (s j : Nat), s ≤ j → mvZ a x y top s j = 0
  | 0, _, _ => rfl
  | s + 1, j, hj => by
    show conv (mvZ a x y top s) (lin x y) j + onez _ j = 0
    rw [conv_beyond (n := s) (m := 2) (mvZ_z s) lin_z (by omega), onez_z j (by omega)]; rfl
end Go.Proofs.Ytpnoklbijfmoaaa

/-
  THE PLAIN RECKONING: small numbers, quotients, divisors, whether two are one; rationals.
-/
set_option linter.unusedVariables false
set_option linter.unusedSimpArgs false
namespace Go.Proofs.Ytpnoklbijfmoaaa
open Go.RowKit

def del (xs : List Nat) : Nat → Nat → Lf := fun i _ => .v (.int .i64 ((xs.getD i 0 : Nat) : Int))
theorem digs_small {N : Nat} (h : N ≤ 9223372036854775808) : (digs4 N).length ≤ 5 := digs4_le (Nat.lt_of_le_of_lt h (by decide))
theorem digs_step {ds : List Nat} {R N : Nat} (hR : 0 < R) (h : ds ++ digs4 R = digs4 N) : (ds ++ [R % B4]) ++ digs4 (R / B4) = digs4 N := by
  rw [← h, digs4_pos (show R ≠ 0 by omega), List.append_assoc]; rfl
theorem digs_end {ds : List Nat} {R N : Nat} (hR : ¬ 0 < R) (h : ds ++ digs4 R = digs4 N) : ds = digs4 N := by
  obtain rfl : R = 0 := by omega
  rw [← h, show digs4 0 = [] from rfl, List.append_nil]
theorem del_app {e : TypeId} {ds : List Nat} {x m : Nat} {el2 : Nat → Nat → Lf} (hm : m = ds.length + 1) (h0 : el2 0 0 = .v (.int .i64 (x : Int)) := by rfl) : AO.le (.row e 1 (ds.length + 1) (appEl ds.length (del ds) el2)) (.row e 1 m (del (ds ++ [x]))) := by
  refine app_el hm (fun i hi j hj B w v hv => ?_) (fun j hj B w v hv => ?_)
  · unfold del at *; rw [List.getD_eq_getElem?_getD, List.getElem?_append_left hi, ← List.getD_eq_getElem?_getD]; exact hv
  · obtain rfl : j = 0 := by omega
    rw [h0] at hv
    unfold del; rw [List.getD_eq_getElem?_getD, List.getElem?_append_right (Nat.le_refl _), Nat.sub_self]; exact hv
/-- Cells one by one are a digit row. -/
theorem isd_row {n K N : Nat} {xs : List Nat} (hn : xs.length = n) (hx : xs = digs4 N) (hK : n ≤ K) : IsD (.row 1 n (del xs)) K N := by
  rintro B w c ⟨a, cap, rfl, h1, h2, h3⟩
  subst hn
  unfold dn
  rw [← hx]
  refine dr_R ⟨rfl, h1, h2, by rw [hx]; exact digs4_lt N, ?_⟩ hK (fun x hx' hne hb => ?_)
  · rcases Nat.eq_zero_or_pos xs.length with h0 | h0
    · have : xs = [] := List.eq_nil_of_length_eq_zero h0
      rw [this]; exact Or.inl rfl
    · obtain ⟨b, off, rfl, _, _, _⟩ := h3 0 h0
      refine Or.inr ⟨b, off, rfl, fun j hj => ?_⟩
      have hj' : j < xs.length := by simpa [ints] using hj
      obtain ⟨b', off', he', _, _, h4⟩ := h3 j hj'
      cases he'
      obtain ⟨x, hx1, hx2⟩ := h4 0 (by omega)
      obtain ⟨rfl, _⟩ := hx2
      rw [Nat.mul_one, Nat.add_zero] at hx1
      rw [hx1, ints_get]
      simp [hj']
  · obtain ⟨b, off, he', hb', _, _⟩ := h3 0 (List.length_pos_iff.2 hne)
    rw [he'] at hx'
    cases hx'
    exact hb' hb
theorem digs1 {m : Nat} : (digs4 m).length = 1 ∧ (digs4 m).getD 0 0 = 1 ↔ m = 1 := by
  constructor
  · rintro ⟨h1, h2⟩
    have h3 := val4_digs4 m
    match h : digs4 m, h1 with
    | [x], _ =>
      rw [h] at h2 h3
      simp at h2
      subst h2
      rw [← h3]; rfl
  · rintro rfl; rw [digs4_pos (by decide)]; exact ⟨rfl, rfl⟩
theorem quo_zv {x y : Int} (hd : y ∣ x) : zv (decide (x < 0) != decide (y < 0)) (x.natAbs / y.natAbs) = x / y := by
  obtain ⟨q, rfl⟩ := hd
  rcases Int.lt_trichotomy y 0 with hy | rfl | hy
  · rw [Int.natAbs_mul, Nat.mul_div_cancel_left _ (by omega), Int.mul_ediv_cancel_left _ (by omega)]
    rcases Int.lt_trichotomy q 0 with hq | rfl | hq
    · have := Int.mul_pos_of_neg_of_neg hy hq
      simp [zv, hy, show ¬ y * q < 0 from by omega]; omega
    · simp [zv]
    · have := Int.mul_neg_of_neg_of_pos hy hq
      simp [zv, hy, this]; omega
  · simp [zv]
  · rw [Int.natAbs_mul, Nat.mul_div_cancel_left _ (by omega), Int.mul_ediv_cancel_left _ (by omega)]
    rcases Int.lt_trichotomy q 0 with hq | rfl | hq
    · have := Int.mul_neg_of_pos_of_neg hy hq
      simp [zv, show ¬ y < 0 from by omega, this]; omega
    · simp [zv]
    · have := Int.mul_pos hy hq
      simp [zv, show ¬ y < 0 from by omega, show ¬ y * q < 0 from by omega]; omega

/-- A rational of the program, in any form; normal. -/
def IsT (ls : List Lf) (K : Nat) (n d : Int) : Prop := ∃ s xs t ys, (∀ B w cs, LsR B w ls cs → LsR B w ([.v (.bool s), lr K xs] ++ [.v (.bool t), lr K ys]) cs) ∧ zv s (val xs) = n ∧ zv t (val ys) = d
def tn (K : Nat) (q : Rat) : List Lf := zn K q.num ++ zn K (q.den : Int)
def IsTN (ls : List Lf) (K : Nat) (q : Rat) : Prop := ∀ B w cs, LsR B w ls cs → LsR B w (tn K q) cs
def cmpQ (x y : Rat) : Int := cmpZ (x.num * y.den) (y.num * x.den)
/-- A fraction (over 0: over 1). -/
def mkR (n d : Int) : Rat := Rat.divInt n (if d = 0 then 1 else d)
theorem mkR_pos {n d : Int} (h : 0 < d) : (Rat.divInt n d).num = n / ((Nat.gcd n.natAbs d.natAbs : Nat) : Int) ∧ ((Rat.divInt n d).den : Int) = d / ((Nat.gcd n.natAbs d.natAbs : Nat) : Int) := by
  obtain ⟨k, rfl⟩ := Int.eq_ofNat_of_zero_le (Int.le_of_lt h)
  have hk : k ≠ 0 := by rintro rfl; exact absurd h (by decide)
  rw [Rat.divInt_ofNat, ← Rat.normalize_eq_mkRat hk, Rat.normalize_eq hk]
  exact ⟨rfl, Int.natCast_ediv _ _⟩
theorem mkR_one (n : Int) : (Rat.divInt n 1).num = n ∧ ((Rat.divInt n 1).den : Int) = 1 := by
  have h := mkR_pos (n := n) (d := 1) (by decide)
  rw [show (Int.natAbs 1) = 1 from rfl, Nat.gcd_one_right] at h
  refine ⟨h.1.trans (Int.ediv_one n), h.2⟩
theorem gcd_dvd_l (n d : Int) : ((Nat.gcd n.natAbs d.natAbs : Nat) : Int) ∣ n := Int.dvd_natAbs.1 (Int.natCast_dvd_natCast.2 (Nat.gcd_dvd_left _ _))
theorem gcd_dvd_r (n d : Int) : ((Nat.gcd n.natAbs d.natAbs : Nat) : Int) ∣ d := Int.dvd_natAbs.1 (Int.natCast_dvd_natCast.2 (Nat.gcd_dvd_right _ _))
theorem gcd_nz {n d : Int} (h : d ≠ 0) : ((Nat.gcd n.natAbs d.natAbs : Nat) : Int) ≠ 0 := by
  have : Nat.gcd n.natAbs d.natAbs ≠ 0 := fun e => by
    have := (Nat.gcd_eq_zero_iff.1 e).2; omega
  omega
theorem den_ne (a : Rat) : (a.den : Int) ≠ 0 := by have := a.den_nz; omega
theorem mkR_ne {n d : Int} (h : d ≠ 0) : mkR n d = Rat.divInt n d := by unfold mkR; rw [if_neg h]
theorem mkR_add (a b : Rat) : mkR (a.num * b.den + b.num * a.den) (a.den * b.den) = a + b := by
  rw [mkR_ne (Int.mul_ne_zero (den_ne a) (den_ne b)), ← Rat.divInt_add_divInt _ _ (den_ne a) (den_ne b), Rat.num_divInt_den, Rat.num_divInt_den]
theorem mkR_mul (a b : Rat) : mkR (a.num * b.num) (a.den * b.den) = a * b := by
  rw [mkR_ne (Int.mul_ne_zero (den_ne a) (den_ne b)), ← Rat.divInt_mul_divInt, Rat.num_divInt_den, Rat.num_divInt_den]
theorem mkR_quo (a b : Rat) (h : b ≠ 0) : mkR (a.num * b.den) (a.den * b.num) = a / b := by
  have hb : b.num ≠ 0 := fun e => h (Rat.num_eq_zero.1 e)
  rw [mkR_ne (Int.mul_ne_zero (den_ne a) hb), ← Rat.divInt_mul_divInt, Rat.num_divInt_den, Rat.div_def, Rat.inv_def]
theorem mkR_int (n : Int) : mkR n 1 = (n : Rat) := by
  rw [mkR_ne (by decide)]
  exact Rat.ext (by rw [(mkR_one n).1, Rat.num_intCast]) (by have := (mkR_one n).2; rw [Rat.den_intCast]; omega)
theorem leo_znrow {t : TypeId} {K : Nat} {z : Int} : AO.le (.box t (zn K z)) (.box t [.v (.bool (decide (z < 0))), .row 1 (limbs z.natAbs).length fun i _ => .v (.int .u32 (((limbs z.natAbs).getD i 0 : Nat) : Int))]) := leo_box fun B w cs h => match cs, h with | [_, _], ⟨h1, h2, h3⟩ => ⟨h1, le_lrow K _ (fun _ => none) B w _ h2, h3⟩
theorem len_K {B : BS} {w : World} {K m : Nat} {v : Value} (h : LfR B w (ln K m) v) : (limbs m).length ≤ K := by obtain ⟨a, n, c, rfl, hr, hn, _⟩ := lr_of h; rw [hr.len]; exact hn
theorem same_len {B : BS} {w : World} {K L : Nat} {x : Int} {vs : List Value} (h : DsR B w [.agg (rn K x), .agg (zn L x)] vs) : (limbs x.natAbs).length ≤ L := by
  match vs, h with
  | [_, _], ⟨_, ⟨cs, rfl, h⟩, _⟩ =>
    match cs, h with
    | [_, _], ⟨_, h, _⟩ => exact len_K h
end Go.Proofs.Ytpnoklbijfmoaaa

/-
  POLYNOMIALS, by the machine (1).
-/
set_option linter.unusedVariables false
set_option linter.unusedSimpArgs false
namespace Go.Proofs.Ytpnoklbijfmoaaa
open Go.RowKit

set_option maxRecDepth 100000 in
set_option maxHeartbeats 4000000 in
theorem aPCut {K n : Nat} {c : Nat → Int} (hn : n ≤ 1000000) : ACall Try.prog 19 [.one (prow K n c)] (.d (.one (prow K (dg c n) c))) := by
  refine acallN hTT 21 [.tmp 2] Try.func19 rfl rfl rfl rfl rfl ?_
  refine cSeq ?_
  refine cReg ?_
  refine mV hTT _ rfl ?_
  refine mNil ?_
  refine tN ?_
  refine cSeq ?_
  refine cReg ?_
  refine mV hTT _ rfl ?_
  refine mV hTT (.d (.one (.v (.int .i64 (n : Int))))) rfl ?_
  refine mV hTT _ rfl ?_
  refine mNil ?_
  refine tN ?_
  refine cSeq ?_
  refine cBlock ?_
  refine cLoop (ι := Nat) (fun (k : Nat) => ⟨21, [(0, .d (.one (.row 2 n (zel K c)))), (3, .d (.one (.v (.int .i64 ((k : Nat) : Int)))))], []⟩) (fun (k : Nat) => k ≤ n ∧ dg c n = dg c k) (fun (k : Nat) => k) n (⟨Nat.le_refl _, rfl⟩) (wk (sl := [(0, .d (.one (.row 2 n (zel K c)))), (3, .d (.one (.v (.int .i64 ((n : Nat) : Int)))))]) (hp := []) rfl ⟨hs rfl, hs rfl, trivial⟩ trivial rfl) ?_
  rintro k hI
  obtain ⟨hkn, hk⟩ : k ≤ n ∧ dg c n = dg c k := hI
  show AW Try.prog _ _ ⟨21, [(0, .d (.one (.row 2 n (zel K c)))), (3, .d (.one (.v (.int .i64 ((k : Nat) : Int)))))], []⟩
  refine cSeq ?_
  refine cSeq ?_
  by_cases hk0 : k = 0
  · skip
    refine cReg ?_
    refine mV hTT _ rfl ?_
    refine mV hTT (.d (.one (.v (.bool false)))) (evb (decide_eq_false (by omega))) ?_
    refine mV hTT _ rfl ?_
    refine mG rfl rfl ?_
    refine mG rfl rfl ?_
    refine mG rfl rfl ?_
    refine mG rfl rfl ?_
    refine mG rfl rfl ?_
    refine mG rfl rfl ?_
    refine mV hTT _ rfl ?_
    refine mNil ?_
    refine tN ?_
    refine cF rfl ?_
    refine cExit ?_
    refine tE ?_
    refine tE ?_
    refine bE ?_
    refine tN ?_
    refine cSeq ?_
    have hd : k = dg c n := by rw [hk, hk0]; rfl
    refine cReg ?_
    refine mV hTT _ rfl ?_
    refine mV hTT _ rfl ?_
    refine mV hTT (.d (.one (.row 2 k (zel K c)))) (slR (z := (k : Int)) (n := n) rfl rfl rfl rfl rfl rfl (by omega) (by omega)) ?_
    refine mV hTT _ rfl ?_
    refine mNil ?_
    refine tN ?_
    refine cRet ?_
    exact rQ rfl (le_prow (Nat.le_refl _) hd (fun _ _ => rfl))
  · skip
    refine cReg ?_
    refine mV hTT _ rfl ?_
    refine mV hTT (.d (.one (.v (.bool true)))) (evb (decide_eq_true (by omega))) ?_
    refine mV hTT _ rfl ?_
    refine mV hTT _ rfl ?_
    refine mV hTT _ rfl ?_
    refine mV hTT (.d (.one (.v (.int .i64 ((k - 1 : Nat) : Int))))) (evi ((wr64 (by omega) (by omega)).trans (by omega))) ?_
    refine mV hTT (.d (.one (.at 2 ((zel K c) (k - 1))))) (ixR (el := (zel K c)) (z := ((k - 1 : Nat) : Int)) (n := n) rfl rfl rfl rfl rfl rfl (by omega) (by omega)) ?_
    refine mV hTT (.d (.agg (zn K (c (k - 1))))) rfl ?_
    refine mC0 (aZero (isn K (c (k - 1)))) rfl rfl rfl ?_
    refine mV hTT _ rfl ?_
    refine mNil ?_
    refine tN ?_
    refine cCond rfl (fun hc1 => ?_) (fun hc1 => ?_)
    · skip
      refine cSkip ?_
      refine tN ?_
      refine cBlock ?_
      have hc0 : c (k - 1) = 0 := of_decide_eq_true hc1
      refine cReg ?_
      refine mV hTT _ rfl ?_
      refine mV hTT (.d (.one (.v (.int .i64 ((k - 1 : Nat) : Int))))) (evi ((wr64 (by omega) (by omega)).trans (by omega))) ?_
      refine mV hTT _ rfl ?_
      refine mNil ?_
      refine bN ?_
      exact ⟨(k - 1), ⟨by omega, dg_down hk hk0 hc0⟩, by omega, wk (sl := [(0, .d (.one (.row 2 n (zel K c)))), (3, .d (.one (.v (.int .i64 (((k - 1) : Nat) : Int)))))]) (hp := []) rfl ⟨hs rfl, hs rfl, trivial⟩ trivial rfl⟩
    · skip
      refine cExit ?_
      refine tE ?_
      refine tE ?_
      refine bE ?_
      refine tN ?_
      refine cSeq ?_
      have hd : k = dg c n := by rw [hk]; exact (dg_stop (Or.inr fun e => of_decide_eq_false hc1 e)).symm
      refine cReg ?_
      refine mV hTT _ rfl ?_
      refine mV hTT _ rfl ?_
      refine mV hTT (.d (.one (.row 2 k (zel K c)))) (slR (z := (k : Int)) (n := n) rfl rfl rfl rfl rfl rfl (by omega) (by omega)) ?_
      refine mV hTT _ rfl ?_
      refine mNil ?_
      refine tN ?_
      refine cRet ?_
      exact rQ rfl (le_prow (Nat.le_refl _) hd (fun _ _ => rfl))

end Go.Proofs.Ytpnoklbijfmoaaa

/-
  POLYNOMIALS, by the machine (2): the plain reckoning; what is handed in, cut.
-/
set_option linter.unusedVariables false
set_option linter.unusedSimpArgs false
namespace Go.Proofs.Ytpnoklbijfmoaaa
open Go.RowKit

end Go.Proofs.Ytpnoklbijfmoaaa

