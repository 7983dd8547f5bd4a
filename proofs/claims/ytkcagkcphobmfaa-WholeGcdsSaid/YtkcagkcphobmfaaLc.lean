/-
  WALKS: limb.Mul, limb.one: what they return, as numbers; nothing that was there turns.
-/
import Derived.Test.YtkcagkcphobmfaaLb
set_option linter.unusedVariables false
set_option linter.unusedSimpArgs false
namespace Go.Proofs.Ytkcagkcphobmfaa
open Go.RowKit

/-- One digit of a row's product. -/
theorem mul_step {B k j cy x y o R V : Nat} {ps Q : List Nat} (ho : ps[k + j]? = some o) (hv : valB B ps + B ^ (k + j) * cy = R + B ^ k * (x * V))
    (hQ : valB B (Q.take (j + 1)) = V + B ^ j * y) :
    valB B (ps.set (k + j) ((x * y + o + cy) % B)) + B ^ (k + (j + 1)) * ((x * y + o + cy) / B) = R + B ^ k * (x * valB B (Q.take (j + 1))) := by
  have h1 := valB_set B ho ((x * y + o + cy) % B)
  have h2 := pow_step B (k + j) (x * y + o + cy)
  rw [Nat.mul_add, Nat.mul_add] at h2
  have h3 : B ^ k * (x * (V + B ^ j * y)) = B ^ k * (x * V) + B ^ (k + j) * (x * y) := by rw [Nat.pow_add]; grind
  rw [hQ, h3, ← Nat.add_assoc]
  omega

theorem mul_boundZ (x y : Nat) (hx : x < 4294967296) (hy : y < 4294967296) : (x : Int) * (y : Int) ≤ 18446744065119617025 ∧ (0 : Int) ≤ (x : Int) * (y : Int) := by
  have h := Nat.mul_le_mul (show x ≤ 4294967295 by omega) (show y ≤ 4294967295 by omega)
  rw [← Int.natCast_mul]
  omega

theorem mul_bound (x y o c : Nat) (hx : x < 4294967296) (hy : y < 4294967296) (ho : o < 4294967296) (hc : c < 4294967296) : x * y + o + c < 4294967296 * 4294967296 ∧ x * y ≤ 18446744065119617025 := by
  have h := Nat.mul_le_mul (show x ≤ 4294967295 by omega) (show y ≤ 4294967295 by omega)
  omega

set_option maxHeartbeats 1000000 in
/-- Mul: the product. -/
theorem mul_any (ao bo : Option Addr) (n c m d : Nat) (xs ys : List Nat) (w : World) (hn : n ≤ 1073741824) (hm : m ≤ 1073741824) (hr : Rw .u32 B32 w ao n c xs) (hs : Rw .u32 B32 w bo m d ys) :
    Calls Try.prog 68 #[.slice ao n c, .slice bo m d] w fun e w' => ∃ ro k c', e = .returned (.slice ro k c') ∧ Rw .u32 B32 w' ro k c' (limbs (val xs * val ys)) ∧ Own w.heap.size w' ro c' ∧ Below w.heap.size w w' := by
  go_enter Try.func68, Try.ntmps68
  go_wp2_with fail
  refine (cut_any ao n c xs _ (by omega) hr).mono ?_
  rintro e w' ⟨n1, rfl, hn1, hp, rfl⟩
  go_wp2_with fail
  refine (cut_any bo m d ys _ (by omega) hs).mono ?_
  rintro e w' ⟨m1, rfl, hm1, hq, rfl⟩
  go_wp2_with (at_make; refine Hid.out ?_)
  refine hid ?_
  refine wpList_mk _ rfl _ _ 22 rfl 68 (.int .u32 0) 4 Try.underlying22 Try.infoU32 rfl .i64 .i64 _ _ (n1 + m1) rfl rfl (by omega) (by omega) (by omega) (by unfold maxLen; omega) fun w2 hblk hbelow hlt => ?_
  obtain ⟨G, hG⟩ : ∃ G, G = w.heap.size := ⟨_, rfl⟩
  rw [← hG] at hblk hlt hbelow ⊢
  have HG := hid hG; clear hG
  rw [← ints_replicate] at hblk
  generalize hA : limbs (val xs) = P at *
  generalize hB : limbs (val ys) = Q at *
  have HA := hid hA; have HB := hid hB; clear hA hB
  have hpl := hp.len
  have hql := hq.len
  have HPL := hid hpl; have HQL := hid hql; clear hpl hql hr hs
  go_wp2_with fail
  go_loopw [24] (fun s24 wr => ∃ (k : Nat) (os : List Nat), k ≤ n1 ∧ s24 = .int .i64 k ∧ os.length = n1 + m1 ∧ (∀ o ∈ os, o < B32) ∧ (∀ j, k + m1 ≤ j → j < n1 + m1 → os[j]? = some 0) ∧ Blk wr G 68 (ints .u32 os) ∧ Below G w wr ∧
      valB B32 os = valB B32 (P.take k) * valB B32 Q) (fun s24 _ => n1 - (intOf s24).toNat)
  case atStart => exact ⟨0, List.replicate (n1 + m1) 0, Nat.zero_le _, rfl, by simp, (fun o ho => by have := (List.mem_replicate.1 ho).2; subst this; decide), (fun j _ hj => by simp [hj]), hblk, hbelow, by simp [valB, valB_replicate_zero]⟩
  case round =>
    obtain ⟨k, os, hk, rfl, hol, hoB, hz, hb, hbe, hv⟩ := hrel
    have HV := hid hv; have HOL := hid hol; have HZ := hid hz; clear hv hol hblk hbelow hz
    have hb0 := hb.lt
    by_cases hkn : k < n1
    · obtain ⟨b1, off1, x, rfl, hx, hxB, hcx⟩ := (hp.ext (by rw [← HG.out]; exact hbe)).at hkn
      have hx' : x < 4294967296 := hxB
      have Hx := hid hx; clear hx hxB
      go_wp2_with fail
      obtain ⟨wo, rfl⟩ : ∃ wo : World, wo = wr := ⟨_, rfl⟩
      go_loopw [8, 31] (fun s8 s31 wr => ∃ (j cy : Nat) (ps : List Nat), j ≤ m1 ∧ s31 = .int .i64 j ∧ s8 = .int .u64 cy ∧ cy < 4294967296 ∧ ps.length = n1 + m1 ∧ (∀ o ∈ ps, o < B32) ∧ (∀ i, k + m1 ≤ i → i < n1 + m1 → ps[i]? = some 0) ∧ Blk wr G 68 (ints .u32 ps) ∧ Below G w wr ∧
          valB B32 ps + B32 ^ (k + j) * cy = valB B32 os + B32 ^ k * (x * valB B32 (Q.take j))) (fun _ s31 _ => m1 - (intOf s31).toNat)
      case atStart => exact ⟨0, 0, os, Nat.zero_le _, rfl, rfl, by omega, HOL.out, hoB, HZ.out, hb, hbe, by simp [valB]⟩
      case round =>
        obtain ⟨j, cy, ps, hj, rfl, rfl, hcy, hpl, hpB, hpz, hb, hbe, hv⟩ := hrel
        have HV2 := hid hv; have HPL2 := hid hpl; have HPZ := hid hpz; clear hv hpl hpz
        by_cases hjm : j < m1
        · obtain ⟨b2, off2, y, rfl, hy, hyB, hcy2⟩ := (hq.ext (by rw [← HG.out]; exact hbe)).at hjm
          have hy' : y < 4294967296 := hyB
          have Hy := hid hy; clear hy hyB
          have hrow := hb.rw hpB
          rw [HPL2.out] at hrow
          obtain ⟨o, ho, hoB', hco⟩ := hrow.cell (j := k + j) (by omega)
          have ho' : o < 4294967296 := hoB'
          rw [Nat.zero_add] at hco
          have Ho := hid ho; clear ho hoB' hrow
          have hfree := hb.free (k + j)
          have hmb := mul_bound x y o cy hx' hy' ho' hcy
          obtain ⟨hm1', hm2⟩ := mul_boundZ x y hx' hy'
          have HMB := hid hmb; clear hmb
          go_wp2
          go_roundw
          case rel =>
            have hv := hb.set (k + j) (.int .u32 (((x * y + o + cy) % 4294967296 : Nat) : Int))
            rw [ints_set] at hv
            have e0 : ((x * y + o + cy : Nat) : Int) = (x : Int) * y + o + cy := by simp
            refine ⟨j + 1, (x * y + o + cy) / 4294967296, ps.set (k + j) ((x * y + o + cy) % 4294967296), by omega, by go_num, ?_, ?_, by rw [List.length_set]; exact HPL2.out, mem_set_lt hpB (Nat.mod_lt _ (by decide)) _, ?_, ?_, ?_, ?_⟩
            · rw [← e0]; rfl
            · have := HMB.out.1; exact Nat.div_lt_of_lt_mul this
            · intro i h1 h2
              rw [List.getElem?_set_ne (by omega)]
              exact HPZ.out i h1 h2
            · have e1 : ((x : Int) * y + o + cy) % 4294967296 = (((x * y + o + cy) % 4294967296 : Nat) : Int) := by rw [← e0]; rfl
              rw [e1]; exact hv
            · exact hbe.setCell (Nat.le_refl _) _
            · exact mul_step Ho.out HV2.out (valB_take_some _ Hy.out)
          case measure => simp [intOf]; omega
        · obtain rfl : j = m1 := by omega
          have hv2 := HV2.out
          rw [valB_take_all B32 HQL.out] at hv2
          have HV3 := hid hv2; clear hv2
          by_cases h0 : j = 0
          · subst h0
            have hq0 : valB B32 Q = 0 := by rw [List.eq_nil_of_length_eq_zero HQL.out]; rfl
            have HQ0 := hid hq0; clear hq0
            go_wp2
            go_roundw
            case rel =>
              refine ⟨k + 1, ps, by omega, by go_num, HPL2.out, hpB, fun i h1 h2 => HPZ.out i (by omega) h2, hb, hbe, ?_⟩
              have h2 := HV3.out
              rw [HV.out, HQ0.out] at h2
              rw [HQ0.out]
              omega
            case measure => simp [intOf]; omega
          · have hrow := hb.rw hpB
            rw [HPL2.out] at hrow
            have h00 := HPZ.out (k + j) (Nat.le_refl _) (by omega)
            have H00 := hid h00; clear h00
            have hcell := hb.cell (k + j) (by rw [ints_length, HPL2.out]; omega)
            have hfree := hb.free (k + j)
            go_wp2
            go_roundw
            case rel =>
              have hv := hb.set (k + j) (.int .u32 ((cy : Nat) : Int))
              rw [ints_set] at hv
              refine ⟨k + 1, ps.set (k + j) cy, by omega, by go_num, by rw [List.length_set]; exact HPL2.out, mem_set_lt hpB hcy _, ?_, hv, hbe.setCell (Nat.le_refl _) _, ?_⟩
              · intro i h1 h2
                rw [List.getElem?_set_ne (by omega)]
                exact HPZ.out i (by omega) h2
              · have h1 := valB_set B32 H00.out cy
                have h2 := HV3.out
                have h3 := valB_take_some B32 Hx.out
                rw [h3, HV.out] at *
                grind
            case measure => simp [intOf]; omega
    · obtain rfl : k = n1 := by omega
      go_wp2_with fail
      have hrow := hb.rw hoB
      rw [HOL.out] at hrow
      refine (cut_any _ _ _ _ _ (by omega) hrow).mono ?_
      rintro e w' ⟨r1, rfl, hr1', hres, rfl⟩
      have hown := hb.own (base := G) (n := k + m1) (Nat.le_refl _) (by rw [ints_length, HOL.out]; exact Nat.le_refl _)
      go_wp2
      go_ret
      refine ⟨_, _, _, rfl, ?_, by rw [← HG.out]; exact hown, by rw [← HG.out]; exact hbe⟩
      have hval : val os = val xs * val ys := by
        have h2 := HV.out
        rw [valB_take_all _ HPL.out, ← HA.out, ← HB.out] at h2
        change val os = val (limbs (val xs)) * val (limbs (val ys)) at h2
        rw [val_limbs, val_limbs] at h2
        exact h2
      rw [← hval]; exact hres

set_option maxHeartbeats 1000000 in
/-- one: a row over a limb above 0. -/
theorem one_any (ao : Option Addr) (n c : Nat) (xs : List Nat) (v : Nat) (w : World) (hn : n ≤ 1073741824) (hv0 : 0 < v) (hvB : v < 4294967296) (hr : Rw .u32 B32 w ao n c xs) :
    Calls Try.prog 76 #[.slice ao n c, .int .u32 v] w fun e w' => ∃ ro k c', e = .returned (.tuple #[.slice ro k c', .int .u32 ((val xs % v : Nat) : Int)]) ∧ Rw .u32 B32 w' ro k c' (limbs (val xs / v)) ∧ Own w.heap.size w' ro c' ∧ Below w.heap.size w w' := by
  have hvne : ((v : Int) == 0) = false := by rw [beq_eq_false_iff_ne]; omega
  go_enter Try.func76, Try.ntmps76
  go_wp2_with (at_make; refine Hid.out ?_)
  refine hid ?_
  refine wpList_mk _ rfl _ _ 22 rfl 68 (.int .u32 0) 4 Try.underlying22 Try.infoU32 rfl .i64 .i64 _ _ n rfl rfl (by omega) (by omega) (by omega) (by unfold maxLen; omega) fun w2 hblk hbelow hlt => ?_
  obtain ⟨G, hG⟩ : ∃ G, G = w.heap.size := ⟨_, rfl⟩
  rw [← hG] at hblk hlt hbelow ⊢
  have HG := hid hG; clear hG
  rw [← ints_replicate] at hblk
  have hpl := hr.len
  have HPL := hid hpl; clear hpl
  go_wp2_with fail
  go_loopw [7, 8] (fun s7 s8 wr => ∃ (k r : Nat) (os : List Nat), k ≤ n ∧ s8 = .int .i64 ((k : Int) - 1) ∧ s7 = .int .u64 r ∧ r < v ∧ os.length = n ∧ (∀ o ∈ os, o < B32) ∧ Blk wr G 68 (ints .u32 os) ∧ Below G w wr ∧
      valB B32 (xs.drop k) = v * valB B32 (os.drop k) + r) (fun _ s8 _ => (intOf s8 + 1).toNat)
  case atStart => exact ⟨n, 0, List.replicate n 0, Nat.le_refl _, rfl, rfl, hv0, by simp, (fun o ho => by have := (List.mem_replicate.1 ho).2; subst this; decide), hblk, hbelow, by rw [List.drop_of_length_le (Nat.le_of_eq HPL.out), List.drop_of_length_le (by simp)]; rfl⟩
  case round =>
    obtain ⟨k, r, os, hk, rfl, rfl, hrv, hol, hoB, hb, hbe, hv⟩ := hrel
    have HV := hid hv; have HOL := hid hol; clear hv hol hblk hbelow
    have hb0 := hb.lt
    by_cases h0 : k = 0
    · subst h0
      have hv := HV.out
      rw [List.drop_zero, List.drop_zero] at hv
      have HV2 := hid hv; clear hv HV
      go_wp2_with fail
      have hrow := hb.rw hoB
      rw [HOL.out] at hrow
      refine (cut_any _ _ _ _ _ (by omega) hrow).mono ?_
      rintro e w' ⟨r1, rfl, hr1', hres, rfl⟩
      have hown := hb.own (base := G) (n := n) (Nat.le_refl _) (by rw [ints_length, HOL.out]; exact Nat.le_refl _)
      have hr4 : r < 4294967296 := by omega
      go_wp2
      go_ret2
      have hmod : val xs % v = r := by
        have h2 := HV2.out
        unfold val; rw [h2, Nat.mul_add_mod, Nat.mod_eq_of_lt hrv]
      have hdiv : val xs / v = val os := by
        have h2 := HV2.out
        unfold val; rw [h2, Nat.mul_add_div hv0, Nat.div_eq_of_lt hrv, Nat.add_zero]
      exact ⟨_, _, _, by rw [hmod]; rfl, by rw [hdiv]; exact hres, by rw [← HG.out]; exact hown, by rw [← HG.out]; exact hbe⟩
    · obtain ⟨j, rfl⟩ : ∃ j, k = j + 1 := ⟨k - 1, by omega⟩
      obtain ⟨b1, off1, x, rfl, hx, hxB, hcx⟩ := (hr.ext (by rw [← HG.out]; exact hbe)).at (show j < n by omega)
      have hx' : x < 4294967296 := hxB
      have hr' : r < 4294967296 := by omega
      have Hx := hid hx; clear hx hxB
      have hcell := hb.cell j (by rw [ints_length, HOL.out]; omega)
      have hfree := hb.free j
      obtain ⟨s, hs⟩ : ∃ s : Nat, s = r * 4294967296 + x := ⟨_, rfl⟩
      have hor := or_join r x hr' hx'
      rw [← hs] at hor
      have hqB : s / v < 4294967296 := by
        rw [Nat.div_lt_iff_lt_mul hv0, hs]
        have := Nat.mul_le_mul_right 4294967296 (show r + 1 ≤ v from hrv)
        rw [Nat.add_mul, Nat.mul_comm v] at this
        omega
      obtain ⟨q, hq⟩ : ∃ q : Nat, q = s / v := ⟨_, rfl⟩
      obtain ⟨t, ht⟩ : ∃ t : Nat, t = s % v := ⟨_, rfl⟩
      have htv : t < v := by rw [ht]; exact Nat.mod_lt _ hv0
      have hqv : v * q + t = s := by rw [hq, ht]; exact Nat.div_add_mod s v
      have hq' : (s : Int) / (v : Int) = (q : Int) := by rw [hq]; rfl
      have ht' : (s : Int) % (v : Int) = (t : Int) := by rw [ht]; rfl
      rw [← hq] at hqB
      have HS := hid hs; have HQV := hid hqv; clear hs hqv hq ht
      go_wp2
      go_region
      go_wp2
      rw [ht']
      go_roundw
      case rel =>
        have hv := hb.set j (.int .u32 (q : Int))
        rw [ints_set] at hv
        exact ⟨j, t, os.set j q, by omega, rfl, rfl, htv, by rw [List.length_set]; exact HOL.out, mem_set_lt hoB hqB j, hv.drew, (hbe.setCell (Nat.le_refl _) _).drew, small_step (by rw [HOL.out]; omega) Hx.out HV.out HS.out HQV.out⟩
      case measure => simp [intOf]

end Go.Proofs.Ytkcagkcphobmfaa
