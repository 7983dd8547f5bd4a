/-
  WALKS: the plain reckoning: MulN, BitsN.
-/
import Derived.Test.YtkcagkcphobmfaaRd
import Derived.Test.YtkcagkcphobmfaaLe
set_option linter.unusedVariables false
set_option linter.unusedSimpArgs false
namespace Go.Proofs.Ytkcagkcphobmfaa
open Go.RowKit

theorem mulN_step {B k j cy x y o R V V' : Nat} {ps : List Nat} (ho : ps[k + j]? = some o) (hv : valB B ps + B ^ (k + j) * cy = R + B ^ k * (x * V))
    (hQ : V' = V + B ^ j * y) :
    valB B (ps.set (k + j) ((o + cy + x * y) % B)) + B ^ (k + (j + 1)) * ((o + cy + x * y) / B) = R + B ^ k * (x * V') := by
  have h1 := valB_set B ho ((o + cy + x * y) % B)
  have h2 := pow_step B (k + j) (o + cy + x * y)
  rw [Nat.mul_add, Nat.mul_add] at h2
  have h3 : B ^ k * (x * (V + B ^ j * y)) = B ^ k * (x * V) + B ^ (k + j) * (x * y) := by rw [Nat.pow_add]; grind
  rw [hQ, h3, ← Nat.add_assoc]
  omega

theorem mulN_boundZ (x y : Nat) (hx : x ≤ 9999) (hy : y ≤ 9999) : (x : Int) * (y : Int) ≤ 99980001 ∧ (0 : Int) ≤ (x : Int) * (y : Int) := by
  have h := Nat.mul_le_mul hx hy
  rw [← Int.natCast_mul]
  omega

set_option maxHeartbeats 2000000 in
/-- MulN: the product. -/
theorem mulN_own (ao bo : Option Addr) (n cp m d M N : Nat) (w : World) (hn : n ≤ 1073741824) (hm : m ≤ 1073741824) (hr : Rw .i64 B4 w ao n cp (digs4 M)) (hs : Rw .i64 B4 w bo m d (digs4 N)) :
    Calls Try.prog 61 #[.slice ao n cp, .slice bo m d] w fun e w' => ∃ ro k c', e = .returned (.slice ro k c') ∧ Rw .i64 B4 w' ro k c' (digs4 (M * N)) ∧ k ≤ n + m ∧ Own w.heap.size w' ro c' ∧ Below w.heap.size w w' := by
  obtain ⟨P, hxs⟩ : ∃ xs, xs = digs4 M := ⟨_, rfl⟩
  obtain ⟨Q, hys⟩ : ∃ ys, ys = digs4 N := ⟨_, rfl⟩
  rw [← hxs] at hr
  rw [← hys] at hs
  have hl1 := hr.len
  have hl2 := hs.len
  have HA := hid hxs; have HB := hid hys; have HPL := hid hl1; have HQL := hid hl2
  clear hxs hys hl1 hl2
  go_enter Try.func61, Try.ntmps61
  go_wp2_with (at_make; refine Hid.out ?_)
  refine hid ?_
  refine wpList_mk _ rfl _ _ 26 rfl 3 (.int .i64 0) 8 Try.underlying26 Try.infoInt rfl .i64 .i64 _ _ (n + m) rfl rfl (by omega) (by omega) (by omega) (by unfold maxLen; omega) fun w2 hblk hbelow hlt => ?_
  obtain ⟨G, hG⟩ : ∃ G, G = w.heap.size := ⟨_, rfl⟩
  rw [← hG] at hblk hlt hbelow ⊢
  have HG := hid hG; clear hG
  rw [← ints_replicate] at hblk
  go_wp2_with fail
  go_loopw [18] (fun s18 wr => ∃ (k : Nat) (os : List Nat), k ≤ n ∧ s18 = .int .i64 k ∧ os.length = n + m ∧ (∀ o ∈ os, o < B4) ∧ (∀ j, k + m ≤ j → j < n + m → os[j]? = some 0) ∧ Blk wr G 3 (ints .i64 os) ∧ Below G w wr ∧
      valB B4 os = valB B4 (P.take k) * valB B4 Q) (fun s18 _ => n - (intOf s18).toNat)
  case atStart => exact ⟨0, List.replicate (n + m) 0, Nat.zero_le _, rfl, by simp, (fun o ho => by have := (List.mem_replicate.1 ho).2; subst this; decide), (fun j _ hj => by simp [hj]), hblk, hbelow, by simp [valB, valB_replicate_zero]⟩
  case round =>
    obtain ⟨k, os, hk, rfl, hol, hoB, hz, hb, hbe, hv⟩ := hrel
    have HV := hid hv; have HOL := hid hol; have HZ := hid hz; clear hv hol hblk hbelow hz
    have hb0 := hb.lt
    by_cases hkn : k < n
    · obtain ⟨b1, off1, x, rfl, hx, hxB, hcx⟩ := (hr.ext (by rw [← HG.out]; exact hbe)).at hkn
      have hx' : x ≤ 9999 := by have : x < 10000 := hxB; omega
      have Hx := hid hx; clear hx hxB
      have hp0 : Rw .i64 B4 wr (some ⟨b1, off1, none⟩) n cp P := hr.ext (by rw [← HG.out]; exact hbe)
      clear hcx
      go_wp2_with fail
      obtain ⟨wo, rfl⟩ : ∃ wo : World, wo = wr := ⟨_, rfl⟩
      go_loopw [7, 8] (fun s7 s8 wr => ∃ (j cy : Nat) (ps : List Nat), j ≤ m + 1 ∧ (j = m + 1 → cy = 0) ∧ s8 = .int .i64 j ∧ s7 = .int .i64 cy ∧ cy ≤ 9999 ∧ ps.length = n + m ∧ (∀ o ∈ ps, o < B4) ∧ (∀ i, k + m ≤ i → k + j ≤ i → i < n + m → ps[i]? = some 0) ∧ Blk wr G 3 (ints .i64 ps) ∧ Below G w wr ∧
          valB B4 ps + B4 ^ (k + j) * cy = valB B4 os + B4 ^ k * (x * valB B4 (Q.take j))) (fun _ s8 _ => m + 1 - (intOf s8).toNat)
      case atStart => exact ⟨0, 0, os, Nat.zero_le _, fun h => rfl, rfl, rfl, by omega, HOL.out, hoB, fun i h1 _ h2 => HZ.out i h1 h2, hb, hbe, by simp [valB]⟩
      case round =>
        obtain ⟨j, cy, ps, hj, hjc, rfl, rfl, hcy, hpl, hpB, hpz, hb, hbe, hv⟩ := hrel
        have HV2 := hid hv; have HPL2 := hid hpl; have HPZ := hid hpz; have HJC := hid hjc; clear hv hpl hpz hjc
        obtain ⟨x2, hx2, _, hcx⟩ := (hr.ext (by rw [← HG.out]; exact hbe)).cell hkn
        obtain rfl : x = x2 := by have h := Hx.out; rw [hx2] at h; exact (Option.some.inj h).symm
        clear hx2
        by_cases hjm : j < m
        · obtain ⟨b2, off2, y, rfl, hy, hyB, hcy2⟩ := (hs.ext (by rw [← HG.out]; exact hbe)).at hjm
          have hy' : y ≤ 9999 := by have : y < 10000 := hyB; omega
          have Hy := hid hy; clear hy hyB
          have hrow := hb.rw hpB
          rw [HPL2.out] at hrow
          obtain ⟨o, ho, hoB', hco⟩ := hrow.cell (j := k + j) (by omega)
          have ho' : o ≤ 9999 := by have : o < 10000 := hoB'; omega
          rw [Nat.zero_add] at hco
          have Ho := hid ho; clear ho hoB' hrow
          have hfree := hb.free (k + j)
          obtain ⟨hm1', hm2⟩ := mulN_boundZ x y hx' hy'
          have hmn := Nat.mul_le_mul hx' hy'
          have HMN := hid hmn; clear hmn
          go_upto_region 11 with (fail)
          go_quiet (fail)
          go_wp2
          go_roundw
          case rel =>
            have hv := (hb.drewN 1).set (k + j) (.int .i64 (((o + cy + x * y) % 10000 : Nat) : Int))
            rw [ints_set] at hv
            have e0 : ((o + cy + x * y : Nat) : Int) = (o : Int) + cy + x * y := by simp
            refine ⟨j + 1, (o + cy + x * y) / 10000, ps.set (k + j) ((o + cy + x * y) % 10000), by omega, fun h => absurd h (by omega), by go_num, ?_, ?_, by rw [List.length_set]; exact HPL2.out, mem_set_lt hpB (Nat.mod_lt _ (by decide)) _, ?_, ?_, ?_, ?_⟩
            · rw [← e0]; rfl
            · have := HMN.out; omega
            · intro i h1 h2 h3
              rw [List.getElem?_set_ne (by omega)]
              exact HPZ.out i h1 (by omega) h3
            · have e1 : ((o : Int) + cy + x * y) % 10000 = (((o + cy + x * y) % 10000 : Nat) : Int) := by rw [← e0]; rfl
              rw [e1]; exact hv
            · exact (ext_drewN hbe _).setCell (Nat.le_refl _) _
            · exact mulN_step Ho.out HV2.out (valB_take_some _ Hy.out)
          case measure => simp [intOf]; omega
        · have hqm : valB B4 (Q.take (j + 1)) = valB B4 (Q.take j) := valB_take_none _ (by rw [HQL.out]; omega)
          have HQM := hid hqm; clear hqm
          by_cases hc0 : 0 < cy
          · obtain rfl : j = m := by
              have h := HJC.out
              have : ¬ j = m + 1 := fun h2 => by have := h h2; omega
              omega
            have hrow := hb.rw hpB
            rw [HPL2.out] at hrow
            obtain ⟨o, ho, hoB', hco⟩ := hrow.cell (j := k + j) (by omega)
            have h00 := HPZ.out (k + j) (Nat.le_refl _) (Nat.le_refl _) (by omega)
            obtain rfl : o = 0 := by rw [h00] at ho; exact (Option.some.inj ho).symm
            rw [Nat.zero_add] at hco
            have Ho := hid ho; clear ho hoB' hrow h00
            have hfree := hb.free (k + j)
            have hd : decide (j < j) = false := by simp
            go_wp2
            go_roundw
            case rel =>
              have hv := hb.set (k + j) (.int .i64 (((0 + cy + x * 0) % 10000 : Nat) : Int))
              rw [ints_set] at hv
              have e2 : (0 + cy + x * 0) % 10000 = cy := by omega
              have e3 : (0 + cy + x * 0) / 10000 = 0 := by omega
              refine ⟨j + 1, (0 + cy + x * 0) / 10000, ps.set (k + j) ((0 + cy + x * 0) % 10000), by omega, fun _ => e3, by go_num, ?_, ?_, by rw [List.length_set]; exact HPL2.out, mem_set_lt hpB (Nat.mod_lt _ (by decide)) _, ?_, ?_, ?_, ?_⟩
              · congr 1; try omega
              · omega
              · intro i h1 h2 h3
                rw [List.getElem?_set_ne (by omega)]
                exact HPZ.out i h1 (by omega) h3
              · rw [e2] at hv ⊢
                have e4 : (cy : Int) % 10000 = (cy : Int) := by omega
                first | exact hv | (rw [e4]; exact hv)
              · exact hbe.setCell (Nat.le_refl _) _
              · exact mulN_step Ho.out HV2.out (by rw [HQM.out]; simp)
            case measure => (simp [intOf])
          · obtain rfl : cy = 0 := by omega
            have hd : decide (j < m) = false := by rw [decide_eq_false_iff_not]; omega
            go_wp2
            go_roundw
            case rel =>
              refine ⟨k + 1, ps, by omega, by go_num, HPL2.out, hpB, fun i h1 h2 => HPZ.out i (by omega) (by omega) h2, hb, hbe, ?_⟩
              have h2 := HV2.out
              rw [List.take_of_length_le (l := Q) (by rw [HQL.out]; omega), HV.out] at h2
              rw [valB_take_some _ Hx.out]
              have h4 : (valB B4 (P.take k) + B4 ^ k * x) * valB B4 Q = valB B4 (P.take k) * valB B4 Q + B4 ^ k * (x * valB B4 Q) := by grind
              omega
            case measure => simp [intOf]; omega
    · obtain rfl : k = n := by omega
      go_wp2_with fail
      have hrow := hb.rw hoB
      rw [HOL.out] at hrow
      refine (rcut_any _ _ _ _ _ (by omega) hrow).mono ?_
      rintro e w' ⟨r1, rfl, hr1', hres, rfl⟩
      go_wp2
      go_ret
      refine ⟨_, _, _, rfl, ?_, hr1', by rw [← HG.out]; exact hb.own (Nat.le_refl _) (by rw [ints_length, HOL.out]; exact Nat.le_refl _), by rw [← HG.out]; exact hbe⟩
      have hval : val4 os = M * N := by
        have h2 := HV.out
        rw [valB_take_all _ HPL.out, HA.out, HB.out] at h2
        change val4 os = val4 (digs4 M) * val4 (digs4 N) at h2
        rw [val4_digs4, val4_digs4] at h2
        exact h2
      rw [← hval]; exact hres

theorem mulN_any (ao bo : Option Addr) (n cp m d M N : Nat) (w : World) (hn : n ≤ 1073741824) (hm : m ≤ 1073741824) (hr : Rw .i64 B4 w ao n cp (digs4 M)) (hs : Rw .i64 B4 w bo m d (digs4 N)) :
    Calls Try.prog 61 #[.slice ao n cp, .slice bo m d] w fun e w' => ∃ ro k c', e = .returned (.slice ro k c') ∧ Rw .i64 B4 w' ro k c' (digs4 (M * N)) ∧ k ≤ n + m ∧ Below w.heap.size w w' :=
  (mulN_own ao bo n cp m d M N w hn hm hr hs).mono fun e w' ⟨ro, k, c', he, h1, hk, _, h2⟩ => ⟨ro, k, c', he, h1, hk, h2⟩

end Go.Proofs.Ytkcagkcphobmfaa
