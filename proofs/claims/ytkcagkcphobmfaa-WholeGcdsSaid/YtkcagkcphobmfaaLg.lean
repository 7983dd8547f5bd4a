/-
  WALKS: limb.wide, limb.DivMod, limb.Sum: what they return, as numbers; nothing that was there turns.
-/
import Derived.Test.YtkcagkcphobmfaaLf
import Derived.Deep.RegionWith
set_option linter.unusedVariables false
set_option linter.unusedSimpArgs false
namespace Go.Proofs.Ytkcagkcphobmfaa
open Go.RowKit

theorem clampN_nat (s : Nat) (h : s ≤ 65536) : clampN (s : Int) = s := by unfold clampN; omega

/-- A row moved up, in l limbs. -/
theorem wide_any (ao : Option Addr) (n c : Nat) (xs : List Nat) (s l : Nat) (w : World) (hn : n ≤ 1073741824) (hs : s ≤ 65536) (hl : l ≤ 2147483648) (hr : Rw .u32 B32 w ao n c xs) (hfit : (limbs (val xs * 2 ^ s)).length ≤ l) :
    Calls Try.prog 78 #[.slice ao n c, .int .i64 (s : Int), .int .i64 (l : Int)] w fun e w' => ∃ (G : Nat) (os : List Nat), e = .returned (.slice (some ⟨G, 0, none⟩) l l) ∧ w.heap.size ≤ G ∧ Blk w' G 68 (ints .u32 os) ∧
      os.length = l ∧ (∀ x ∈ os, x < B32) ∧ val os = val xs * 2 ^ s ∧ Below w.heap.size w w' := by
  go_enter Try.func78, Try.ntmps78
  go_wp2_with (at_make; refine Hid.out ?_)
  refine hid ?_
  refine wpList_mk _ rfl _ _ 22 rfl 68 (.int .u32 0) 4 Try.underlying22 Try.infoU32 rfl .i64 .i64 _ _ l rfl rfl (by omega) (by omega) (by omega) (by unfold maxLen; omega) fun w2 hblk hbelow hlt => ?_
  obtain ⟨G, hG⟩ : ∃ G, G = w.heap.size := ⟨_, rfl⟩
  rw [← hG] at hblk hlt hbelow ⊢
  have HG := hid hG; clear hG
  rw [← ints_replicate] at hblk
  have hr2 := hr.ext (by rw [← HG.out]; exact hbelow)
  go_wp2_with fail
  refine (shl_any ao n c xs (s : Int) _ hn hr2).mono ?_
  rintro e w3 ⟨ro, k, c', rfl, hres, hown, hb3⟩
  rw [clampN_nat s hs] at hres
  have hblk3 := hblk.ext hb3
  have hlen := hres.len
  have HFIT := hid hfit; clear hfit
  go_wp2_with (with_reducible refine Hid.out (p := wpList _ _ _ ({ dst := some 14, op := _, type := _, pos := _, after := _, guard := _ } :: _) _ _) ?_)
  refine hid ?_
  refine wpList_cp rfl _ _ 22 22 rfl 68 Try.underlying22 Try.sizeU32 G 0 l l ro k c' rfl rfl _ 68 hblk3 (ints .u32 (limbs (val xs * 2 ^ s))) ?_ hres.cells ?_ (ints_one _ _) G (Nat.le_refl _) fun w4 hblk4 hb4 => ?_
  · rw [ints_length, hlen]; exact (Nat.min_eq_left (by rw [← hlen]; exact HFIT.out)).symm
  · rw [ints_length, ints_length]; simp; exact HFIT.out
  have hsp : splice (ints .u32 (List.replicate l 0)) 0 (ints .u32 (limbs (val xs * 2 ^ s))) = ints .u32 (limbs (val xs * 2 ^ s) ++ List.replicate (l - k) 0) := by
    simp [splice, ints, hlen]
  rw [hsp] at hblk4
  go_wp2
  go_ret
  refine ⟨G, limbs (val xs * 2 ^ s) ++ List.replicate (l - k) 0, rfl, by rw [HG.out]; exact Nat.le_refl _, hblk4, ?_, ?_, ?_, ?_⟩
  · have := HFIT.out
    rw [List.length_append, List.length_replicate, hlen]
    rw [hlen] at this; omega
  · intro x hx
    rcases List.mem_append.1 hx with hx | hx
    · exact limbs_lt _ x hx
    · have := (List.mem_replicate.1 hx).2; subst this; decide
  · unfold val
    rw [valB_append_zeros]
    exact val_limbs _
  · rw [← HG.out]
    exact (hbelow.trans (hb3.mono (by omega))).trans hb4

theorem val_one (x : Nat) : val [x] = x := by simp [val, valB]

/-- The error of a division: 2 by 0. -/
def divErr (v : Nat) : Int := if v = 0 then 2 else 0
/-- The remainder of a division; by 0 there is none. -/
def modZ (u v : Nat) : Nat := if v = 0 then 0 else u % v

theorem divErr_zero : divErr 0 = 2 := rfl
theorem divErr_pos {v : Nat} (h : v ≠ 0) : divErr v = 0 := if_neg h
theorem modZ_zero (u : Nat) : modZ u 0 = 0 := rfl
theorem modZ_pos (u : Nat) {v : Nat} (h : v ≠ 0) : modZ u v = u % v := if_neg h

set_option maxHeartbeats 2000000 in
/-- DivMod: quotient and remainder; by 0 there is none. -/
theorem divmod_any (ao bo : Option Addr) (n c m d : Nat) (xs ys : List Nat) (w : World) (hn : n ≤ 1073741823) (hm : m ≤ 1073741823) (hr : Rw .u32 B32 w ao n c xs) (hs : Rw .u32 B32 w bo m d ys) :
    Calls Try.prog 54 #[.slice ao n c, .slice bo m d] w fun e w' => ∃ qo qn qc ro rn rc, e = .returned (.tuple #[.slice qo qn qc, .slice ro rn rc, .int .i64 (divErr (val ys))]) ∧
      Rw .u32 B32 w' qo qn qc (limbs (val xs / val ys)) ∧ Own w.heap.size w' qo qc ∧ Rw .u32 B32 w' ro rn rc (limbs (modZ (val xs) (val ys))) ∧ Own w.heap.size w' ro rc ∧ Below w.heap.size w w' := by
  go_enter Try.func54, Try.ntmps54
  go_wp2_with fail
  refine (cut_any ao n c xs _ (by omega) hr).mono ?_
  rintro e w' ⟨n1, rfl, hn1, hp, rfl⟩
  go_wp2_with fail
  refine (cut_any bo m d ys _ (by omega) hs).mono ?_
  rintro e w' ⟨m1, rfl, hm1, hq, rfl⟩
  clear hr hs
  have hpl := hp.len
  have hql := hq.len
  by_cases h0 : m1 = 0
  · subst h0
    have hy0 : val ys = 0 := limbs_eq_nil.1 (List.eq_nil_of_length_eq_zero hql)
    have HY := hid hy0; clear hy0 hpl hql
    go_wp2
    go_ret3
    refine ⟨_, _, _, _, _, _, by rw [HY.out]; rfl, ?_, Own.nil _ _ _, ?_, Own.nil _ _ _, Below.refl _ _⟩
    · rw [HY.out, Nat.div_zero]; exact Rw.nil _ _ _
    · rw [HY.out]; exact Rw.nil _ _ _
  · have hy0 : val ys ≠ 0 := fun h => h0 (by rw [← hql, h]; rfl)
    have HY := hid hy0; clear hy0
    by_cases hlt : n1 < m1
    · have hlt2 : val xs < val ys := limbs_shorter (by rw [hpl, hql]; exact hlt)
      have HLT := hid hlt2; clear hlt2 hpl hql
      have hm0 : ((m1 : Int) == 0) = false := by rw [beq_eq_false_iff_ne]; omega
      go_wp2_with fail
      refine (norm_any _ _ _ _ _ (by omega) hp).mono ?_
      rintro e w1 ⟨ro, k, c', rfl, hk, hres, hown, hb⟩
      rw [val_limbs] at hres
      go_wp2
      go_ret3
      refine ⟨_, _, _, _, _, _, by rw [divErr_pos HY.out]; rfl, ?_, Own.nil _ _ _, ?_, hown, hb⟩
      · rw [Nat.div_eq_of_lt HLT.out]; exact Rw.nil _ _ _
      · rw [modZ_pos _ HY.out, Nat.mod_eq_of_lt HLT.out]; exact hres
    · by_cases h1 : m1 = 1
      · subst h1
        obtain ⟨b1, off1, v, rfl, hv, hvB, hcv⟩ := hq.at (show 0 < 1 by omega)
        have hvB' : v < 4294967296 := hvB
        rw [Nat.add_zero] at hcv
        have hvy : val ys = v := by
          have h2 : limbs (val ys) = [v] := by
            match hL : limbs (val ys), hql with
            | [a], _ => rw [hL] at hv; simp at hv; rw [hv]
          have h3 := val_limbs (val ys)
          rw [h2, val_one] at h3; exact h3.symm
        have hv0 : 0 < v := by have := HY.out; omega
        have HV := hid hvy; clear hvy hv hvB hpl hql
        go_wp2_with fail
        refine (one_any _ _ _ _ v _ (by omega) hv0 hvB' hp).mono ?_
        rintro e w1 ⟨ro, k, c', rfl, hres, hown, hb⟩
        rw [val_limbs] at hres ⊢
        have hrB : val xs % v < 4294967296 := Nat.lt_trans (Nat.mod_lt _ hv0) hvB'
        obtain ⟨r, hr⟩ : ∃ r, r = val xs % v := ⟨_, rfl⟩
        rw [← hr] at hrB ⊢
        have HR := hid hr; clear hr
        go_wp2_with fail
        have hblk : Blk (w1.alloc (.cells #[.int .u32 (r : Int)] 68)) w1.heap.size 68 (ints .u32 [r]) := Blk.new w1 68 (ints .u32 [r])
        have hb2 : Below w1.heap.size w1 (w1.alloc (.cells #[.int .u32 (r : Int)] 68)) := (Below.refl _ _).alloc (Nat.le_refl _) _
        have hrow := hblk.rw (B := B32) (by intro x hx; rw [List.mem_singleton.1 hx]; exact hrB)
        refine (cut_any _ 1 1 [r] _ (by omega) hrow).mono ?_
        rintro e w' ⟨k2, rfl, hk2, hres2, rfl⟩
        have hown2 := hblk.own (base := w.heap.size) hb.size (n := 1) (Nat.le_refl _)
        rw [val_one] at hres2
        go_wp2
        go_ret3
        exact ⟨_, _, _, _, _, _, by rw [divErr_pos HY.out]; rfl, by rw [HV.out]; exact hres.ext hb2, hown.ext hb2, by rw [modZ_pos _ HY.out, HV.out, ← HR.out]; exact hres2, hown2, ext_trans hb hb2⟩
      · have hm2 : 2 ≤ m1 := by omega
        have hm0 : ((m1 : Int) == 0) = false := by rw [beq_eq_false_iff_ne]; omega
        have hm1' : ((m1 : Int) == 1) = false := by rw [beq_eq_false_iff_ne]; omega
        obtain ⟨b1, off1, v, rfl, hv, hvB, hcv⟩ := hq.at (show m1 - 1 < m1 by omega)
        have hvB' : v < 4294967296 := hvB
        have hv0 : v ≠ 0 := by
          rintro rfl
          have h1 := (digs_nrm B32_two (val ys)).2
          rw [List.getLast?_eq_getElem?] at h1
          change (limbs (val ys))[(limbs (val ys)).length - 1]? ≠ some 0 at h1
          rw [hql] at h1
          exact h1 hv
        have hnb := nbits_le_of_lt (n := v) (k := 32) hvB'
        have hnb1 := nbits_pos hv0
        have hnb2 := nbits_lt v
        have hnb3 := nbits_le hv0
        obtain ⟨s, hs⟩ : ∃ s, s = 32 - nbits v := ⟨_, rfl⟩
        have hsB : s ≤ 31 := by omega
        have hS1 : (v + 1) * 2 ^ s ≤ B32 := by
          have h3 := Nat.mul_le_mul_right (2 ^ s) (show v + 1 ≤ 2 ^ nbits v from hnb2)
          rw [← Nat.pow_add, show nbits v + s = 32 by omega] at h3
          exact h3
        have hS2 : B32 ≤ 2 * (v * 2 ^ s) := by
          have h3 := Nat.mul_le_mul_right (2 ^ s) hnb3
          rw [← Nat.pow_add, show nbits v - 1 + s = 31 by omega] at h3
          unfold B32; omega
        have hSpos := Nat.two_pow_pos s
        have hVdec : val ys = v * B32 ^ (m1 - 1) + val ((limbs (val ys)).take (m1 - 1)) := by
          have h3 := valB_take_some B32 hv
          rw [show m1 - 1 + 1 = m1 by omega, valB_take_all _ hql] at h3
          change val (limbs (val ys)) = _ at h3
          rw [val_limbs] at h3
          rw [Nat.mul_comm, Nat.add_comm]; exact h3
        have hVlow := take_lt (B := B32) (k := m1 - 1) (limbs_lt (val ys)) (by rw [hql]; omega)
        obtain ⟨hs1, hs2, hs3⟩ := scale_facts hVdec hVlow hS1 hS2 hSpos
        have hU1 : val xs < B32 ^ n1 := by have h3 := val_lt (limbs_lt (val xs)); rwa [val_limbs, hpl] at h3
        have hfita : (limbs (val (limbs (val xs)) * 2 ^ s)).length ≤ n1 + 1 := by
          rw [val_limbs]
          refine limbs_le ?_
          rw [Nat.pow_succ]
          have h3 : 2 ^ s ≤ B32 := by
            have := Nat.mul_le_mul_right (2 ^ s) (show 1 ≤ v + 1 by omega)
            omega
          exact Nat.lt_of_lt_of_le (Nat.mul_lt_mul_of_pos_right hU1 hSpos) (Nat.mul_le_mul_left _ h3)
        have hfitb : (limbs (val (limbs (val ys)) * 2 ^ s)).length ≤ m1 := by
          rw [val_limbs]
          refine limbs_le ?_
          rw [show m1 - 1 + 1 = m1 by omega] at hs1; exact hs1
        have HS := hid hs; have HPL := hid hpl; have HQL := hid hql; have HFA := hid hfita; have HFB := hid hfitb; have HS1 := hid hs1; have HS2 := hid hs2; have HS3 := hid hs3; have HU1 := hid hU1; have HSP := hid hSpos
        clear hs hv hpl hql hvB hVdec hVlow hfita hfitb hs1 hs2 hs3 hU1 hSpos hS1 hS2 hnb hnb1 hnb2 hnb3
        go_wp2_with fail
        refine (lz32_any v _ hvB').mono ?_
        rintro e w' ⟨rfl, rfl⟩
        rw [← HS.out]
        go_wp2_with fail
        refine (wide_any ao n1 c _ s (n1 + 1) _ (by omega) (by omega) (by omega) hp HFA.out).mono ?_
        rintro e w1 ⟨Gx, X0, rfl, hGx, hbx, hxl, hxB, hxv, hb1⟩
        rw [val_limbs] at hxv
        have HXL := hid hxl; have HXV := hid hxv; clear hxl hxv
        have hbxlt := hbx.lt
        have hq1 := hq.ext hb1
        go_wp2_with fail
        refine (wide_any _ m1 d _ s m1 _ (by omega) (by omega) (by omega) hq1 HFB.out).mono ?_
        rintro e w2 ⟨Gy, Y0, rfl, hGy, hby, hyl, hyB, hyv, hb2⟩
        rw [val_limbs] at hyv
        have HYL := hid hyl; have HYV := hid hyv; clear hyl hyv
        have hbx2 := hbx.ext hb2
        have hb12 : Below w.heap.size w w2 := ext_trans hb1 hb2
        have hbylt := hby.lt
        obtain ⟨l, hl⟩ : ∃ l, n1 = m1 + l := ⟨n1 - m1, by omega⟩
        subst hl
        go_wp2_with (at_make; refine Hid.out ?_)
        refine hid ?_
        refine wpList_mk _ rfl _ _ 22 rfl 68 (.int .u32 0) 4 Try.underlying22 Try.infoU32 rfl .i64 .i64 _ _ (l + 1) rfl rfl (by omega) (by omega) (by omega) (by unfold maxLen; omega) fun w3 hblk hbelow hlt3 => ?_
        obtain ⟨Gq, hGq⟩ : ∃ G, G = w2.heap.size := ⟨_, rfl⟩
        rw [← hGq] at hblk hlt3 hbelow ⊢
        rw [← ints_replicate] at hblk
        have hbx3 := hbx2.ext (by rw [← hGq]; exact hbelow)
        have hby3 := hby.ext (by rw [← hGq]; exact hbelow)
        have hb13 : Below w.heap.size w w3 := ext_trans hb12 (by rw [← hGq]; exact hbelow)
        have HGQ := hid hGq
        have hxy : Gx ≠ Gy := by omega
        have hxq : Gx ≠ Gq := by omega
        have hyq : Gy ≠ Gq := by omega
        have hqbase : w.heap.size ≤ Gq := by rw [hGq]; exact hb12.size
        clear hGq hbx hbx2 hby hp hq hq1
        have hstart : valB B32 (X0.drop (l + 1)) < val Y0 := by
          rw [HYV.out]
          have h3 := valB_drop B32 X0 (l + 1) (by rw [HXL.out]; omega)
          have h4 := HU1.out
          rw [show m1 + l = (l + 1) + (m1 - 1) by omega] at h4
          exact start_lt (B := B32) (S := 2 ^ s) h4 h3 (by have := HXV.out; unfold val at *; exact this) HS3.out (by decide) HSP.out
        obtain ⟨yt, hyt⟩ : ∃ yt, Y0[m1 - 1]? = some yt := ⟨_, List.getElem?_eq_getElem (by rw [HYL.out]; omega)⟩
        have hytB : 2147483648 ≤ yt := by
          have h3 := top_digit (B := B32) (k := m1 - 1) (V := val ys * 2 ^ s) hyB (by rw [HYL.out]; omega) hyt HYV.out HS2.out
          unfold B32 at h3; omega
        have hYlt : val Y0 < B32 ^ m1 := by
          have h3 := HS1.out
          rw [show m1 - 1 + 1 = m1 by omega] at h3
          rw [HYV.out]; exact h3
        have HST := hid hstart; have HYT := hid hyt; have HYLT := hid hYlt
        clear hstart hyt hYlt
        go_wp2_with fail
        go_loopw [13] (fun s13 wr => ∃ (k : Nat) (os qs : List Nat), k ≤ l + 1 ∧ s13 = .int .i64 ((k : Int) - 1) ∧ os.length = m1 + l + 1 ∧ (∀ x ∈ os, x < B32) ∧ qs.length = l + 1 ∧ (∀ x ∈ qs, x < B32) ∧ Blk wr Gx 68 (ints .u32 os) ∧
            Blk wr Gy 68 (ints .u32 Y0) ∧ Blk wr Gq 68 (ints .u32 qs) ∧ Below w.heap.size w wr ∧ valB B32 (os.drop k) < val Y0 ∧ valB B32 os + B32 ^ k * (valB B32 (qs.drop k) * val Y0) = val X0) (fun s13 _ => (intOf s13 + 1).toNat)
        case atStart => exact ⟨l + 1, X0, List.replicate (l + 1) 0, Nat.le_refl _, by go_num, HXL.out, hxB, by simp, (fun o ho => by have := (List.mem_replicate.1 ho).2; subst this; decide), hbx3, hby3, hblk, hb13, HST.out, by rw [List.drop_of_length_le (by simp)]; simp [valB, val]⟩
        case round =>
          obtain ⟨k, os, qs, hk, rfl, hol, hoB, hqsl, hqsB, hbx, hby, hbq, hbe, hlt4, hv⟩ := hrel
          have HOL := hid hol; have HQSL := hid hqsl; have HLT4 := hid hlt4; have HV := hid hv
          clear hol hqsl hlt4 hv hblk hbx3 hby3 hb13 hbelow
          by_cases hk0 : k = 0
          · subst hk0
            have hv := HV.out
            have hlt4 := HLT4.out
            rw [List.drop_zero] at hv hlt4
            rw [Nat.pow_zero, Nat.one_mul, HXV.out, HYV.out] at hv
            rw [HYV.out] at hlt4
            obtain ⟨hdiv, hmod⟩ := unscale HSP.out hv hlt4
            have hqrow := hbq.rw hqsB
            rw [HQSL.out] at hqrow
            have hxrow := hbx.rw hoB
            rw [HOL.out] at hxrow
            have hxrow2 := hxrow.take (m := m1) (by omega)
            have hxval : val (os.take m1) = val os := by
              have h3 := valB_drop B32 os m1 (by rw [HOL.out]; omega)
              have h4 := HYLT.out
              rw [HYV.out] at h4
              have h5 : valB B32 (os.drop m1) = 0 := by
                rcases Nat.eq_zero_or_pos (valB B32 (os.drop m1)) with h5 | h5
                · exact h5
                · have := Nat.mul_le_mul_left (B32 ^ m1) h5
                  omega
              rw [h5] at h3
              exact h3.symm
            have hownq := hbq.own (base := w.heap.size) hqbase (n := l + 1) (by rw [ints_length, HQSL.out]; exact Nat.le_refl _)
            have hdiv' : val xs / val ys = val qs := hdiv
            have hmod' : val xs % val ys = val os / 2 ^ s := hmod
            have HD := hid hdiv'; have HM := hid hmod'; have HXVL := hid hxval
            clear hv hlt4 hdiv hmod hdiv' hmod' hxval HV HLT4
            have hqd : Rw .u32 B32 wr.drew (some ⟨Gq, 0, none⟩) (l + 1) (l + 1) qs := hqrow
            have hxd : Rw .u32 B32 wr.drew (some ⟨Gx, 0, none⟩) m1 (m1 + l + 1) (os.take m1) := hxrow2
            go_wp2_with fail
            go_region_with (first | (go_at_call 75; refine (cut_any _ _ _ _ _ (by omega) hqd).mono ?_; rintro e w' ⟨k2, rfl, hk2, hres2, rfl⟩) | (go_at_call 80; refine (shr_any _ _ _ _ (s : Int) _ (by omega) hxd).mono ?_; rintro e w' ⟨ro, k3, c3, rfl, hres3, hown3, hb3⟩))
            all_goals
              go_wp2
              go_ret3
              rw [clampN_nat s (by omega), HXVL.out, ← HM.out] at hres3
              have hres4 : Rw .u32 B32 wr.drew (some ⟨Gq, 0, none⟩) k2 (l + 1) (limbs (val xs / val ys)) := by rw [HD.out]; exact hres2
              have hown4 : Own w.heap.size wr.drew (some ⟨Gq, 0, none⟩) (l + 1) := hownq
              have hbd : Below w.heap.size w wr.drew := hbe.drew
              exact ⟨_, _, _, _, _, _, by rw [divErr_pos HY.out]; rfl, hres4.ext hb3, hown4.ext hb3, by rw [modZ_pos _ HY.out]; exact hres3, hown3.mono hbd.size, ext_trans hbd hb3⟩
          · obtain ⟨j, rfl⟩ : ∃ j, k = j + 1 := ⟨k - 1, by omega⟩
            obtain ⟨A, hA⟩ : ∃ A, A = os.take j := ⟨_, rfl⟩
            obtain ⟨W, hW⟩ : ∃ W, W = (os.drop j).take (m1 + 1) := ⟨_, rfl⟩
            obtain ⟨C, hC⟩ : ∃ C, C = (os.drop j).drop (m1 + 1) := ⟨_, rfl⟩
            have hos : os = A ++ (W ++ C) := by rw [hA, hW, hC, List.take_append_drop, List.take_append_drop]
            have hAl : A.length = j := by rw [hA, List.length_take, HOL.out]; omega
            have hWl : W.length = m1 + 1 := by rw [hW, List.length_take, List.length_drop, HOL.out]; omega
            have hWB : ∀ x ∈ W, x < B32 := fun x hx => hoB x (by rw [hos]; exact List.mem_append_right _ (List.mem_append_left _ hx))
            have hABs : ∀ x ∈ A, x < B32 := fun x hx => hoB x (by rw [hos]; exact List.mem_append_left _ hx)
            have hCBs : ∀ x ∈ C, x < B32 := fun x hx => hoB x (by rw [hos]; exact List.mem_append_right _ (List.mem_append_right _ hx))
            have hCl : C.length + j + m1 = m1 + l := by
              have := HOL.out
              rw [hos, List.length_append, List.length_append, hAl, hWl] at this; omega
            have hv := HV.out
            have hlt4 := HLT4.out
            rw [hos] at hv hlt4 hbx
            have hpre := div_pre B32_two hAl hWl hWB HYLT.out hlt4
            have hwin : Win wr Gx A W C j := ⟨hbx, hAl⟩
            have hyrow := hby.rw hyB
            rw [HYL.out] at hyrow
            have HV2 := hid hv; have HPRE := hid hpre; have HWL := hid hWl; have HCL := hid hCl; have HAL := hid hAl
            clear hv hlt4 hbx hA hW hC hos hWl hCl hAl hpre HV HLT4
            go_wp2_with fail
            rw [show j + m1 + 1 - j = m1 + 1 by omega]
            refine (digit_any Gx j m1 _ Gy 0 m1 A W C Y0 _ (by omega) hm2 hwin HWL.out hWB (by omega) hyrow (Ne.symm hxy) yt HYT.out hytB HPRE.out.1).mono ?_
            rintro e w' ⟨W', rfl, hwin', hWl', hWB', hWv', honly⟩
            have hbq' : Blk w' Gq 68 (ints .u32 qs) := by unfold Blk; rw [honly.2.2.2.2 Gq (Ne.symm hxq)]; exact hbq
            have hby' : Blk w' Gy 68 (ints .u32 Y0) := by unfold Blk; rw [honly.2.2.2.2 Gy (Ne.symm hxy)]; exact hby
            have hbe' : Below w.heap.size w w' := hbe.trans (honly.below hGx)
            have hcell := hbq'.cell j (by rw [ints_length, HQSL.out]; omega)
            have hfree := hbq'.free j
            obtain ⟨q, hq⟩ : ∃ q, q = val W / val Y0 := ⟨_, rfl⟩
            rw [← hq]
            have hYpos : 0 < val Y0 := by
              have := HPRE.out.1
              rcases Nat.eq_zero_or_pos (val Y0) with h5 | h5
              · rw [h5, Nat.mul_zero] at this; omega
              · exact h5
            have hqB : q < 4294967296 := by
              rw [hq, Nat.div_lt_iff_lt_mul hYpos]; exact HPRE.out.1
            have hWq : valB B32 W' + q * val Y0 = valB B32 W := by
              have := Nat.mod_add_div (val W) (val Y0)
              rw [← hWv', ← hq, Nat.mul_comm (val Y0)] at this; exact this
            have hWlt : valB B32 W' < val Y0 := by
              have := Nat.mod_lt (val W) hYpos
              rw [← hWv'] at this; exact this
            have hstep := div_step (n := m1) (C := C) HAL.out HPRE.out.2 hWq (by rw [HQSL.out]; omega) HV2.out hWl' HWL.out
            have HQ := hid hq; have HST2 := hid hstep; have HWL' := hid hWl'; have HWV := hid hWv'; have HWLT := hid hWlt
            clear hq hstep hWl' hWv' hWq hWlt
            have hlen' : (A ++ (W' ++ C)).length = m1 + l + 1 := by
              rw [List.length_append, List.length_append, HAL.out, HWL'.out]
              have := HCL.out; omega
            have HL5 := hid hlen'; clear hlen'
            go_wp2
            go_roundw
            case rel =>
              have hv := hbq'.set j (.int .u32 (q : Int))
              rw [ints_set] at hv
              refine ⟨j, A ++ (W' ++ C), qs.set j q, by omega, by go_num, HL5.out, ?_, by rw [List.length_set]; exact HQSL.out, mem_set_lt hqsB hqB j, hwin'.1.other hxq _, hby'.other hyq _, hv, hbe'.setCell hqbase _, ?_, ?_⟩
              · intro x hx
                rcases List.mem_append.1 hx with hx | hx
                · exact hABs x hx
                · rcases List.mem_append.1 hx with hx | hx
                  · exact hWB' x hx
                  · exact hCBs x hx
              · rw [HST2.out.2]; exact HWLT.out
              · exact HST2.out.1
            case measure => simp [intOf]; try omega

end Go.Proofs.Ytkcagkcphobmfaa
