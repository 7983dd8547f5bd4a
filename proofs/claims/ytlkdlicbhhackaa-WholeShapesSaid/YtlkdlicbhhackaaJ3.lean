/-
  WALKS: limb.wide, limb.DivMod, limb.Sum: what they return, as numbers; nothing that was there turns.
-/
import Derived.Test.YtlkdlicbhhackaaJ2
import Derived.Deep.RegionWith
import Derived.Test.YtlkdlicbhhackaaJ1
import Derived.Lib.AppendZeros
import Derived.Lib.AppendZerosOnto
set_option linter.unusedVariables false
set_option linter.unusedSimpArgs false
namespace Go.Proofs.Ytlkdlicbhhackaa
open Go.RowKit

theorem clampN_nat (s : Nat) (h : s ≤ 65536) : clampN (s : Int) = s := by unfold clampN; omega

/-- A row moved up, in l limbs. -/
theorem wide_any (ao : Option Addr) (n c : Nat) (xs : List Nat) (s l : Nat) (w : World) (hn : n ≤ 1073741824) (hs : s ≤ 65536) (hl : l ≤ 2147483648) (hr : Rw .u32 B32 w ao n c xs) (hfit : (limbs (val xs * 2 ^ s)).length ≤ l) :
    Calls Try.prog 99 #[.slice ao n c, .int .i64 (s : Int), .int .i64 (l : Int)] w fun e w' => ∃ (G : Nat) (os : List Nat), e = .returned (.slice (some ⟨G, 0, none⟩) l l) ∧ w.heap.size ≤ G ∧ Blk w' G 55 (ints .u32 os) ∧
      os.length = l ∧ (∀ x ∈ os, x < B32) ∧ val os = val xs * 2 ^ s ∧ Below w.heap.size w w' := by
  go_enter Try.func99, Try.ntmps99
  go_wp2_with (at_make; refine Hid.out ?_)
  refine hid ?_
  refine wpList_mk _ rfl _ _ 34 rfl 55 (.int .u32 0) 4 Try.underlying34 Try.infoU32 rfl .i64 .i64 _ _ l rfl rfl (by omega) (by omega) (by omega) (by unfold maxLen; omega) fun w2 hblk hbelow hlt => ?_
  obtain ⟨G, hG⟩ : ∃ G, G = w.heap.size := ⟨_, rfl⟩
  rw [← hG] at hblk hlt hbelow ⊢
  have HG := hid hG; clear hG
  rw [← ints_replicate] at hblk
  have hr2 := hr.ext (by rw [← HG.out]; exact hbelow)
  go_wp2_with fail
  refine (shl_any ao n c xs (s : Int) _ hn hr2).mono ?_
  rintro e w3 ⟨ro, k, c', rfl, hres, hown, hb3⟩
  rw [clampN_nat s hs] at hres
  have hblk3 := hblk.ext hb3
  have hlen := hres.len
  have HFIT := hid hfit; clear hfit
  go_wp2_with (with_reducible refine Hid.out (p := wpList _ _ _ ({ dst := some 14, op := _, type := _, pos := _, after := _, guard := _ } :: _) _ _) ?_)
  refine hid ?_
  refine wpList_cp rfl _ _ 34 34 rfl 55 Try.underlying34 Try.sizeU32 G 0 l l ro k c' rfl rfl _ 55 hblk3 (ints .u32 (limbs (val xs * 2 ^ s))) ?_ hres.cells ?_ (ints_one _ _) G (Nat.le_refl _) fun w4 hblk4 hb4 => ?_
  · rw [ints_length, hlen]; exact (Nat.min_eq_left (by rw [← hlen]; exact HFIT.out)).symm
  · rw [ints_length, ints_length]; simp; exact HFIT.out
  have hsp : splice (ints .u32 (List.replicate l 0)) 0 (ints .u32 (limbs (val xs * 2 ^ s))) = ints .u32 (limbs (val xs * 2 ^ s) ++ List.replicate (l - k) 0) := by
    simp [splice, ints, hlen]
  rw [hsp] at hblk4
  go_wp2
  go_ret
  refine ⟨G, limbs (val xs * 2 ^ s) ++ List.replicate (l - k) 0, rfl, by rw [HG.out]; exact Nat.le_refl _, hblk4, ?_, ?_, ?_, ?_⟩
  · have := HFIT.out
    rw [List.length_append, List.length_replicate, hlen]
    rw [hlen] at this; omega
  · intro x hx
    rcases List.mem_append.1 hx with hx | hx
    · exact limbs_lt _ x hx
    · have := (List.mem_replicate.1 hx).2; subst this; decide
  · unfold val
    rw [valB_append_zeros]
    exact val_limbs _
  · rw [← HG.out]
    exact (hbelow.trans (hb3.mono (by omega))).trans hb4

theorem val_one (x : Nat) : val [x] = x := by simp [val, valB]

/-- The error of a division: 2 by 0. -/
def divErr (v : Nat) : Int := if v = 0 then 2 else 0
/-- The remainder of a division; by 0 there is none. -/
def modZ (u v : Nat) : Nat := if v = 0 then 0 else u % v

theorem divErr_zero : divErr 0 = 2 := rfl
theorem divErr_pos {v : Nat} (h : v ≠ 0) : divErr v = 0 := if_neg h
theorem modZ_zero (u : Nat) : modZ u 0 = 0 := rfl
theorem modZ_pos (u : Nat) {v : Nat} (h : v ≠ 0) : modZ u v = u % v := if_neg h

set_option maxHeartbeats 2000000 in
/-- DivMod: quotient and remainder; by 0 there is none. -/
theorem divmod_any (ao bo : Option Addr) (n c m d : Nat) (xs ys : List Nat) (w : World) (hn : n ≤ 1073741823) (hm : m ≤ 1073741823) (hr : Rw .u32 B32 w ao n c xs) (hs : Rw .u32 B32 w bo m d ys) :
    Calls Try.prog 86 #[.slice ao n c, .slice bo m d] w fun e w' => ∃ qo qn qc ro rn rc, e = .returned (.tuple #[.slice qo qn qc, .slice ro rn rc, .int .i64 (divErr (val ys))]) ∧
      Rw .u32 B32 w' qo qn qc (limbs (val xs / val ys)) ∧ Own w.heap.size w' qo qc ∧ Rw .u32 B32 w' ro rn rc (limbs (modZ (val xs) (val ys))) ∧ Own w.heap.size w' ro rc ∧ Below w.heap.size w w' := by
  go_enter Try.func86, Try.ntmps86
  go_wp2_with fail
  refine (cut_any ao n c xs _ (by omega) hr).mono ?_
  rintro e w' ⟨n1, rfl, hn1, hp, rfl⟩
  go_wp2_with fail
  refine (cut_any bo m d ys _ (by omega) hs).mono ?_
  rintro e w' ⟨m1, rfl, hm1, hq, rfl⟩
  clear hr hs
  have hpl := hp.len
  have hql := hq.len
  by_cases h0 : m1 = 0
  · subst h0
    have hy0 : val ys = 0 := limbs_eq_nil.1 (List.eq_nil_of_length_eq_zero hql)
    have HY := hid hy0; clear hy0 hpl hql
    go_wp2
    go_ret3
    refine ⟨_, _, _, _, _, _, by rw [HY.out]; rfl, ?_, Own.nil _ _ _, ?_, Own.nil _ _ _, Below.refl _ _⟩
    · rw [HY.out, Nat.div_zero]; exact Rw.nil _ _ _
    · rw [HY.out]; exact Rw.nil _ _ _
  · have hy0 : val ys ≠ 0 := fun h => h0 (by rw [← hql, h]; rfl)
    have HY := hid hy0; clear hy0
    by_cases hlt : n1 < m1
    · have hlt2 : val xs < val ys := limbs_shorter (by rw [hpl, hql]; exact hlt)
      have HLT := hid hlt2; clear hlt2 hpl hql
      have hm0 : ((m1 : Int) == 0) = false := by rw [beq_eq_false_iff_ne]; omega
      go_wp2_with fail
      refine (norm_any _ _ _ _ _ (by omega) hp).mono ?_
      rintro e w1 ⟨ro, k, c', rfl, hk, hres, hown, hb⟩
      rw [val_limbs] at hres
      go_wp2
      go_ret3
      refine ⟨_, _, _, _, _, _, by rw [divErr_pos HY.out]; rfl, ?_, Own.nil _ _ _, ?_, hown, hb⟩
      · rw [Nat.div_eq_of_lt HLT.out]; exact Rw.nil _ _ _
      · rw [modZ_pos _ HY.out, Nat.mod_eq_of_lt HLT.out]; exact hres
    · by_cases h1 : m1 = 1
      · subst h1
        obtain ⟨b1, off1, v, rfl, hv, hvB, hcv⟩ := hq.at (show 0 < 1 by omega)
        have hvB' : v < 4294967296 := hvB
        rw [Nat.add_zero] at hcv
        have hvy : val ys = v := by
          have h2 : limbs (val ys) = [v] := by
            match hL : limbs (val ys), hql with
            | [a], _ => rw [hL] at hv; simp at hv; rw [hv]
          have h3 := val_limbs (val ys)
          rw [h2, val_one] at h3; exact h3.symm
        have hv0 : 0 < v := by have := HY.out; omega
        have HV := hid hvy; clear hvy hv hvB hpl hql
        go_wp2_with fail
        refine (one_any _ _ _ _ v _ (by omega) hv0 hvB' hp).mono ?_
        rintro e w1 ⟨ro, k, c', rfl, hres, hown, hb⟩
        rw [val_limbs] at hres ⊢
        have hrB : val xs % v < 4294967296 := Nat.lt_trans (Nat.mod_lt _ hv0) hvB'
        obtain ⟨r, hr⟩ : ∃ r, r = val xs % v := ⟨_, rfl⟩
        rw [← hr] at hrB ⊢
        have HR := hid hr; clear hr
        go_wp2_with fail
        have hblk : Blk (w1.alloc (.cells #[.int .u32 (r : Int)] 55)) w1.heap.size 55 (ints .u32 [r]) := Blk.new w1 55 (ints .u32 [r])
        have hb2 : Below w1.heap.size w1 (w1.alloc (.cells #[.int .u32 (r : Int)] 55)) := (Below.refl _ _).alloc (Nat.le_refl _) _
        have hrow := hblk.rw (B := B32) (by intro x hx; rw [List.mem_singleton.1 hx]; exact hrB)
        refine (cut_any _ 1 1 [r] _ (by omega) hrow).mono ?_
        rintro e w' ⟨k2, rfl, hk2, hres2, rfl⟩
        have hown2 := hblk.own (base := w.heap.size) hb.size (n := 1) (Nat.le_refl _)
        rw [val_one] at hres2
        go_wp2
        go_ret3
        exact ⟨_, _, _, _, _, _, by rw [divErr_pos HY.out]; rfl, by rw [HV.out]; exact hres.ext hb2, hown.ext hb2, by rw [modZ_pos _ HY.out, HV.out, ← HR.out]; exact hres2, hown2, ext_trans hb hb2⟩
      · have hm2 : 2 ≤ m1 := by omega
        have hm0 : ((m1 : Int) == 0) = false := by rw [beq_eq_false_iff_ne]; omega
        have hm1' : ((m1 : Int) == 1) = false := by rw [beq_eq_false_iff_ne]; omega
        obtain ⟨b1, off1, v, rfl, hv, hvB, hcv⟩ := hq.at (show m1 - 1 < m1 by omega)
        have hvB' : v < 4294967296 := hvB
        have hv0 : v ≠ 0 := by
          rintro rfl
          have h1 := (digs_nrm B32_two (val ys)).2
          rw [List.getLast?_eq_getElem?] at h1
          change (limbs (val ys))[(limbs (val ys)).length - 1]? ≠ some 0 at h1
          rw [hql] at h1
          exact h1 hv
        have hnb := nbits_le_of_lt (n := v) (k := 32) hvB'
        have hnb1 := nbits_pos hv0
        have hnb2 := nbits_lt v
        have hnb3 := nbits_le hv0
        obtain ⟨s, hs⟩ : ∃ s, s = 32 - nbits v := ⟨_, rfl⟩
        have hsB : s ≤ 31 := by omega
        have hS1 : (v + 1) * 2 ^ s ≤ B32 := by
          have h3 := Nat.mul_le_mul_right (2 ^ s) (show v + 1 ≤ 2 ^ nbits v from hnb2)
          rw [← Nat.pow_add, show nbits v + s = 32 by omega] at h3
          exact h3
        have hS2 : B32 ≤ 2 * (v * 2 ^ s) := by
          have h3 := Nat.mul_le_mul_right (2 ^ s) hnb3
          rw [← Nat.pow_add, show nbits v - 1 + s = 31 by omega] at h3
          unfold B32; omega
        have hSpos := Nat.two_pow_pos s
        have hVdec : val ys = v * B32 ^ (m1 - 1) + val ((limbs (val ys)).take (m1 - 1)) := by
          have h3 := valB_take_some B32 hv
          rw [show m1 - 1 + 1 = m1 by omega, valB_take_all _ hql] at h3
          change val (limbs (val ys)) = _ at h3
          rw [val_limbs] at h3
          rw [Nat.mul_comm, Nat.add_comm]; exact h3
        have hVlow := take_lt (B := B32) (k := m1 - 1) (limbs_lt (val ys)) (by rw [hql]; omega)
        obtain ⟨hs1, hs2, hs3⟩ := scale_facts hVdec hVlow hS1 hS2 hSpos
        have hU1 : val xs < B32 ^ n1 := by have h3 := val_lt (limbs_lt (val xs)); rwa [val_limbs, hpl] at h3
        have hfita : (limbs (val (limbs (val xs)) * 2 ^ s)).length ≤ n1 + 1 := by
          rw [val_limbs]
          refine limbs_le ?_
          rw [Nat.pow_succ]
          have h3 : 2 ^ s ≤ B32 := by
            have := Nat.mul_le_mul_right (2 ^ s) (show 1 ≤ v + 1 by omega)
            omega
          exact Nat.lt_of_lt_of_le (Nat.mul_lt_mul_of_pos_right hU1 hSpos) (Nat.mul_le_mul_left _ h3)
        have hfitb : (limbs (val (limbs (val ys)) * 2 ^ s)).length ≤ m1 := by
          rw [val_limbs]
          refine limbs_le ?_
          rw [show m1 - 1 + 1 = m1 by omega] at hs1; exact hs1
        have HS := hid hs; have HPL := hid hpl; have HQL := hid hql; have HFA := hid hfita; have HFB := hid hfitb; have HS1 := hid hs1; have HS2 := hid hs2; have HS3 := hid hs3; have HU1 := hid hU1; have HSP := hid hSpos
        clear hs hv hpl hql hvB hVdec hVlow hfita hfitb hs1 hs2 hs3 hU1 hSpos hS1 hS2 hnb hnb1 hnb2 hnb3
        go_wp2_with fail
        refine (lz32_any v _ hvB').mono ?_
        rintro e w' ⟨rfl, rfl⟩
        rw [← HS.out]
        go_wp2_with fail
        refine (wide_any ao n1 c _ s (n1 + 1) _ (by omega) (by omega) (by omega) hp HFA.out).mono ?_
        rintro e w1 ⟨Gx, X0, rfl, hGx, hbx, hxl, hxB, hxv, hb1⟩
        rw [val_limbs] at hxv
        have HXL := hid hxl; have HXV := hid hxv; clear hxl hxv
        have hbxlt := hbx.lt
        have hq1 := hq.ext hb1
        go_wp2_with fail
        refine (wide_any _ m1 d _ s m1 _ (by omega) (by omega) (by omega) hq1 HFB.out).mono ?_
        rintro e w2 ⟨Gy, Y0, rfl, hGy, hby, hyl, hyB, hyv, hb2⟩
        rw [val_limbs] at hyv
        have HYL := hid hyl; have HYV := hid hyv; clear hyl hyv
        have hbx2 := hbx.ext hb2
        have hb12 : Below w.heap.size w w2 := ext_trans hb1 hb2
        have hbylt := hby.lt
        obtain ⟨l, hl⟩ : ∃ l, n1 = m1 + l := ⟨n1 - m1, by omega⟩
        subst hl
        go_wp2_with (at_make; refine Hid.out ?_)
        refine hid ?_
        refine wpList_mk _ rfl _ _ 34 rfl 55 (.int .u32 0) 4 Try.underlying34 Try.infoU32 rfl .i64 .i64 _ _ (l + 1) rfl rfl (by omega) (by omega) (by omega) (by unfold maxLen; omega) fun w3 hblk hbelow hlt3 => ?_
        obtain ⟨Gq, hGq⟩ : ∃ G, G = w2.heap.size := ⟨_, rfl⟩
        rw [← hGq] at hblk hlt3 hbelow ⊢
        rw [← ints_replicate] at hblk
        have hbx3 := hbx2.ext (by rw [← hGq]; exact hbelow)
        have hby3 := hby.ext (by rw [← hGq]; exact hbelow)
        have hb13 : Below w.heap.size w w3 := ext_trans hb12 (by rw [← hGq]; exact hbelow)
        have HGQ := hid hGq
        have hxy : Gx ≠ Gy := by omega
        have hxq : Gx ≠ Gq := by omega
        have hyq : Gy ≠ Gq := by omega
        have hqbase : w.heap.size ≤ Gq := by rw [hGq]; exact hb12.size
        clear hGq hbx hbx2 hby hp hq hq1
        have hstart : valB B32 (X0.drop (l + 1)) < val Y0 := by
          rw [HYV.out]
          have h3 := valB_drop B32 X0 (l + 1) (by rw [HXL.out]; omega)
          have h4 := HU1.out
          rw [show m1 + l = (l + 1) + (m1 - 1) by omega] at h4
          exact start_lt (B := B32) (S := 2 ^ s) h4 h3 (by have := HXV.out; unfold val at *; exact this) HS3.out (by decide) HSP.out
        obtain ⟨yt, hyt⟩ : ∃ yt, Y0[m1 - 1]? = some yt := ⟨_, List.getElem?_eq_getElem (by rw [HYL.out]; omega)⟩
        have hytB : 2147483648 ≤ yt := by
          have h3 := top_digit (B := B32) (k := m1 - 1) (V := val ys * 2 ^ s) hyB (by rw [HYL.out]; omega) hyt HYV.out HS2.out
          unfold B32 at h3; omega
        have hYlt : val Y0 < B32 ^ m1 := by
          have h3 := HS1.out
          rw [show m1 - 1 + 1 = m1 by omega] at h3
          rw [HYV.out]; exact h3
        have HST := hid hstart; have HYT := hid hyt; have HYLT := hid hYlt
        clear hstart hyt hYlt
        go_wp2_with fail
        go_loopw [13] (fun s13 wr => ∃ (k : Nat) (os qs : List Nat), k ≤ l + 1 ∧ s13 = .int .i64 ((k : Int) - 1) ∧ os.length = m1 + l + 1 ∧ (∀ x ∈ os, x < B32) ∧ qs.length = l + 1 ∧ (∀ x ∈ qs, x < B32) ∧ Blk wr Gx 55 (ints .u32 os) ∧
            Blk wr Gy 55 (ints .u32 Y0) ∧ Blk wr Gq 55 (ints .u32 qs) ∧ Below w.heap.size w wr ∧ valB B32 (os.drop k) < val Y0 ∧ valB B32 os + B32 ^ k * (valB B32 (qs.drop k) * val Y0) = val X0) (fun s13 _ => (intOf s13 + 1).toNat)
        case atStart => exact ⟨l + 1, X0, List.replicate (l + 1) 0, Nat.le_refl _, by go_num, HXL.out, hxB, by simp, (fun o ho => by have := (List.mem_replicate.1 ho).2; subst this; decide), hbx3, hby3, hblk, hb13, HST.out, by rw [List.drop_of_length_le (by simp)]; simp [valB, val]⟩
        case round =>
          obtain ⟨k, os, qs, hk, rfl, hol, hoB, hqsl, hqsB, hbx, hby, hbq, hbe, hlt4, hv⟩ := hrel
          have HOL := hid hol; have HQSL := hid hqsl; have HLT4 := hid hlt4; have HV := hid hv
          clear hol hqsl hlt4 hv hblk hbx3 hby3 hb13 hbelow
          by_cases hk0 : k = 0
          · subst hk0
            have hv := HV.out
            have hlt4 := HLT4.out
            rw [List.drop_zero] at hv hlt4
            rw [Nat.pow_zero, Nat.one_mul, HXV.out, HYV.out] at hv
            rw [HYV.out] at hlt4
            obtain ⟨hdiv, hmod⟩ := unscale HSP.out hv hlt4
            have hqrow := hbq.rw hqsB
            rw [HQSL.out] at hqrow
            have hxrow := hbx.rw hoB
            rw [HOL.out] at hxrow
            have hxrow2 := hxrow.take (m := m1) (by omega)
            have hxval : val (os.take m1) = val os := by
              have h3 := valB_drop B32 os m1 (by rw [HOL.out]; omega)
              have h4 := HYLT.out
              rw [HYV.out] at h4
              have h5 : valB B32 (os.drop m1) = 0 := by
                rcases Nat.eq_zero_or_pos (valB B32 (os.drop m1)) with h5 | h5
                · exact h5
                · have := Nat.mul_le_mul_left (B32 ^ m1) h5
                  omega
              rw [h5] at h3
              exact h3.symm
            have hownq := hbq.own (base := w.heap.size) hqbase (n := l + 1) (by rw [ints_length, HQSL.out]; exact Nat.le_refl _)
            have hdiv' : val xs / val ys = val qs := hdiv
            have hmod' : val xs % val ys = val os / 2 ^ s := hmod
            have HD := hid hdiv'; have HM := hid hmod'; have HXVL := hid hxval
            clear hv hlt4 hdiv hmod hdiv' hmod' hxval HV HLT4
            have hqd : Rw .u32 B32 wr.drew (some ⟨Gq, 0, none⟩) (l + 1) (l + 1) qs := hqrow
            have hxd : Rw .u32 B32 wr.drew (some ⟨Gx, 0, none⟩) m1 (m1 + l + 1) (os.take m1) := hxrow2
            go_wp2_with fail
            go_region_with (first | (go_at_call 92; refine (cut_any _ _ _ _ _ (by omega) hqd).mono ?_; rintro e w' ⟨k2, rfl, hk2, hres2, rfl⟩) | (go_at_call 101; refine (shr_any _ _ _ _ (s : Int) _ (by omega) hxd).mono ?_; rintro e w' ⟨ro, k3, c3, rfl, hres3, hown3, hb3⟩))
            all_goals
              go_wp2
              go_ret3
              rw [clampN_nat s (by omega), HXVL.out, ← HM.out] at hres3
              have hres4 : Rw .u32 B32 wr.drew (some ⟨Gq, 0, none⟩) k2 (l + 1) (limbs (val xs / val ys)) := by rw [HD.out]; exact hres2
              have hown4 : Own w.heap.size wr.drew (some ⟨Gq, 0, none⟩) (l + 1) := hownq
              have hbd : Below w.heap.size w wr.drew := hbe.drew
              exact ⟨_, _, _, _, _, _, by rw [divErr_pos HY.out]; rfl, hres4.ext hb3, hown4.ext hb3, by rw [modZ_pos _ HY.out]; exact hres3, hown3.mono hbd.size, ext_trans hbd hb3⟩
          · obtain ⟨j, rfl⟩ : ∃ j, k = j + 1 := ⟨k - 1, by omega⟩
            obtain ⟨A, hA⟩ : ∃ A, A = os.take j := ⟨_, rfl⟩
            obtain ⟨W, hW⟩ : ∃ W, W = (os.drop j).take (m1 + 1) := ⟨_, rfl⟩
            obtain ⟨C, hC⟩ : ∃ C, C = (os.drop j).drop (m1 + 1) := ⟨_, rfl⟩
            have hos : os = A ++ (W ++ C) := by rw [hA, hW, hC, List.take_append_drop, List.take_append_drop]
            have hAl : A.length = j := by rw [hA, List.length_take, HOL.out]; omega
            have hWl : W.length = m1 + 1 := by rw [hW, List.length_take, List.length_drop, HOL.out]; omega
            have hWB : ∀ x ∈ W, x < B32 := fun x hx => hoB x (by rw [hos]; exact List.mem_append_right _ (List.mem_append_left _ hx))
            have hABs : ∀ x ∈ A, x < B32 := fun x hx => hoB x (by rw [hos]; exact List.mem_append_left _ hx)
            have hCBs : ∀ x ∈ C, x < B32 := fun x hx => hoB x (by rw [hos]; exact List.mem_append_right _ (List.mem_append_right _ hx))
            have hCl : C.length + j + m1 = m1 + l := by
              have := HOL.out
              rw [hos, List.length_append, List.length_append, hAl, hWl] at this; omega
            have hv := HV.out
            have hlt4 := HLT4.out
            rw [hos] at hv hlt4 hbx
            have hpre := div_pre B32_two hAl hWl hWB HYLT.out hlt4
            have hwin : Win wr Gx A W C j := ⟨hbx, hAl⟩
            have hyrow := hby.rw hyB
            rw [HYL.out] at hyrow
            have HV2 := hid hv; have HPRE := hid hpre; have HWL := hid hWl; have HCL := hid hCl; have HAL := hid hAl
            clear hv hlt4 hbx hA hW hC hos hWl hCl hAl hpre HV HLT4
            go_wp2_with fail
            rw [show j + m1 + 1 - j = m1 + 1 by omega]
            refine (digit_any Gx j m1 _ Gy 0 m1 A W C Y0 _ (by omega) hm2 hwin HWL.out hWB (by omega) hyrow (Ne.symm hxy) yt HYT.out hytB HPRE.out.1).mono ?_
            rintro e w' ⟨W', rfl, hwin', hWl', hWB', hWv', honly⟩
            have hbq' : Blk w' Gq 55 (ints .u32 qs) := by unfold Blk; rw [honly.2.2.2.2 Gq (Ne.symm hxq)]; exact hbq
            have hby' : Blk w' Gy 55 (ints .u32 Y0) := by unfold Blk; rw [honly.2.2.2.2 Gy (Ne.symm hxy)]; exact hby
            have hbe' : Below w.heap.size w w' := hbe.trans (honly.below hGx)
            have hcell := hbq'.cell j (by rw [ints_length, HQSL.out]; omega)
            have hfree := hbq'.free j
            obtain ⟨q, hq⟩ : ∃ q, q = val W / val Y0 := ⟨_, rfl⟩
            rw [← hq]
            have hYpos : 0 < val Y0 := by
              have := HPRE.out.1
              rcases Nat.eq_zero_or_pos (val Y0) with h5 | h5
              · rw [h5, Nat.mul_zero] at this; omega
              · exact h5
            have hqB : q < 4294967296 := by
              rw [hq, Nat.div_lt_iff_lt_mul hYpos]; exact HPRE.out.1
            have hWq : valB B32 W' + q * val Y0 = valB B32 W := by
              have := Nat.mod_add_div (val W) (val Y0)
              rw [← hWv', ← hq, Nat.mul_comm (val Y0)] at this; exact this
            have hWlt : valB B32 W' < val Y0 := by
              have := Nat.mod_lt (val W) hYpos
              rw [← hWv'] at this; exact this
            have hstep := div_step (n := m1) (C := C) HAL.out HPRE.out.2 hWq (by rw [HQSL.out]; omega) HV2.out hWl' HWL.out
            have HQ := hid hq; have HST2 := hid hstep; have HWL' := hid hWl'; have HWV := hid hWv'; have HWLT := hid hWlt
            clear hq hstep hWl' hWv' hWq hWlt
            have hlen' : (A ++ (W' ++ C)).length = m1 + l + 1 := by
              rw [List.length_append, List.length_append, HAL.out, HWL'.out]
              have := HCL.out; omega
            have HL5 := hid hlen'; clear hlen'
            go_wp2
            go_roundw
            case rel =>
              have hv := hbq'.set j (.int .u32 (q : Int))
              rw [ints_set] at hv
              refine ⟨j, A ++ (W' ++ C), qs.set j q, by omega, by go_num, HL5.out, ?_, by rw [List.length_set]; exact HQSL.out, mem_set_lt hqsB hqB j, hwin'.1.other hxq _, hby'.other hyq _, hv, hbe'.setCell hqbase _, ?_, ?_⟩
              · intro x hx
                rcases List.mem_append.1 hx with hx | hx
                · exact hABs x hx
                · rcases List.mem_append.1 hx with hx | hx
                  · exact hWB' x hx
                  · exact hCBs x hx
              · rw [HST2.out.2]; exact HWLT.out
              · exact HST2.out.1
            case measure => simp [intOf]; try omega

end Go.Proofs.Ytlkdlicbhhackaa

/-
  CONTRACTS in the machine's words: rows of limbs and of digits.
-/
set_option linter.unusedVariables false
set_option linter.unusedSimpArgs false
namespace Go.Proofs.Ytlkdlicbhhackaa
open Go.RowKit

theorem ln_R {B : BS} {w w' : World} {K m : Nat} {a : Option Addr} {n c : Nat} (hB : ∀ b, B b → b < w.heap.size) (h : Rw .u32 B32 w' a n c (limbs m)) (hm : m < B32 ^ K) (ho : Own w.heap.size w' a c) : LfR B w' (ln K m) (.slice a n c) := lr_R h (limbs_K h hm) (own_out hB ho h)
theorem dn_R {B : BS} {w w' : World} {K m : Nat} {a : Option Addr} {n c : Nat} (hB : ∀ b, B b → b < w.heap.size) (h : Rw .i64 B4 w' a n c (digs4 m)) (hm : m < B4 ^ K) (ho : Own w.heap.size w' a c) : LfR B w' (dn K m) (.slice a n c) := dr_R h (digs_K h hm) (own_out hB ho h)
theorem pow_le {B K M : Nat} (hB : 2 ≤ B) (h : K ≤ M) {m : Nat} (hm : m < B ^ K) : m < B ^ M := Nat.lt_of_lt_of_le hm (Nat.pow_le_pow_right (by omega) h)

set_option maxHeartbeats 1000000 in
theorem aLNorm {l : Lf} {K m : Nat} (h : IsL l K m) (hK : K ≤ 1073741824 := by decide) : ACall Try.prog 81 [.one l] (.d (.one (ln K m))) := by
  obtain ⟨xs, hl1, rfl⟩ := h
  refine ⟨enters Try.func81 rfl rfl, fun B w vs hB hvs => ?_⟩
  match vs, hvs with
  | [v], ⟨h1, _⟩ =>
    obtain ⟨a, n, c, rfl, hr, hn, hb⟩ := lr_of (hl1 _ _ _ h1)
    refine (norm_any a n c xs w (by omega) hr).mono ?_
    rintro e w' ⟨ro, k, c', rfl, hk, h3, ho, hbb⟩
    exact ⟨_, rfl, hbb, ln_R hB h3 (lr_lt hr hn) ho⟩

set_option maxHeartbeats 1000000 in
theorem aLAdd {a b : Lf} {K L M m n : Nat} (h : IsL a K m) (k : IsL b L n) (hM : max K L + 1 ≤ M := by decide) (hK : K ≤ 1073741824 := by decide) (hL : L ≤ 1073741824 := by decide) : ACall Try.prog 72 [.one a, .one b] (.d (.one (ln M (m + n)))) := by
  obtain ⟨xs, hl1, rfl⟩ := h
  obtain ⟨ys, hl2, rfl⟩ := k
  refine ⟨enters Try.func72 rfl rfl, fun B w vs hB hvs => ?_⟩
  match vs, hvs with
  | [v, u], ⟨h1, h2, _⟩ =>
    obtain ⟨a, n, c, rfl, hr, hn, hb⟩ := lr_of (hl1 _ _ _ h1)
    obtain ⟨a', n', c', rfl, hr', hn', hb'⟩ := lr_of (hl2 _ _ _ h2)
    refine (add_any a a' n c n' c' xs ys w (by omega) (by omega) hr hr').mono ?_
    rintro e w' ⟨ro, k, cc, rfl, h3, ho, hbb⟩
    exact ⟨_, rfl, hbb, ln_R hB h3 (pow_le (by decide) hM (max_add_lt (by decide) (lr_lt hr hn) (lr_lt hr' hn'))) ho⟩

set_option maxHeartbeats 1000000 in
theorem aLSub {a b : Lf} {K L m n : Nat} (h : IsL a K m) (k : IsL b L n) (hK : K ≤ 1073741824 := by decide) (hL : L ≤ 1073741824 := by decide) : ACall Try.prog 73 [.one a, .one b] (.tup [.one (ln K (m - n)), .one (.v (.bool (decide (n ≤ m))))]) := by
  obtain ⟨xs, hl1, rfl⟩ := h
  obtain ⟨ys, hl2, rfl⟩ := k
  refine ⟨enters Try.func73 rfl rfl, fun B w vs hB hvs => ?_⟩
  match vs, hvs with
  | [v, u], ⟨h1, h2, _⟩ =>
    obtain ⟨a, n, c, rfl, hr, hn, hb⟩ := lr_of (hl1 _ _ _ h1)
    obtain ⟨a', n', c', rfl, hr', hn', hb'⟩ := lr_of (hl2 _ _ _ h2)
    refine (sub_any a a' n c n' c' xs ys w (by omega) (by omega) hr hr').mono ?_
    rintro e w' ⟨ro, k, cc, rfl, h3, ho, hbb⟩
    have hlt := lr_lt hr hn
    exact ⟨_, rfl, hbb, [.slice ro k cc, .bool (decide (val ys ≤ val xs))], rfl, ln_R hB h3 (by omega) ho, ⟨rfl, rfl⟩, trivial⟩

set_option maxHeartbeats 1000000 in
theorem aLMul {a b : Lf} {K L M m n : Nat} (h : IsL a K m) (k : IsL b L n) (hM : K + L ≤ M := by decide) (hK : K ≤ 1073741824 := by decide) (hL : L ≤ 1073741824 := by decide) : ACall Try.prog 80 [.one a, .one b] (.d (.one (ln M (m * n)))) := by
  obtain ⟨xs, hl1, rfl⟩ := h
  obtain ⟨ys, hl2, rfl⟩ := k
  refine ⟨enters Try.func80 rfl rfl, fun B w vs hB hvs => ?_⟩
  match vs, hvs with
  | [v, u], ⟨h1, h2, _⟩ =>
    obtain ⟨a, n, c, rfl, hr, hn, hb⟩ := lr_of (hl1 _ _ _ h1)
    obtain ⟨a', n', c', rfl, hr', hn', hb'⟩ := lr_of (hl2 _ _ _ h2)
    refine (mul_any a a' n c n' c' xs ys w (by omega) (by omega) hr hr').mono ?_
    rintro e w' ⟨ro, k, cc, rfl, h3, ho, hbb⟩
    exact ⟨_, rfl, hbb, ln_R hB h3 (pow_le (by decide) hM (mul_lt_pow (lr_lt hr hn) (lr_lt hr' hn'))) ho⟩

set_option maxHeartbeats 1000000 in
theorem aLCmp {a b : Lf} {K L m n : Nat} (h : IsL a K m) (k : IsL b L n) (hK : K ≤ 1073741824 := by decide) (hL : L ≤ 1073741824 := by decide) : ACall Try.prog 83 [.one a, .one b] (.d (.one (.v (.int .i64 (cmpZ m n))))) := by
  obtain ⟨xs, hl1, rfl⟩ := h
  obtain ⟨ys, hl2, rfl⟩ := k
  refine ⟨enters Try.func83 rfl rfl, fun B w vs hB hvs => ?_⟩
  match vs, hvs with
  | [v, u], ⟨h1, h2, _⟩ =>
    obtain ⟨a, n, c, rfl, hr, hn, hb⟩ := lr_of (hl1 _ _ _ h1)
    obtain ⟨a', n', c', rfl, hr', hn', hb'⟩ := lr_of (hl2 _ _ _ h2)
    refine (cmp_any a a' n c n' c' xs ys w (by omega) (by omega) hr hr').mono ?_
    rintro e w' ⟨rfl, hbb⟩
    exact ⟨_, rfl, hbb, rfl, rfl⟩

set_option maxHeartbeats 1000000 in
theorem aLBits {a : Lf} {K m : Nat} (h : IsL a K m) (hK : K ≤ 1073741824 := by decide) : ACall Try.prog 95 [.one a] (.d (.one (.v (.int .i64 ((nbits m : Nat) : Int))))) := by
  obtain ⟨xs, hl1, rfl⟩ := h
  refine ⟨enters Try.func95 rfl rfl, fun B w vs hB hvs => ?_⟩
  match vs, hvs with
  | [v], ⟨h1, _⟩ =>
    obtain ⟨a, n, c, rfl, hr, hn, hb⟩ := lr_of (hl1 _ _ _ h1)
    refine (bits_any a n c xs w (by omega) hr).mono ?_
    rintro e w' ⟨rfl, rfl⟩
    exact ⟨_, rfl, Below.refl _ _, rfl, rfl⟩

set_option maxHeartbeats 1000000 in
theorem aLDiv {a b : Lf} {K L m n : Nat} (h : IsL a K m) (k : IsL b L n) (hK : K ≤ 1073741823 := by decide) (hL : L ≤ 1073741823 := by decide) : ACall Try.prog 86 [.one a, .one b] (.tup [.one (ln K (m / n)), .one (ln L (modZ m n)), .one (.v (.int .i64 (divErr n)))]) := by
  obtain ⟨xs, hl1, rfl⟩ := h
  obtain ⟨ys, hl2, rfl⟩ := k
  refine ⟨enters Try.func86 rfl rfl, fun B w vs hB hvs => ?_⟩
  match vs, hvs with
  | [v, u], ⟨h1, h2, _⟩ =>
    obtain ⟨a, n, c, rfl, hr, hn, hb⟩ := lr_of (hl1 _ _ _ h1)
    obtain ⟨a', n', c', rfl, hr', hn', hb'⟩ := lr_of (hl2 _ _ _ h2)
    refine (divmod_any a a' n c n' c' xs ys w (by omega) (by omega) hr hr').mono ?_
    rintro e w' ⟨qo, qn, qc, ro, rn, rc, rfl, h3, h4, h5, h6, hbb⟩
    have hq : val xs / val ys < B32 ^ K := Nat.lt_of_le_of_lt (Nat.div_le_self _ _) (lr_lt hr hn)
    have hm : modZ (val xs) (val ys) < B32 ^ L := by
      by_cases h0 : val ys = 0
      · rw [h0, modZ_zero]; exact Nat.pow_pos (by decide)
      · rw [modZ_pos _ h0]; exact Nat.lt_trans (Nat.mod_lt _ (by omega)) (lr_lt hr' hn')
    exact ⟨_, rfl, hbb, [.slice qo qn qc, .slice ro rn rc, .int .i64 (divErr (val ys))], rfl, ln_R hB h3 hq h4, ln_R hB h5 hm h6, ⟨rfl, rfl⟩, trivial⟩

set_option maxHeartbeats 1000000 in
theorem aNAdd {a b : Lf} {K L M m n : Nat} (h : IsD a K m) (k : IsD b L n) (hM : max K L + 1 ≤ M := by decide) (hK : K ≤ 1073741824 := by decide) (hL : L ≤ 1073741824 := by decide) : ACall Try.prog 76 [.one a, .one b] (.d (.one (dn M (m + n)))) := by
  refine ⟨enters Try.func76 rfl rfl, fun B w vs hB hvs => ?_⟩
  match vs, hvs with
  | [v, u], ⟨h1, h2, _⟩ =>
    obtain ⟨a, na, c, rfl, hr, hn, hb⟩ := dr_of (h _ _ _ h1)
    obtain ⟨a', n', c', rfl, hr', hn', hb'⟩ := dr_of (k _ _ _ h2)
    refine (addN_own a a' na c n' c' m n w (by omega) (by omega) hr hr').mono ?_
    rintro e w' ⟨ro, k, cc, rfl, h3, ho, hk, hbb⟩
    exact ⟨_, rfl, hbb, dn_R hB h3 (pow_le (by decide) hM (max_add_lt (by decide) (dn_lt hr hn) (dn_lt hr' hn'))) ho⟩

set_option maxHeartbeats 1000000 in
theorem aNMul {a b : Lf} {K L M m n : Nat} (h : IsD a K m) (k : IsD b L n) (hM : K + L ≤ M := by decide) (hK : K ≤ 1073741824 := by decide) (hL : L ≤ 1073741824 := by decide) : ACall Try.prog 79 [.one a, .one b] (.d (.one (dn M (m * n)))) := by
  refine ⟨enters Try.func79 rfl rfl, fun B w vs hB hvs => ?_⟩
  match vs, hvs with
  | [v, u], ⟨h1, h2, _⟩ =>
    obtain ⟨a, na, c, rfl, hr, hn, hb⟩ := dr_of (h _ _ _ h1)
    obtain ⟨a', n', c', rfl, hr', hn', hb'⟩ := dr_of (k _ _ _ h2)
    refine (mulN_own a a' na c n' c' m n w (by omega) (by omega) hr hr').mono ?_
    rintro e w' ⟨ro, k, cc, rfl, h3, hk, ho, hbb⟩
    exact ⟨_, rfl, hbb, dn_R hB h3 (pow_le (by decide) hM (mul_lt_pow (dn_lt hr hn) (dn_lt hr' hn'))) ho⟩

set_option maxHeartbeats 1000000 in
theorem aNSub {a b : Lf} {K L M m n : Nat} (h : IsD a K m) (k : IsD b L n) (hle : n ≤ m) (hM : K ≤ M := by decide) (hK : K ≤ 1073741824 := by decide) (hL : L ≤ 1073741824 := by decide) : ACall Try.prog 78 [.one a, .one b] (.d (.one (dn M (m - n)))) := by
  refine ⟨enters Try.func78 rfl rfl, fun B w vs hB hvs => ?_⟩
  match vs, hvs with
  | [v, u], ⟨h1, h2, _⟩ =>
    obtain ⟨a, na, c, rfl, hr, hn, hb⟩ := dr_of (h _ _ _ h1)
    obtain ⟨a', n', c', rfl, hr', hn', hb'⟩ := dr_of (k _ _ _ h2)
    refine (subN_own a a' na c n' c' m n w (by omega) (by omega) hle hr hr').mono ?_
    rintro e w' ⟨ro, k, cc, rfl, h3, hk, ho, hbb⟩
    exact ⟨_, rfl, hbb, dn_R hB h3 (pow_le (by decide) hM (Nat.lt_of_le_of_lt (Nat.sub_le _ _) (dn_lt hr hn))) ho⟩

set_option maxHeartbeats 1000000 in
theorem aNCmp {a b : Lf} {K L m n : Nat} (h : IsD a K m) (k : IsD b L n) (hK : K ≤ 1073741824 := by decide) (hL : L ≤ 1073741824 := by decide) : ACall Try.prog 77 [.one a, .one b] (.d (.one (.v (.int .i64 (cmpZ m n))))) := by
  refine ⟨enters Try.func77 rfl rfl, fun B w vs hB hvs => ?_⟩
  match vs, hvs with
  | [v, u], ⟨h1, h2, _⟩ =>
    obtain ⟨a, na, c, rfl, hr, hn, hb⟩ := dr_of (h _ _ _ h1)
    obtain ⟨a', n', c', rfl, hr', hn', hb'⟩ := dr_of (k _ _ _ h2)
    refine (cmpN_any a a' na c n' c' m n w (by omega) (by omega) hr hr').mono ?_
    rintro e w' ⟨rfl, hbb⟩
    exact ⟨_, rfl, hbb, rfl, rfl⟩

set_option maxHeartbeats 1000000 in
theorem aNDiv {a b : Lf} {K L m n : Nat} (h : IsD a K m) (k : IsD b L n) (hn0 : 0 < n) (hK : K ≤ 100000000 := by decide) (hL : L ≤ 100000000 := by decide) : ACall Try.prog 108 [.one a, .one b] (.tup [.one (dn K (m / n)), .one (dn L (m % n))]) := by
  refine ⟨enters Try.func108 rfl rfl, fun B w vs hB hvs => ?_⟩
  match vs, hvs with
  | [v, u], ⟨h1, h2, _⟩ =>
    obtain ⟨a, na, c, rfl, hr, hn, hb⟩ := dr_of (h _ _ _ h1)
    obtain ⟨a', n', c', rfl, hr', hn', hb'⟩ := dr_of (k _ _ _ h2)
    refine (divN_own a a' na c n' c' m n w (by omega) (by omega) hn0 hr hr').mono ?_
    rintro e w' ⟨qo, qn, qc, ro, rn, rc, rfl, h3, _, h5, _, h4, h6, hbb⟩
    have hq : m / n < B4 ^ K := Nat.lt_of_le_of_lt (Nat.div_le_self _ _) (dn_lt hr hn)
    have hm : m % n < B4 ^ L := Nat.lt_trans (Nat.mod_lt _ hn0) (dn_lt hr' hn')
    exact ⟨_, rfl, hbb, [.slice qo qn qc, .slice ro rn rc], rfl, dn_R hB h3 hq h4, dn_R hB h5 hm h6, trivial⟩

set_option maxHeartbeats 1000000 in
theorem aNFrom {l : Lf} {K M m : Nat} (h : IsL l K m) (hM : 3 * K ≤ M := by decide) (hK : K ≤ 100000000 := by decide) : ACall Try.prog 91 [.one l] (.d (.one (dn M m))) := by
  obtain ⟨xs, hl1, rfl⟩ := h
  refine ⟨enters Try.func91 rfl rfl, fun B w vs hB hvs => ?_⟩
  match vs, hvs with
  | [v], ⟨h1, _⟩ =>
    obtain ⟨a, n, c, rfl, hr, hn, hb⟩ := lr_of (hl1 _ _ _ h1)
    refine (fromN_own a n c xs w (by omega) hr).mono ?_
    rintro e w' ⟨ro, k, c', rfl, h3, hk, ho, hbb⟩
    exact ⟨_, rfl, hbb, dr_R h3 (by omega) (own_out hB ho h3)⟩

set_option maxHeartbeats 1000000 in
theorem aNTo {a : Lf} {K m : Nat} (h : IsD a K m) (hK : K ≤ 1000000000 := by decide) : ACall Try.prog 93 [.one a] (.d (.one (ln K m))) := by
  refine ⟨enters Try.func93 rfl rfl, fun B w vs hB hvs => ?_⟩
  match vs, hvs with
  | [v], ⟨h1, _⟩ =>
    obtain ⟨a, n, c, rfl, hr, hn, hb⟩ := dr_of (h _ _ _ h1)
    refine (toN_own a n c m w (by omega) hr).mono ?_
    rintro e w' ⟨ro, k, c', rfl, h3, hk, ho, hbb⟩
    exact ⟨_, rfl, hbb, lr_R h3 (by omega) (own_out hB ho h3)⟩

set_option maxHeartbeats 1000000 in
theorem aNPow {n : Nat} (hn : n ≤ 1000000 := by decide) : ACall Try.prog 96 [.one (.v (.int .i64 (n : Int)))] (.d (.one (dn (n + 1) (2 ^ n)))) := by
  refine ⟨enters Try.func96 rfl rfl, fun B w vs hB hvs => ?_⟩
  match vs, hvs with
  | [_], ⟨⟨rfl, _⟩, _⟩ =>
    refine (powN_own n w hn).mono ?_
    rintro e w' ⟨ro, k, c', rfl, h3, hk, ho, hbb⟩
    exact ⟨_, rfl, hbb, dr_R h3 hk (own_out hB ho h3)⟩

set_option maxHeartbeats 1000000 in
theorem aMulAdd {a : Lf} {K M m q c0 : Nat} (h : IsD a K m) (hq : q ≤ 65536) (hc : c0 ≤ 1000000) (hm : m * q + c0 < B4 ^ M) (hK : K ≤ 1073741824 := by decide) : ACall Try.prog 104 [.one a, .one (.v (.int .i64 (q : Int))), .one (.v (.int .i64 (c0 : Int)))] (.d (.one (dn M (m * q + c0)))) := by
  refine ⟨enters Try.func104 rfl rfl, fun B w vs hB hvs => ?_⟩
  match vs, hvs with
  | [v, _, _], ⟨h1, ⟨rfl, _⟩, ⟨rfl, _⟩, _⟩ =>
    obtain ⟨a, n, c, rfl, hr, hn, hb⟩ := dr_of (h _ _ _ h1)
    refine (mulAdd_own a n c q c0 _ w (by omega) hq hc hr).mono ?_
    rintro e w' ⟨ro, k, c', rfl, h3, ho, hbb⟩
    rw [val4_digs4] at h3
    exact ⟨_, rfl, hbb, dn_R hB h3 hm ho⟩

set_option maxHeartbeats 1000000 in
theorem aRow {K k : Nat} {xs : List Nat} (hk : k ≤ 1000000 := by decide) (hK : K ≤ 9223372036854775807 := by decide) : ACall Try.prog 90 [.one (lr K xs), .one (.v (.int .i64 (k : Int)))] (.d (.one (lr k (xs.take k)))) := by
  refine ⟨enters Try.func90 rfl rfl, fun B w vs hB hvs => ?_⟩
  match vs, hvs with
  | [v, _], ⟨h1, ⟨rfl, _⟩, _⟩ =>
    obtain ⟨a, n, c, rfl, hr, hn, hb⟩ := lr_of h1
    refine (row_any a n c k xs w (by omega) hk hr).mono ?_
    rintro e w' ⟨m, rfl, hm1, hm2, h3, rfl⟩
    exact ⟨_, rfl, Below.refl _ _, lr_R h3 hm1 (fun x hx hne => hb x hx (fun e => hne (by rw [e]; simp)))⟩

set_option maxHeartbeats 1000000 in
theorem aCopy {K : Nat} {xs : List Nat} (hK : K ≤ 1073741824 := by decide) : ACall Try.prog 41 [.one (lr K xs)] (.d (.one (lr K xs))) := by
  refine ⟨enters Try.func41 rfl rfl, fun B w vs hB hvs => ?_⟩
  match vs, hvs with
  | [v], ⟨h1, _⟩ =>
    obtain ⟨a, n, c, rfl, hr, hn, hb⟩ := lr_of h1
    refine (copy_any a n c xs w (by omega) hr).mono ?_
    rintro e w' ⟨ro, c', rfl, h3, ho, hbb⟩
    exact ⟨_, rfl, hbb, lr_R h3 hn (own_out hB ho h3)⟩

set_option maxHeartbeats 1000000 in
theorem aSame {K L : Nat} {xs ys : List Nat} (hK : K ≤ 1073741824 := by decide) (hL : L ≤ 1073741824 := by decide) : ACall Try.prog 87 [.one (lr K xs), .one (lr L ys)] (.d (.one (.v (.bool (decide (xs = ys)))))) := by
  refine ⟨enters Try.func87 rfl rfl, fun B w vs hB hvs => ?_⟩
  match vs, hvs with
  | [v, u], ⟨h1, h2, _⟩ =>
    obtain ⟨a, n, c, rfl, hr, hn, hb⟩ := lr_of h1
    obtain ⟨a', n', c', rfl, hr', hn', hb'⟩ := lr_of h2
    refine (same_any a a' n c n' c' xs ys w (by omega) (by omega) hr hr').mono ?_
    rintro e w' ⟨rfl, hbb⟩
    exact ⟨_, rfl, hbb, rfl, rfl⟩

set_option maxHeartbeats 1000000 in
theorem aWithin {v : Int} {n : Nat} (hn : 1 ≤ n := by decide) (hn2 : n ≤ 1000000 := by decide) (h1 : -9223372036854775808 ≤ v) (h2 : v ≤ 9223372036854775807) : ACall Try.prog 42 [.one (.v (.int .i64 v)), .one (.v (.int .i64 (n : Int)))] (.d (.one (.v (.int .i64 (v % (n : Int)))))) := by
  refine ⟨enters Try.func42 rfl rfl, fun B w vs hB hvs => ?_⟩
  match vs, hvs with
  | [_, _], ⟨⟨rfl, _⟩, ⟨rfl, _⟩, _⟩ =>
    refine (within_any v n w hn hn2 h1 h2).mono ?_
    rintro e w' ⟨rfl, rfl⟩
    exact ⟨_, rfl, Below.refl _ _, rfl, rfl⟩

end Go.Proofs.Ytlkdlicbhhackaa

/-
  Lend, Spoil, Intact.
-/
set_option linter.unusedVariables false
set_option linter.unusedSimpArgs false
namespace Go.Proofs.Ytlkdlicbhhackaa
open Go.RowKit

/-- What a lent row has behind it. -/
def lent : List Nat := [1431655765, 1431655765, 1431655765]

theorem lent_lt : ∀ x ∈ lent, x < B32 := by decide

set_option maxHeartbeats 1000000 in
/-- Lend: a row in new memory with room behind it, which has limbs of its own. -/
theorem lend_any (ao : Option Addr) (n c : Nat) (xs : List Nat) (w : World) (hn : n ≤ 1000000) (hr : Rw .u32 B32 w ao n c xs) :
    Calls Try.prog 25 #[.slice ao n c] w fun e w' => ∃ G, e = .returned (.slice (some ⟨G, 0, none⟩) n (n + 3)) ∧ w.heap.size ≤ G ∧ Blk w' G 55 (ints .u32 (xs ++ lent)) ∧ Below w.heap.size w w' := by
  have hlen := hr.len
  have HLEN := hid hlen; clear hlen
  go_enter Try.func25, Try.ntmps25
  go_wp2_with (at_make; refine Hid.out ?_)
  refine hid ?_
  refine wpList_mk2 _ rfl _ _ 34 rfl 55 (.int .u32 0) 4 Try.underlying34 Try.infoU32 rfl .i64 .i64 _ _ n (n + 3) rfl rfl (by omega) (by omega) (by omega) (by omega) (by unfold maxLen; omega) fun w2 hblk hbelow hlt => ?_
  obtain ⟨G, hG⟩ : ∃ G, G = w.heap.size := ⟨_, rfl⟩
  rw [← hG] at hblk hlt hbelow ⊢
  have HG := hid hG; clear hG
  rw [← ints_replicate] at hblk
  have hr2 := hr.ext (by rw [← HG.out]; exact hbelow)
  go_wp2_with (with_reducible refine Hid.out (p := wpList _ _ _ ({ dst := some 14, op := _, type := _, pos := _, after := _, guard := _ } :: _) _ _) ?_)
  refine hid ?_
  refine wpList_cp rfl _ _ 34 34 rfl 55 Try.underlying34 Try.sizeU32 G 0 n (n + 3) ao n c rfl rfl _ 55 hblk (ints .u32 xs) ?_ hr2.cells ?_ (ints_one _ _) G (Nat.le_refl _) fun w3 hblk3 hb3 => ?_
  · rw [ints_length, HLEN.out]; exact (Nat.min_self n).symm
  · rw [ints_length, ints_length, HLEN.out]; simp
  have hsp : splice (ints .u32 (List.replicate (n + 3) 0)) 0 (ints .u32 xs) = ints .u32 (xs ++ List.replicate 3 0) := by
    simp [splice, ints, HLEN.out]
  rw [hsp] at hblk3
  have hb13 := hbelow.trans hb3
  clear hblk hbelow hsp hb3 hr hr2
  go_wp2_with fail
  go_loopw [5] (fun s5 wr => ∃ (k : Nat), k ≤ 3 ∧ s5 = .int .i64 ((n + k : Nat) : Int) ∧ Blk wr G 55 (ints .u32 (xs ++ (lent.take k ++ List.replicate (3 - k) 0))) ∧ Below G w wr) (fun s5 _ => n + 3 - (intOf s5).toNat)
  case atStart => exact ⟨0, by omega, rfl, hblk3, hb13⟩
  case round =>
    obtain ⟨k, hk, rfl, hb, hbe⟩ := hrel
    clear hblk3 hb13
    by_cases hk3 : k < 3
    · have hlen : (ints .u32 (xs ++ (lent.take k ++ List.replicate (3 - k) 0))).length = n + 3 := by
        rw [ints_length, List.length_append, List.length_append, HLEN.out, List.length_take, List.length_replicate]; simp [lent]; omega
      obtain ⟨u, hcell⟩ := hb.ex (n + k) hlen (by omega)
      have hfree := hb.free (n + k)
      have hb0 := hb.lt
      clear hlen
      go_wp2
      go_roundw
      case rel =>
        refine ⟨k + 1, by omega, by go_num, ?_, hbe.setCell (Nat.le_refl _) _⟩
        have hv := hb.set (n + k) (.int .u32 ((1431655765 : Nat) : Int))
        rw [ints_set, List.set_append_right _ _ (by rw [HLEN.out]; omega), HLEN.out, Nat.add_sub_cancel_left] at hv
        have e : (lent.take k ++ List.replicate (3 - k) 0).set k 1431655765 = lent.take (k + 1) ++ List.replicate (3 - (k + 1)) 0 := by
          have : k = 0 ∨ k = 1 ∨ k = 2 := by omega
          rcases this with rfl | rfl | rfl <;> rfl
        rw [e] at hv
        exact hv
      case measure => simp [intOf]; omega
    · obtain rfl : k = 3 := by omega
      go_wp2
      go_ret
      exact ⟨G, rfl, by rw [HG.out]; exact Nat.le_refl _, hb, by rw [← HG.out]; exact hbe⟩

set_option maxHeartbeats 1000000 in
/-- Spoil: writes into the call's own memory alone, and below T, where the row lies. -/
theorem spoil_any (ao : Option Addr) (n c base : Nat) (w : World) (hn : n ≤ c) (ho : Own base w ao c) (T : Nat) (hT : ∀ x, c ≠ 0 → ao = some x → x.block < T) :
    Calls Try.prog 20 #[.slice ao n c] w fun e w' => e = .returned (.tuple #[]) ∧ Below base w w' ∧ (∀ B ao' c', Own B w ao' c' → Own B w' ao' c') ∧ ∀ k, T ≤ k → w'.heap[k]? = w.heap[k]? := by
  have hc := ho.le
  have Ho := hid ho; clear ho
  go_enter Try.func20, Try.ntmps20
  go_wp2_with fail
  go_loopw [10] (fun s10 wr => ∃ k : Nat, k ≤ c ∧ s10 = .int .i64 k ∧ Own base wr ao c ∧ Below base w wr ∧ (∀ B ao' c', Own B w ao' c' → Own B wr ao' c') ∧ ∀ k, T ≤ k → wr.heap[k]? = w.heap[k]?) (fun s10 _ => c - (intOf s10).toNat)
  case atStart => exact ⟨0, Nat.zero_le _, rfl, Ho.out, Below.refl _ _, fun _ _ _ h => h, fun _ _ => rfl⟩
  case round =>
    obtain ⟨k, hk, rfl, ho, hbe, hall, hkeep⟩ := hrel
    by_cases hkc : k < c
    · rcases ho with ho | ⟨b, off, cs, e, rfl, hb, hh, hs, _⟩
      · omega
      · have hcell : wr.cell? ⟨b, off + k, none⟩ = some (cs[off + k]'(by omega)) := by
          rw [cell_of_row wr b (off + k) cs e (0, 0) hh]; exact Array.getElem?_eq_getElem (by omega)
        have hfree := frozen_of_row wr b (off + k) cs e hh
        have hb0 := lt_of_block hh
        have hbT : b < T := hT _ (by omega) rfl
        obtain ⟨u, hu⟩ : ∃ u, u = cs[off + k]'(by omega) := ⟨_, rfl⟩
        rw [← hu] at hcell
        have HH := hid hh; have HS := hid hs; have HA := hid hall; have HK := hid hkeep
        clear hh hs hu hall hkeep
        go_wp2
        go_roundw
        case rel =>
          refine ⟨k + 1, by omega, by go_num, Or.inr ⟨b, off, _, e, rfl, hb, heap_setCell_same wr b (off + k) cs e _ HH.out, ?_, hc⟩, hbe.setCell hb _, fun B ao' c' h => (HA.out B ao' c' h).set, fun j hj => ?_⟩
          · rw [Array.size_setIfInBounds]; exact HS.out
          · rw [heap_setCell_other _ _ _ _ (fun h => by have h' : j = b := h; omega)]; exact HK.out j hj
        case measure => simp [intOf]; omega
    · go_wp2
      go_end0
      exact ⟨rfl, hbe, hall, hkeep⟩

/-- A lent row, read by itself. -/
theorem lent_rw {w w' : World} {ao : Option Addr} {n c G : Nat} {xs : List Nat} (hr : Rw .u32 B32 w ao n c xs) (hb : Blk w' G 55 (ints .u32 (xs ++ lent))) : Rw .u32 B32 w' (some ⟨G, 0, none⟩) n (n + 3) xs := by
  have h := hb.rw (B := B32) (by
    intro x hx
    rcases List.mem_append.1 hx with hx | hx
    · exact hr.lt x hx
    · exact lent_lt x hx)
  have hl : (xs ++ lent).length = n + 3 := by rw [List.length_append, hr.len]; rfl
  rw [hl] at h
  have h2 := h.take (show n ≤ n + 3 by omega)
  rwa [show (xs ++ lent).take n = xs by rw [← hr.len, List.take_left]] at h2

set_option maxHeartbeats 2000000 in
theorem intact_any (ao : Option Addr) (n c G : Nat) (xs : List Nat) (w : World) (hn : n ≤ 1000000) (hr : Rw .u32 B32 w ao n c xs) (hb : Blk w G 55 (ints .u32 (xs ++ lent))) :
    Calls Try.prog 39 #[.slice (some ⟨G, 0, none⟩) n (n + 3), .slice ao n c] w fun e w' => e = .returned (.bool true) ∧ Below w.heap.size w w' := by
  have hl1 := hr.len
  have hl2 : (xs ++ lent).length = n + 3 := by rw [List.length_append, hl1]; rfl
  have HL1 := hid hl1; have HL2 := hid hl2; clear hl1 hl2
  have hrow : Rw .u32 B32 w (some ⟨G, 0, none⟩) (n + 3) (n + 3) (xs ++ lent) := by
    have h := hb.rw (B := B32) (by
      intro x hx
      rcases List.mem_append.1 hx with hx | hx
      · exact hr.lt x hx
      · exact lent_lt x hx)
    rwa [HL2.out] at h
  go_enter Try.func39, Try.ntmps39
  go_wp2_with fail
  go_loopw [27] (fun s27 wr => ∃ k : Nat, k ≤ n + 3 ∧ s27 = .int .i64 k ∧ Below w.heap.size w wr) (fun s27 _ => n + 3 - (intOf s27).toNat)
  case atStart => exact ⟨0, Nat.zero_le _, rfl, Below.refl _ _⟩
  case round =>
    obtain ⟨k, hk, rfl, hbe⟩ := hrel
    by_cases hkn : k < n + 3
    · obtain ⟨y, hy, hyB, hcy⟩ := (hrow.ext hbe).cell hkn
      rw [Nat.zero_add] at hcy
      by_cases hk2 : k < n
      · obtain ⟨b1, off1, x, rfl, hx, hxB, hcx⟩ := (hr.ext hbe).at hk2
        obtain rfl : x = y := by
          rw [List.getElem?_append_left (by rw [HL1.out]; exact hk2)] at hy
          rw [hy] at hx; exact (Option.some.inj hx).symm
        clear hx hy hxB hyB
        have d1 : decide (k < n) = true := by rw [decide_eq_true_eq]; omega
        have d2 : decide (n ≤ k) = false := by rw [decide_eq_false_iff_not]; omega
        go_wp2
        go_quiet (fail)
        go_wp2
        go_roundw
        case rel => exact ⟨k + 1, by omega, by go_num, ext_drewN hbe _⟩
        case measure => simp [intOf]; omega
      · obtain rfl : y = 1431655765 := by
          rw [List.getElem?_append_right (by rw [HL1.out]; omega), HL1.out] at hy
          have hk3 : k - n = 0 ∨ k - n = 1 ∨ k - n = 2 := by omega
          rcases hk3 with h | h | h <;> (rw [h] at hy; exact (Option.some.inj hy).symm)
        clear hy hyB
        have d1 : decide (k < n) = false := by rw [decide_eq_false_iff_not]; omega
        have d2 : decide (n ≤ k) = true := by rw [decide_eq_true_eq]; omega
        go_wp2
        go_quiet (fail)
        go_wp2
        go_roundw
        case rel => exact ⟨k + 1, by omega, by go_num, ext_drewN hbe _⟩
        case measure => simp [intOf]; omega
    · go_wp2
      go_ret
      exact ⟨rfl, hbe⟩

end Go.Proofs.Ytlkdlicbhhackaa

/-
  NEW MEMORY: rows of the program that answer in new memory; a row that is lent, and looked at again; a row that is spoiled.
-/
set_option linter.unusedVariables false
set_option linter.unusedSimpArgs false
namespace Go.Proofs.Ytlkdlicbhhackaa
open Go.RowKit

set_option maxHeartbeats 1000000 in
theorem aLNormF {l : Lf} {k K m : Nat} (h : IsL l K m) (hs : SzD k (.one l)) (hK : K ≤ 1073741824 := by decide) : ACall Try.prog 81 [.one l] (.d (.one (nl k K m))) := by
  obtain ⟨xs, hl1, rfl⟩ := h
  refine ⟨enters Try.func81 rfl rfl, fun B w vs hB hvs => ?_⟩
  match vs, hvs with
  | [v], ⟨h1, _⟩ =>
    obtain ⟨a, n, c, rfl, hr, hn, hb⟩ := lr_of (hl1 _ _ _ h1)
    have hk := hs _ _ _ h1
    refine (norm_any a n c xs w (by omega) hr).mono ?_
    rintro e w' ⟨ro, k, c', rfl, hk, h3, ho, hbb⟩
    exact ⟨_, rfl, hbb, nl_R (by assumption) hB h3 (lr_lt hr hn) ho⟩

set_option maxHeartbeats 1000000 in
theorem aLAddF {a b : Lf} {k0 K L M m n : Nat} (h : IsL a K m) (k : IsL b L n) (hs : SzD k0 (.one a)) (hM : max K L + 1 ≤ M := by decide) (hK : K ≤ 1073741824 := by decide) (hL : L ≤ 1073741824 := by decide) : ACall Try.prog 72 [.one a, .one b] (.d (.one (nl k0 M (m + n)))) := by
  obtain ⟨xs, hl1, rfl⟩ := h
  obtain ⟨ys, hl2, rfl⟩ := k
  refine ⟨enters Try.func72 rfl rfl, fun B w vs hB hvs => ?_⟩
  match vs, hvs with
  | [v, u], ⟨h1, h2, _⟩ =>
    obtain ⟨a, n, c, rfl, hr, hn, hb⟩ := lr_of (hl1 _ _ _ h1)
    obtain ⟨a', n', c', rfl, hr', hn', hb'⟩ := lr_of (hl2 _ _ _ h2)
    have hk0 := hs _ _ _ h1
    refine (add_any a a' n c n' c' xs ys w (by omega) (by omega) hr hr').mono ?_
    rintro e w' ⟨ro, k, cc, rfl, h3, ho, hbb⟩
    exact ⟨_, rfl, hbb, nl_R hk0 hB h3 (pow_le (by decide) hM (max_add_lt (by decide) (lr_lt hr hn) (lr_lt hr' hn'))) ho⟩

set_option maxHeartbeats 1000000 in
theorem aLSubF {a b : Lf} {k0 K L m n : Nat} (h : IsL a K m) (k : IsL b L n) (hs : SzD k0 (.one a) ∨ SzD k0 (.one b)) (hK : K ≤ 1073741824 := by decide) (hL : L ≤ 1073741824 := by decide) : ACall Try.prog 73 [.one a, .one b] (.tup [.one (nl k0 K (m - n)), .one (.v (.bool (decide (n ≤ m))))]) := by
  obtain ⟨xs, hl1, rfl⟩ := h
  obtain ⟨ys, hl2, rfl⟩ := k
  refine ⟨enters Try.func73 rfl rfl, fun B w vs hB hvs => ?_⟩
  match vs, hvs with
  | [v, u], ⟨h1, h2, _⟩ =>
    obtain ⟨a, n, c, rfl, hr, hn, hb⟩ := lr_of (hl1 _ _ _ h1)
    obtain ⟨a', n', c', rfl, hr', hn', hb'⟩ := lr_of (hl2 _ _ _ h2)
    have hk0 : k0 ≤ w.heap.size := by rcases hs with hs | hs; exact hs _ _ _ h1; exact hs _ _ _ h2
    refine (sub_any a a' n c n' c' xs ys w (by omega) (by omega) hr hr').mono ?_
    rintro e w' ⟨ro, k, cc, rfl, h3, ho, hbb⟩
    have hlt := lr_lt hr hn
    exact ⟨_, rfl, hbb, [.slice ro k cc, .bool (decide (val ys ≤ val xs))], rfl, nl_R hk0 hB h3 (by omega) ho, ⟨rfl, rfl⟩, trivial⟩

/-! ### Spoil -/
set_option maxHeartbeats 1000000 in
theorem spoil_spl (j : Nat) (B : BS) (w : World) (v : Value) (hB : ∀ b, B b → b < w.heap.size) (h : LfR B w (spl j) v) : Calls Try.prog 20 #[v] w fun e w' => ∃ r, e = .returned r ∧ Spl j B w w' := by
  obtain ⟨_, a, n, c, rfl, hn, ho, hb⟩ := h
  by_cases h0 : c = 0
  · refine (spoil_any a n c (max j w.heap.size) w hn (Or.inl h0) 0 (fun x hc => absurd h0 hc)).mono ?_
    rintro e w' ⟨rfl, hbe, hown, hall⟩
    exact ⟨_, rfl, hbe.mono (Nat.le_max_left _ _), hown, max j w.heap.size, Nat.le_max_left _ _, (fun hg => by have := hB _ hg; omega), fun b _ => hall b (Nat.zero_le _)⟩
  · rcases ho with ho | ⟨g, off, cs, e, rfl, h1, h2⟩
    · exact absurd ho h0
    · refine (spoil_any _ n c g w hn (Or.inr ⟨g, off, cs, e, rfl, Nat.le_refl _, h2⟩) (g + 1) (fun x _ hx => by cases hx; exact Nat.lt_succ_self _)).mono ?_
      rintro e w' ⟨rfl, hbe, hown, hall⟩
      refine ⟨_, rfl, hbe.mono h1, hown, g, h1, hb _ rfl h0, fun b hne => ?_⟩
      by_cases hlt : b < g
      · exact hbe.block b hlt
      · exact hall b (by omega)

/-! ### Lend, Intact -/
def lentSm (K : Nat) (xs : List Nat) : Sm where
  p := fun B w v => ∃ G, v = .slice (some ⟨G, 0, none⟩) xs.length (xs.length + 3) ∧ ¬ B G ∧ Blk w G 55 (ints .u32 (xs ++ lent)) ∧ xs.length ≤ K ∧ ∀ x ∈ xs, x < B32
  one := by rintro B w v ⟨G, rfl, _⟩; rfl
  mv := by
    rintro B B' w w' v ⟨G, rfl, h1, h2, h3, h4⟩ hk hB
    exact ⟨G, rfl, fun e => h1 (hB _ h2.lt e), (hk.blk G h2.lt h1).trans h2, h3, h4⟩
def lentL (K : Nat) (xs : List Nat) : Lf := .sm (lentSm K xs)
theorem lent_le {K : Nat} {xs : List Nat} : ∀ B w v, LfR B w (lentL K xs) v → LfR B w (lr K xs) v := by
  rintro B w v ⟨G, rfl, h1, h2, h3, h4⟩
  have hb := h2.rw (B := B32) (by
    intro x hx
    rcases List.mem_append.1 hx with hx | hx
    · exact h4 x hx
    · exact lent_lt x hx)
  have hl : (xs ++ lent).length = xs.length + 3 := by rw [List.length_append]; rfl
  rw [hl] at hb
  have h5 := hb.take (show xs.length ≤ xs.length + 3 by omega)
  rw [List.take_left] at h5
  exact lr_R h5 h3 (fun x hx _ => by cases hx; exact h1)
set_option maxHeartbeats 1000000 in
theorem aLend {K : Nat} {xs : List Nat} (hK : K ≤ 1000000 := by decide) : ACall Try.prog 25 [.one (lr K xs)] (.d (.one (lentL K xs))) := by
  refine ⟨enters Try.func25 rfl rfl, fun B w vs hB hvs => ?_⟩
  match vs, hvs with
  | [v], ⟨h1, _⟩ =>
    obtain ⟨a, n, c, rfl, hr, hn, hb⟩ := lr_of h1
    obtain rfl := hr.len
    refine (lend_any a _ c xs w (by omega) hr).mono ?_
    rintro e w' ⟨G, rfl, hG, hblk, hbb⟩
    exact ⟨_, rfl, hbb, G, rfl, fun e => by have := hB _ e; omega, hblk, hn, hr.lt⟩
set_option maxHeartbeats 1000000 in
theorem aIntact {a b : Lf} {K L : Nat} {xs : List Nat} (ha : ∀ B w v, LfR B w a v → LfR B w (lentL K xs) v) (hb : ∀ B w v, LfR B w b v → LfR B w (lr L xs) v) (hL : L ≤ 1000000 := by decide) : ACall Try.prog 39 [.one a, .one b] (.d (.one (.v (.bool true)))) := by
  refine ⟨enters Try.func39 rfl rfl, fun B w vs hB hvs => ?_⟩
  match vs, hvs with
  | [v, u], ⟨h1, h2, _⟩ =>
    obtain ⟨G, rfl, _, hblk, _, _⟩ := ha _ _ _ h1
    obtain ⟨a, n, c, rfl, hr, hn, hbb⟩ := lr_of (hb _ _ _ h2)
    obtain rfl := hr.len
    refine (intact_any a _ c G xs w (by omega) hr hblk).mono ?_
    rintro e w' ⟨rfl, hbe⟩
    exact ⟨_, rfl, hbe, rfl, rfl⟩

end Go.Proofs.Ytlkdlicbhhackaa

/-
  THE ABSTRACT MACHINE, 15: rows of numbers, rationals, polynomials: a row is its length and a function that says its coefficients (0 beyond). No condition; nothing of the program.
-/
set_option linter.unusedVariables false
set_option linter.unusedSimpArgs false
namespace Go.Proofs.Ytlkdlicbhhackaa
open Go.RowKit

theorem wr64 {z : Int} (h1 : -9223372036854775808 ≤ z := by omega) (h2 : z ≤ 9223372036854775807 := by omega) : IntKind.i64.wrap z = z := by
  simp [IntKind.wrap, IntKind.bits, IntKind.signed]; omega

/-- Euclid's division by what it is. -/
theorem euc {x y q r : Int} (h : x = y * q + r) (h0 : 0 ≤ r) (h1 : r < y.natAbs) : q = x / y ∧ r = x % y := by
  have hy : y ≠ 0 := by intro e; subst e; simp at h1; omega
  have hr : r = x % y := by
    rw [h, Int.mul_add_emod_self_left]
    rcases Int.lt_or_gt_of_ne hy with h2 | h2
    · rw [← Int.emod_neg]; exact (Int.emod_eq_of_lt h0 (by omega)).symm
    · exact (Int.emod_eq_of_lt h0 (by omega)).symm
  refine ⟨?_, hr⟩
  have := Int.mul_ediv_add_emod x y
  rw [← hr] at this
  have h2 : y * (x / y) = y * q := by omega
  exact (Int.eq_of_mul_eq_mul_left hy h2).symm

/-! ### Normal numbers, as asked for -/
def IsN (ls : List Lf) (K : Nat) (z : Int) : Prop := ∀ B w cs, LsR B w ls cs → LsR B w (zn K z) cs
theorem isn (K : Nat) (z : Int) : IsN (zn K z) K z := fun _ _ _ h => h
theorem isn_nil : IsN [.v (.bool false), .v (.slice none 0 0)] 0 0 := fun _ _ _ h => nil_ls h
theorem IsN.isz {ls : List Lf} {K : Nat} {z : Int} (h : IsN ls K z) : IsZ ls K z := let ⟨s, xs, h1, h2⟩ := Go.Proofs.Ytlkdlicbhhackaa.isz K z; ⟨s, xs, fun B w cs hc => h1 B w cs (h B w cs hc), h2⟩
theorem IsN.mono {ls : List Lf} {K L : Nat} {z : Int} (h : IsN ls K z) (hk : K ≤ L) : IsN ls L z := fun B w cs hc => zn_mono hk _ _ _ (h B w cs hc)

/-! ### Rows -/
theorem row_le {sz n : Nat} {el el' : Nat → Nat → Lf} (h : ∀ i, i < n → ∀ j, j < sz → ∀ B w c, LfR B w (el i j) c → LfR B w (el' i j) c) : ∀ B w c, LfR B w (.row sz n el) c → LfR B w (.row sz n el') c := by
  rintro B w c ⟨a, cap, rfl, h1, h2, h3⟩
  refine ⟨a, cap, rfl, h1, h2, fun i hi => ?_⟩
  obtain ⟨b, off, e, hb, hl, hj⟩ := h3 i hi
  exact ⟨b, off, e, hb, hl, fun j hjs => let ⟨x, hx, hl⟩ := hj j hjs; ⟨x, hx, h i hi j hjs _ _ _ hl⟩⟩
theorem le_row {sz n : Nat} {el el' : Nat → Nat → Lf} (h : ∀ i, i < n → ∀ j, j < sz → ∀ B w c, LfR B w (el i j) c → LfR B w (el' i j) c) : AV.le (.d (.one (.row sz n el))) (.d (.one (.row sz n el'))) := le_one (row_le h)
theorem leo_row {e : TypeId} {sz n : Nat} {el el' : Nat → Nat → Lf} (h : ∀ i, i < n → ∀ j, j < sz → ∀ B w c, LfR B w (el i j) c → LfR B w (el' i j) c) : AO.le (.row e sz n el) (.row e sz n el') := by
  rintro B w0 w v ⟨xs, h1, h2⟩
  exact ⟨xs, h1, fun i j hi hj => let ⟨x, hx, hl⟩ := h2 i j hi hj; ⟨x, hx, h i hi j hj _ _ _ hl⟩⟩

/-- A row of whole numbers: normal; in any form. -/
def zel (K : Nat) (c : Nat → Int) : Nat → Nat → Lf := fun i j => ((zn K (c i))[j]?).getD (.v undef)
def ael (K : Nat) (f : Nat → Bool × List Nat) : Nat → Nat → Lf := fun i j => (([.v (.bool (f i).1), lr K (f i).2] : List Lf)[j]?).getD (.v undef)
def prow (K n : Nat) (c : Nat → Int) : Lf := .row 2 n (zel K c)
def arow (K n : Nat) (f : Nat → Bool × List Nat) : Lf := .row 2 n (ael K f)
def fzv (f : Nat → Bool × List Nat) (i : Nat) : Int := zv (f i).1 (val (f i).2)
/-- What stands there is this row of numbers, whatever its form. -/
def IsP (l : Lf) (K n : Nat) (c : Nat → Int) : Prop := (∃ f, (∀ B w v, LfR B w l v → LfR B w (arow K n f) v) ∧ ∀ i, i < n → fzv f i = c i) ∧ ∀ i, n ≤ i → c i = 0
theorem isp {K n : Nat} {c : Nat → Int} (h : ∀ i, n ≤ i → c i = 0) : IsP (prow K n c) K n c :=
  ⟨⟨fun i => (decide (c i < 0), limbs (c i).natAbs), fun _ _ _ h => h, fun i _ => by unfold fzv; simp only []; rw [val_limbs]; exact zv_natAbs _⟩, h⟩
theorem isp_nil : IsP (.v (.slice none 0 0)) 0 0 (fun _ => 0) := by
  refine ⟨⟨fun _ => (false, []), ?_, fun i hi => absurd hi (Nat.not_lt_zero _)⟩, fun _ _ => rfl⟩
  rintro B w c ⟨rfl, _⟩
  exact ⟨none, 0, rfl, Nat.le_refl _, fun _ => rfl, fun i hi => absurd hi (Nat.not_lt_zero _)⟩
theorem IsP.z {l : Lf} {K n : Nat} {c : Nat → Int} (h : IsP l K n c) : ∀ i, n ≤ i → c i = 0 := h.2
theorem IsP.eq {l : Lf} {K n m : Nat} {c d : Nat → Int} (h : IsP l K n c) (e : n = m) (e' : ∀ i, c i = d i) : IsP l K m d := by
  obtain rfl : c = d := funext e'
  exact e ▸ h

theorem zel_le {K L n : Nat} {c d : Nat → Int} (hk : K ≤ L) (h : ∀ i, i < n → c i = d i) : ∀ i, i < n → ∀ j, j < 2 → ∀ B w v, LfR B w (zel K c i j) v → LfR B w (zel L d i j) v := by
  intro i hi j hj B w v hv
  unfold zel at *
  rw [← h i hi]
  match j, hj with
  | 0, _ => exact hv
  | 1, _ => exact lr_mono hk _ _ _ hv
theorem prow_le {K L n : Nat} {c d : Nat → Int} (hk : K ≤ L) (h : ∀ i, i < n → c i = d i) : ∀ B w v, LfR B w (prow K n c) v → LfR B w (prow L n d) v := row_le (zel_le hk h)
theorem le_prow {K L n m : Nat} {c d : Nat → Int} (hk : K ≤ L) (e : n = m) (h : ∀ i, i < n → c i = d i) : AV.le (.d (.one (prow K n c))) (.d (.one (prow L m d))) := by subst e; exact le_one (prow_le hk h)
theorem leo_prow {e : TypeId} {K L n : Nat} {c d : Nat → Int} (hk : K ≤ L) (h : ∀ i, i < n → c i = d i) : AO.le (.row e 2 n (zel K c)) (.row e 2 n (zel L d)) := leo_row (zel_le hk h)
theorem IsP.mono {l : Lf} {K L n : Nat} {c : Nat → Int} (h : IsP l K n c) (hk : K ≤ L) : IsP l L n c := by
  obtain ⟨⟨f, h1, h2⟩, h3⟩ := h
  refine ⟨⟨f, fun B w v hv => row_le ?_ _ _ _ (h1 B w v hv), h2⟩, h3⟩
  intro i hi j hj B w v hv
  match j, hj with
  | 0, _ => exact hv
  | 1, _ => exact lr_mono hk _ _ _ hv
theorem isa {K n : Nat} {f : Nat → Bool × List Nat} {i : Nat} : IsZ [.v (.bool (f i).1), lr K (f i).2] K (fzv f i) := iszr _ _ _
/-- A row grows by one. -/
theorem app_el {e : TypeId} {sz n m : Nat} {el el2 el' : Nat → Nat → Lf} (hm : m = n + 1) (h1 : ∀ i, i < n → ∀ j, j < sz → ∀ B w v, LfR B w (el i j) v → LfR B w (el' i j) v) (h2 : ∀ j, j < sz → ∀ B w v, LfR B w (el2 0 j) v → LfR B w (el' n j) v) : AO.le (.row e sz (n + 1) (appEl n el el2)) (.row e sz m el') := by
  subst hm
  refine leo_row fun i hi j hj B w v hv => ?_
  unfold appEl at hv
  by_cases hin : i < n
  · rw [show Nat.ble (i + 1) n = true from Nat.ble_eq_true_of_le hin] at hv
    exact h1 i hin j hj _ _ _ hv
  · obtain rfl : i = n := by omega
    rw [show Nat.ble (i + 1) i = false from by rw [← Bool.not_eq_true]; exact fun h => by have := Nat.le_of_ble_eq_true h; omega, Nat.sub_self] at hv
    exact h2 j hj _ _ _ hv
theorem app_z {e : TypeId} {K L M n m : Nat} {z : Int} {c d : Nat → Int} {el2 : Nat → Nat → Lf} (hm : m = n + 1) (hK : K ≤ L) (hM : M ≤ L) (hz : z = d n) (hc : ∀ i, i < n → c i = d i) (h0 : el2 0 0 = .v (.bool (decide (z < 0))) := by rfl) (h1 : el2 0 1 = ln M z.natAbs := by rfl) : AO.le (.row e 2 (n + 1) (appEl n (zel K c) el2)) (.row e 2 m (zel L d)) := by
  refine app_el hm (zel_le hK hc) fun j hj B w v hv => ?_
  unfold zel
  rw [← hz]
  match j, hj with
  | 0, _ => rw [h0] at hv; exact hv
  | 1, _ => rw [h1] at hv; exact lr_mono hM _ _ _ hv
theorem ael_le {K L n : Nat} {f : Nat → Bool × List Nat} (hk : K ≤ L) : ∀ i, i < n → ∀ j, j < 2 → ∀ B w v, LfR B w (ael K f i j) v → LfR B w (ael L f i j) v := by
  intro i hi j hj B w v hv
  match j, hj with
  | 0, _ => exact hv
  | 1, _ => exact lr_mono hk _ _ _ hv
theorem app_a {e : TypeId} {K L M n m : Nat} {f : Nat → Bool × List Nat} {el2 : Nat → Nat → Lf} (hm : m = n + 1) (hK : K ≤ L) (hM : M ≤ L) (h0 : el2 0 0 = .v (.bool (f n).1) := by rfl) (h1 : el2 0 1 = lr M (f n).2 := by rfl) : AO.le (.row e 2 (n + 1) (appEl n (ael K f) el2)) (.row e 2 m (ael L f)) := by
  refine app_el hm (ael_le hK) fun j hj B w v hv => ?_
  match j, hj with
  | 0, _ => rw [h0] at hv; exact hv
  | 1, _ => rw [h1] at hv; exact lr_mono hM _ _ _ hv
/-- One or two numbers written out. -/
theorem isp1 {K M : Nat} {z : Int} {el : Nat → Nat → Lf} (hM : M ≤ K) (h0 : el 0 0 = .v (.bool (decide (z < 0))) := by rfl) (h1 : el 0 1 = ln M z.natAbs := by rfl) : IsP (.row 2 1 el) K 1 (fun i => if i = 0 then z else 0) := by
  have h := isp (K := K) (n := 1) (c := fun i => if i = 0 then z else 0) (fun i hi => if_neg (by omega))
  refine ⟨?_, h.2⟩
  obtain ⟨f, h2, h3⟩ := h.1
  refine ⟨f, fun B w v hv => h2 _ _ _ (row_le ?_ _ _ _ hv), h3⟩
  intro i hi j hj B w v hv
  obtain rfl : i = 0 := by omega
  match j, hj with
  | 0, _ => rw [h0] at hv; exact hv
  | 1, _ => rw [h1] at hv; exact lr_mono hM _ _ _ hv
theorem isp2 {K M N : Nat} {z y : Int} {el : Nat → Nat → Lf} (hM : M ≤ K) (hN : N ≤ K) (h0 : el 0 0 = .v (.bool (decide (z < 0))) := by rfl) (h1 : el 0 1 = ln M z.natAbs := by rfl) (h2 : el 1 0 = .v (.bool (decide (y < 0))) := by rfl) (h3 : el 1 1 = ln N y.natAbs := by rfl) : IsP (.row 2 2 el) K 2 (fun i => if i = 0 then z else if i = 1 then y else 0) := by
  have h := isp (K := K) (n := 2) (c := fun i => if i = 0 then z else if i = 1 then y else 0) (fun i hi => by show (if i = 0 then z else if i = 1 then y else 0) = 0; rw [if_neg (by omega), if_neg (by omega)])
  refine ⟨?_, h.2⟩
  obtain ⟨f, h4, h5⟩ := h.1
  refine ⟨f, fun B w v hv => h4 _ _ _ (row_le ?_ _ _ _ hv), h5⟩
  intro i hi j hj B w v hv
  match i, hi, j, hj with
  | 0, _, 0, _ => rw [h0] at hv; exact hv
  | 0, _, 1, _ => rw [h1] at hv; exact lr_mono hM _ _ _ hv
  | 1, _, 0, _ => rw [h2] at hv; exact hv
  | 1, _, 1, _ => rw [h3] at hv; exact lr_mono hN _ _ _ hv

/-! ### Rationals of the plain reckoning -/
def qn (K : Nat) (q : Rat) : List Lf := rn K q.num ++ rn K (q.den : Int)
def IsQ (ls : List Lf) (K : Nat) (q : Rat) : Prop := ∀ B w cs, LsR B w ls cs → LsR B w (qn K q) cs
theorem isq (K : Nat) (q : Rat) : IsQ (qn K q) K q := fun _ _ _ h => h
theorem qn_mono {K L : Nat} {q : Rat} (h : K ≤ L) : ∀ B w cs, LsR B w (qn K q) cs → LsR B w (qn L q) cs
  | B, w, [a, b, c, d], ⟨h1, h2, h3, h4, h5⟩ => ⟨dr_mono h _ _ _ h1, h2, dr_mono h _ _ _ h3, h4, h5⟩
theorem IsQ.mono {ls : List Lf} {K L : Nat} {q : Rat} (h : IsQ ls K q) (hk : K ≤ L) : IsQ ls L q := fun B w cs hc => qn_mono hk _ _ _ (h B w cs hc)
theorem IsQ.eq {ls : List Lf} {K : Nat} {q r : Rat} (h : IsQ ls K q) (e : q = r) : IsQ ls K r := e ▸ h
theorem le_qn {K L : Nat} {z y : Rat} (h : K ≤ L) (e : z = y) : AV.le (.d (.agg (qn K z))) (.d (.agg (qn L y))) := by subst e; exact le_agg (qn_mono h)
theorem leo_qn {t : TypeId} {K L : Nat} {z y : Rat} (h : K ≤ L) (e : z = y) : AO.le (.box t (qn K z)) (.box t (qn L y)) := by subst e; exact leo_box (qn_mono h)
theorem le_qn2 {K L M : Nat} {n d : Int} {q : Rat} (h1 : K ≤ M) (h2 : L ≤ M) (e1 : n = q.num) (e2 : d = q.den) : AV.le (.d (.agg (rn K n ++ rn L d))) (.d (.agg (qn M q))) := by
  subst e1; subst e2
  refine le_agg fun B w cs h => ?_
  match cs, h with
  | [a, b, c, d], ⟨h1', h2', h3', h4', h5'⟩ => exact ⟨dr_mono h1 _ _ _ h1', h2', dr_mono h2 _ _ _ h3', h4', h5'⟩
def qel (K : Nat) (c : Nat → Rat) : Nat → Nat → Lf := fun i j => ((qn K (c i))[j]?).getD (.v undef)
def qrow (K n : Nat) (c : Nat → Rat) : Lf := .row 4 n (qel K c)
theorem qel_le {K L n : Nat} {c d : Nat → Rat} (hk : K ≤ L) (h : ∀ i, i < n → c i = d i) : ∀ i, i < n → ∀ j, j < 4 → ∀ B w v, LfR B w (qel K c i j) v → LfR B w (qel L d i j) v := by
  intro i hi j hj B w v hv
  unfold qel at *
  rw [← h i hi]
  match j, hj with
  | 0, _ => exact dr_mono hk _ _ _ hv
  | 1, _ => exact hv
  | 2, _ => exact dr_mono hk _ _ _ hv
  | 3, _ => exact hv
def IsQP (l : Lf) (K n : Nat) (c : Nat → Rat) : Prop := (∀ B w v, LfR B w l v → LfR B w (qrow K n c) v) ∧ ∀ i, n ≤ i → c i = 0
theorem isqp {K n : Nat} {c : Nat → Rat} (h : ∀ i, n ≤ i → c i = 0) : IsQP (qrow K n c) K n c := ⟨fun _ _ _ h => h, h⟩
theorem isqp_nil : IsQP (.v (.slice none 0 0)) 0 0 (fun _ => 0) := by
  refine ⟨?_, fun _ _ => rfl⟩
  rintro B w c ⟨rfl, _⟩
  exact ⟨none, 0, rfl, Nat.le_refl _, fun _ => rfl, fun i hi => absurd hi (Nat.not_lt_zero _)⟩
theorem IsQP.mono {l : Lf} {K L n : Nat} {c : Nat → Rat} (h : IsQP l K n c) (hk : K ≤ L) : IsQP l L n c := ⟨fun B w v hv => row_le (qel_le hk fun _ _ => rfl) _ _ _ (h.1 B w v hv), h.2⟩
theorem IsQP.eq {l : Lf} {K n m : Nat} {c d : Nat → Rat} (h : IsQP l K n c) (e : n = m) (e' : ∀ i, c i = d i) : IsQP l K m d := by
  obtain rfl : c = d := funext e'
  exact e ▸ h
theorem le_qrow {K L n m : Nat} {c d : Nat → Rat} (hk : K ≤ L) (e : n = m) (h : ∀ i, i < n → c i = d i) : AV.le (.d (.one (qrow K n c))) (.d (.one (qrow L m d))) := by subst e; exact le_one (row_le (qel_le hk h))
theorem leo_qrow {e : TypeId} {K L n : Nat} {c d : Nat → Rat} (hk : K ≤ L) (h : ∀ i, i < n → c i = d i) : AO.le (.row e 4 n (qel K c)) (.row e 4 n (qel L d)) := leo_row (qel_le hk h)
theorem qn_el {K M : Nat} {q : Rat} {l : Nat → Lf} (hM : M ≤ K) (h0 : l 0 = dn M q.num.natAbs) (h1 : l 1 = .v (.bool (decide (q.num < 0)))) (h2 : l 2 = dn M (q.den : Int).natAbs) (h3 : l 3 = .v (.bool (decide ((q.den : Int) < 0)))) : ∀ j, j < 4 → ∀ B w v, LfR B w (l j) v → LfR B w (((qn K q)[j]?).getD (.v undef)) v := by
  intro j hj B w v hv
  match j, hj with
  | 0, _ => rw [h0] at hv; exact dr_mono hM _ _ _ hv
  | 1, _ => rw [h1] at hv; exact hv
  | 2, _ => rw [h2] at hv; exact dr_mono hM _ _ _ hv
  | 3, _ => rw [h3] at hv; exact hv
theorem app_q {e : TypeId} {K L M n m : Nat} {q : Rat} {c d : Nat → Rat} {el2 : Nat → Nat → Lf} (hm : m = n + 1) (hK : K ≤ L) (hM : M ≤ L) (hz : q = d n) (hc : ∀ i, i < n → c i = d i) (h0 : el2 0 0 = dn M q.num.natAbs := by rfl) (h1 : el2 0 1 = .v (.bool (decide (q.num < 0))) := by rfl) (h2 : el2 0 2 = dn M (q.den : Int).natAbs := by rfl) (h3 : el2 0 3 = .v (.bool (decide ((q.den : Int) < 0))) := by rfl) : AO.le (.row e 4 (n + 1) (appEl n (qel K c) el2)) (.row e 4 m (qel L d)) := by
  refine app_el hm (qel_le hK hc) fun j hj B w v hv => ?_
  unfold qel
  rw [← hz]
  exact qn_el hM h0 h1 h2 h3 j hj B w v hv
theorem isqp1 {K M : Nat} {q : Rat} {el : Nat → Nat → Lf} (hM : M ≤ K) (h0 : el 0 0 = dn M q.num.natAbs := by rfl) (h1 : el 0 1 = .v (.bool (decide (q.num < 0))) := by rfl) (h2 : el 0 2 = dn M (q.den : Int).natAbs := by rfl) (h3 : el 0 3 = .v (.bool (decide ((q.den : Int) < 0))) := by rfl) : IsQP (.row 4 1 el) K 1 (fun i => if i = 0 then q else 0) := by
  refine ⟨row_le fun i hi j hj B w v hv => ?_, fun i hi => if_neg (by omega)⟩
  obtain rfl : i = 0 := by omega
  exact qn_el hM h0 h1 h2 h3 j hj B w v hv
theorem isqp2 {K M N : Nat} {q r : Rat} {el : Nat → Nat → Lf} (hM : M ≤ K) (hN : N ≤ K) (h0 : el 0 0 = dn M q.num.natAbs := by rfl) (h1 : el 0 1 = .v (.bool (decide (q.num < 0))) := by rfl) (h2 : el 0 2 = dn M (q.den : Int).natAbs := by rfl) (h3 : el 0 3 = .v (.bool (decide ((q.den : Int) < 0))) := by rfl)
    (k0 : el 1 0 = dn N r.num.natAbs := by rfl) (k1 : el 1 1 = .v (.bool (decide (r.num < 0))) := by rfl) (k2 : el 1 2 = dn N (r.den : Int).natAbs := by rfl) (k3 : el 1 3 = .v (.bool (decide ((r.den : Int) < 0))) := by rfl) : IsQP (.row 4 2 el) K 2 (fun i => if i = 0 then q else if i = 1 then r else 0) := by
  refine ⟨row_le fun i hi j hj B w v hv => ?_, fun i hi => by show (if i = 0 then q else if i = 1 then r else 0) = 0; rw [if_neg (by omega), if_neg (by omega)]⟩
  match i, hi with
  | 0, _ => exact qn_el hM h0 h1 h2 h3 j hj B w v hv
  | 1, _ => exact qn_el hN k0 k1 k2 k3 j hj B w v hv

/-! ### Rows cut: noughts on top are taken away -/
section
variable {α : Type} [DecidableEq α] [OfNat α 0]
def dg (c : Nat → α) : Nat → Nat
  | 0 => 0
  | n + 1 => if c n = 0 then dg c n else n + 1
theorem dg_le (c : Nat → α) : ∀ n, dg c n ≤ n
  | 0 => Nat.le_refl _
  | n + 1 => by unfold dg; split; exact Nat.le_succ_of_le (dg_le c n); exact Nat.le_refl _
theorem dg_z {c : Nat → α} : ∀ {n : Nat}, (∀ i, n ≤ i → c i = 0) → ∀ i, dg c n ≤ i → c i = 0
  | 0, h, i, hi => h i (Nat.zero_le _)
  | n + 1, h, i, hi => by
    unfold dg at hi
    split at hi
    · rename_i h0
      exact dg_z (n := n) (fun k hk => by rcases Nat.eq_or_lt_of_le hk with e | e; exact e ▸ h0; exact h k e) i hi
    · exact h i hi
theorem dg_ne {c : Nat → α} : ∀ {n : Nat}, dg c n ≠ 0 → c (dg c n - 1) ≠ 0
  | 0, h => absurd rfl h
  | n + 1, h => by
    unfold dg at h ⊢
    split
    · rename_i h0; rw [if_pos h0] at h; exact dg_ne h
    · rename_i h0; exact h0
theorem dg_step {c : Nat → α} {n : Nat} (h : c n = 0) : dg c (n + 1) = dg c n := by
  show (if c n = 0 then dg c n else n + 1) = _
  rw [if_pos h]
theorem dg_stop {c : Nat → α} {n : Nat} (h : n = 0 ∨ c (n - 1) ≠ 0) : dg c n = n := by
  cases n with
  | zero => rfl
  | succ n =>
    rcases h with h | h
    · exact absurd h (Nat.succ_ne_zero _)
    · show (if c n = 0 then dg c n else n + 1) = _
      rw [if_neg (show ¬ c n = 0 from h)]
omit [DecidableEq α] in
theorem dg_uniq {c : Nat → α} {k m : Nat} (h1 : k = 0 ∨ c (k - 1) ≠ 0) (h2 : ∀ i, k ≤ i → c i = 0) (h3 : m = 0 ∨ c (m - 1) ≠ 0) (h4 : ∀ i, m ≤ i → c i = 0) : k = m := by
  rcases Nat.lt_trichotomy k m with h | h | h
  · rcases h3 with h3 | h3
    · omega
    · exact absurd (h2 (m - 1) (by omega)) h3
  · exact h
  · rcases h1 with h1 | h1
    · omega
    · exact absurd (h4 (k - 1) (by omega)) h1
theorem dg_or {c : Nat → α} {n : Nat} : dg c n = 0 ∨ c (dg c n - 1) ≠ 0 := by
  rcases Nat.eq_zero_or_pos (dg c n) with h | h
  · exact Or.inl h
  · exact Or.inr (dg_ne (by omega))
theorem dg_eq {c : Nat → α} {n m : Nat} (h : ∀ i, n ≤ i → c i = 0) (k : ∀ i, m ≤ i → c i = 0) : dg c n = dg c m := dg_uniq dg_or (dg_z h) dg_or (dg_z k)
end
theorem dg_cast {c : Nat → Int} : ∀ n, dg (fun i => ((c i : Int) : Rat)) n = dg c n
  | 0 => rfl
  | n + 1 => by
    unfold dg
    rw [dg_cast n]
    by_cases h : c n = 0
    · rw [if_pos h, if_pos (by rw [h]; rfl)]
    · rw [if_neg h, if_neg (fun e => h (by exact_mod_cast e))]

/-! ### Sums, products -/
section
variable {α : Type} [Add α] [Mul α] [OfNat α 0]
/-- The product's coefficients: of the first m of the left one. -/
def cv (a b : Nat → α) : Nat → Nat → α
  | 0, _ => 0
  | m + 1, j => cv a b m j + (if m ≤ j then a m * b (j - m) else 0)
def conv (a b : Nat → α) (j : Nat) : α := cv a b (j + 1) j
end

end Go.Proofs.Ytlkdlicbhhackaa

/-
  WHOLE NUMBERS in the machine's words.
-/
set_option linter.unusedVariables false
set_option linter.unusedSimpArgs false
namespace Go.Proofs.Ytlkdlicbhhackaa
open Go.RowKit

theorem le_made {K m : Nat} {b : Bool} {z : Int} (h1 : b = decide (z < 0)) (h2 : m = z.natAbs) : AV.le (.d (.agg [.v (.bool b), ln K m])) (.d (.agg (zn K z))) := by subst h1; subst h2; exact AV.le.rfl
theorem le_rmade {K m : Nat} {b : Bool} {z : Int} (h1 : b = decide (z < 0)) (h2 : m = z.natAbs) : AV.le (.d (.agg [dn K m, .v (.bool b)])) (.d (.agg (rn K z))) := by subst h1; subst h2; exact AV.le.rfl
theorem limbs_len (m : Nat) : (limbs m).length = 0 ↔ m = 0 := by
  rw [List.length_eq_zero_iff]; exact limbs_eq_nil
theorem digs_len (m : Nat) : (digs4 m).length = 0 ↔ m = 0 := by
  rw [List.length_eq_zero_iff]; exact digs4_eq_nil
def sgn (z : Int) : Int := if z < 0 then -1 else if z = 0 then 0 else 1
theorem nbits_zero_iff (m : Nat) : nbits m = 0 ↔ m = 0 := ⟨fun h => by
  rcases Nat.eq_zero_or_pos m with h0 | h0
  · exact h0
  · have := nbits_pos (n := m) (by omega); omega, fun h => by subst h; rfl⟩
theorem zv_mul (s t : Bool) (a b : Nat) : zv (s != t) (a * b) = zv s a * zv t b := by
  cases s <;> cases t <;> simp [zv, Int.neg_mul, Int.mul_neg]
theorem zv_add (s t : Bool) (a b : Nat) (h : (s == t) = true) : zv s (a + b) = zv s a + zv t b := by
  cases s <;> cases t <;> simp_all [zv] <;> omega
theorem zv_sub1 (s t : Bool) (a b : Nat) (h : (s == t) = false) (hle : b ≤ a) : zv s (a - b) = zv s a + zv t b := by
  cases s <;> cases t <;> simp_all [zv] <;> omega
theorem zv_sub2 (s t : Bool) (a b : Nat) (h : (s == t) = false) (hle : ¬ b ≤ a) : zv t (b - a) = zv s a + zv t b := by
  cases s <;> cases t <;> simp_all [zv] <;> omega
theorem zvz (x : Int) : x = zv (decide (x < 0)) x.natAbs := (zv_natAbs x).symm

set_option maxRecDepth 100000 in
set_option maxHeartbeats 4000000 in
theorem aMade {K m : Nat} {neg : Bool} {z : Int} (hz : zv neg m = z) : ACall Try.prog 71 [.one (ln K m), .one (.v (.bool neg))] (.d (.agg (zn K z))) := by
  subst hz
  cases neg
  · skip
    refine acallN hTT 13 [.cell 4 36] Try.func71 rfl rfl rfl rfl rfl ?_
    refine cSeq ?_
    refine cReg ?_
    refine mN hTT (.box 36 ([.v (.bool false), .v (.slice none 0 0)])) rfl rfl rfl ?_
    refine mNil ?_
    refine tN ?_
    refine cSeq ?_
    refine cReg ?_
    refine mV hTT _ rfl ?_
    refine mV hTT _ rfl ?_
    refine mG rfl rfl ?_
    refine mG rfl rfl ?_
    refine mG rfl rfl ?_
    refine mV hTT _ rfl ?_
    refine mV hTT _ rfl ?_
    refine mV hTT (.d (.agg ([.v (.bool false), ln K m]))) rfl ?_
    refine mS hTT 4 (.box 36 ([.v (.bool false), ln K m])) rfl ?_
    refine mNil ?_
    refine tN ?_
    refine cRet ?_
    exact rQ rfl (le_made (by simp [zv_neg]) (zv_abs _ _).symm)
  · skip
    refine acallN hTT 13 [.cell 4 36] Try.func71 rfl rfl rfl rfl rfl ?_
    refine cSeq ?_
    refine cReg ?_
    refine mN hTT (.box 36 ([.v (.bool false), .v (.slice none 0 0)])) rfl rfl rfl ?_
    refine mNil ?_
    refine tN ?_
    refine cSeq ?_
    refine cReg ?_
    refine mV hTT _ rfl ?_
    refine mV hTT _ rfl ?_
    refine mV hTT _ rfl ?_
    refine mV hTT (.d (.one (.v (.int .i64 ((limbs m).length : Int))))) rfl ?_
    refine mV hTT (.d (.one (.v (.bool (decide (((limbs m).length : Int) > 0)))))) rfl ?_
    refine mV hTT _ rfl ?_
    refine mV hTT _ rfl ?_
    refine mV hTT (.d (.agg ([.v (.bool (decide (((limbs m).length : Int) > 0))), ln K m]))) rfl ?_
    refine mS hTT 4 (.box 36 ([.v (.bool (decide (((limbs m).length : Int) > 0))), ln K m])) rfl ?_
    refine mNil ?_
    refine tN ?_
    refine cRet ?_
    exact rQ rfl (le_made (by rw [zv_neg]; have := limbs_len m; rw [Bool.true_and, decide_eq_decide]; omega) (zv_abs _ _).symm)

set_option maxRecDepth 100000 in
set_option maxHeartbeats 4000000 in
theorem aRMade {K m : Nat} {neg : Bool} {z : Int} (hz : zv neg m = z) : ACall Try.prog 75 [.one (dn K m), .one (.v (.bool neg))] (.d (.agg (rn K z))) := by
  subst hz
  cases neg
  · skip
    refine acallN hTT 13 [.cell 4 42] Try.func75 rfl rfl rfl rfl rfl ?_
    refine cSeq ?_
    refine cReg ?_
    refine mN hTT (.box 42 ([.v (.slice none 0 0), .v (.bool false)])) rfl rfl rfl ?_
    refine mNil ?_
    refine tN ?_
    refine cSeq ?_
    refine cReg ?_
    refine mV hTT _ rfl ?_
    refine mV hTT _ rfl ?_
    refine mV hTT _ rfl ?_
    refine mG rfl rfl ?_
    refine mG rfl rfl ?_
    refine mG rfl rfl ?_
    refine mV hTT _ rfl ?_
    refine mV hTT (.d (.agg ([dn K m, .v (.bool false)]))) rfl ?_
    refine mS hTT 4 (.box 42 ([dn K m, .v (.bool false)])) rfl ?_
    refine mNil ?_
    refine tN ?_
    refine cRet ?_
    exact rQ rfl (le_rmade (by simp [zv_neg]) (zv_abs _ _).symm)
  · skip
    refine acallN hTT 13 [.cell 4 42] Try.func75 rfl rfl rfl rfl rfl ?_
    refine cSeq ?_
    refine cReg ?_
    refine mN hTT (.box 42 ([.v (.slice none 0 0), .v (.bool false)])) rfl rfl rfl ?_
    refine mNil ?_
    refine tN ?_
    refine cSeq ?_
    refine cReg ?_
    refine mV hTT _ rfl ?_
    refine mV hTT _ rfl ?_
    refine mV hTT _ rfl ?_
    refine mV hTT _ rfl ?_
    refine mV hTT (.d (.one (.v (.int .i64 ((digs4 m).length : Int))))) rfl ?_
    refine mV hTT (.d (.one (.v (.bool (decide (((digs4 m).length : Int) > 0)))))) rfl ?_
    refine mV hTT _ rfl ?_
    refine mV hTT (.d (.agg ([dn K m, .v (.bool (decide (((digs4 m).length : Int) > 0)))]))) rfl ?_
    refine mS hTT 4 (.box 42 ([dn K m, .v (.bool (decide (((digs4 m).length : Int) > 0)))])) rfl ?_
    refine mNil ?_
    refine tN ?_
    refine cRet ?_
    exact rQ rfl (le_rmade (by rw [zv_neg]; have := digs_len m; rw [Bool.true_and, decide_eq_decide]; omega) (zv_abs _ _).symm)

set_option maxRecDepth 100000 in
set_option maxHeartbeats 4000000 in
theorem aNorm {a : List Lf} {K : Nat} {x : Int} (ha : IsZ a K x) (hK : K ≤ 1073741824 := by decide) : ACall Try.prog 36 [.agg a] (.d (.agg (zn K x))) := by
  obtain ⟨s, xs, ha, rfl⟩ := ha
  refine ACall.le (dl (DV.z ha) dl0) AV.le.rfl ?_
  refine acallN hTT 9 [.cell 2 36] Try.func36 rfl rfl rfl rfl rfl ?_
  refine cSeq ?_
  refine cReg ?_
  refine mN hTT (.box 36 ([.v (.bool s), lr K xs])) rfl rfl rfl ?_
  refine mN hTT (.box 36 ([.v (.bool false), .v (.slice none 0 0)])) rfl rfl rfl ?_
  refine mNil ?_
  refine tN ?_
  refine cSeq ?_
  refine cDrawK hTT 6 (by kernel_rfl) (by kernel_rfl) (by kernel_rfl) ?_
  refine .cons (OpS.V (.ptr 1 1) rfl) ?_
  refine .cons (OpS.V (.d (.one (lr K xs))) rfl) ?_
  refine .cons (OpS.C0 (aLNorm (islv K xs) (by omega)) rfl rfl rfl) ?_
  refine .cons (OpS.V (.ptr 1 0) rfl) ?_
  refine .cons (OpS.V (.d (.one (.v (.bool s)))) rfl) ?_
  refine .cons (OpS.C0 (aMade (K := K) (m := (val xs)) (neg := s) rfl) rfl rfl rfl) ?_
  refine .nil ?_
  refine mS hTT 2 (.box 36 (zn K (zv s (val xs)))) rfl ?_
  refine mNil ?_
  refine tN ?_
  refine cRet ?_
  exact rQ rfl (AV.le.rfl)

set_option maxRecDepth 100000 in
set_option maxHeartbeats 4000000 in
theorem aNeg {a : List Lf} {K : Nat} {x : Int} (ha : IsZ a K x) (hK : K ≤ 1073741824 := by decide) : ACall Try.prog 34 [.agg a] (.d (.agg (zn K (-x)))) := by
  obtain ⟨s, xs, ha, rfl⟩ := ha
  refine ACall.le (dl (DV.z ha) dl0) AV.le.rfl ?_
  refine acallN hTT 10 [.cell 2 36] Try.func34 rfl rfl rfl rfl rfl ?_
  refine cSeq ?_
  refine cReg ?_
  refine mN hTT (.box 36 ([.v (.bool s), lr K xs])) rfl rfl rfl ?_
  refine mN hTT (.box 36 ([.v (.bool false), .v (.slice none 0 0)])) rfl rfl rfl ?_
  refine mNil ?_
  refine tN ?_
  refine cSeq ?_
  refine cDrawK hTT 7 (by kernel_rfl) (by kernel_rfl) (by kernel_rfl) ?_
  refine .cons (OpS.V (.ptr 1 1) rfl) ?_
  refine .cons (OpS.V (.d (.one (lr K xs))) rfl) ?_
  refine .cons (OpS.C0 (aLNorm (islv K xs) (by omega)) rfl rfl rfl) ?_
  refine .cons (OpS.V (.ptr 1 0) rfl) ?_
  refine .cons (OpS.V (.d (.one (.v (.bool s)))) rfl) ?_
  refine .cons (OpS.V (.d (.one (.v (.bool (!s))))) rfl) ?_
  refine .cons (OpS.C0 (aMade (K := K) (m := (val xs)) (neg := !s) rfl) rfl rfl rfl) ?_
  refine .nil ?_
  refine mS hTT 2 (.box 36 (zn K (zv (!s) (val xs)))) rfl ?_
  refine mNil ?_
  refine tN ?_
  refine cRet ?_
  exact rQ rfl (le_zn (Nat.le_refl _) (by cases s <;> simp [zv]))

set_option maxRecDepth 100000 in
set_option maxHeartbeats 4000000 in
theorem aAbs {a : List Lf} {K : Nat} {x : Int} (ha : IsZ a K x) (hK : K ≤ 1073741824 := by decide) : ACall Try.prog 35 [.agg a] (.d (.agg (zn K (x.natAbs : Int)))) := by
  obtain ⟨s, xs, ha, rfl⟩ := ha
  refine ACall.le (dl (DV.z ha) dl0) AV.le.rfl ?_
  refine acallN hTT 7 [.cell 2 36] Try.func35 rfl rfl rfl rfl rfl ?_
  refine cSeq ?_
  refine cReg ?_
  refine mN hTT (.box 36 ([.v (.bool s), lr K xs])) rfl rfl rfl ?_
  refine mN hTT (.box 36 ([.v (.bool false), .v (.slice none 0 0)])) rfl rfl rfl ?_
  refine mNil ?_
  refine tN ?_
  refine cSeq ?_
  refine cReg ?_
  refine mV hTT (.ptr 1 1) rfl ?_
  refine mV hTT (.d (.one (lr K xs))) rfl ?_
  refine mC0 (aLNorm (islv K xs) (by omega)) rfl rfl rfl ?_
  refine mC0 (aMade (K := K) (m := (val xs)) (neg := false) rfl) rfl rfl rfl ?_
  refine mS hTT 2 (.box 36 (zn K (zv false (val xs)))) rfl ?_
  refine mNil ?_
  refine tN ?_
  refine cRet ?_
  exact rQ rfl (le_zn (Nat.le_refl _) (by rw [zv_abs]; rfl))

set_option maxRecDepth 100000 in
set_option maxHeartbeats 4000000 in
theorem aAdd {a b : List Lf} {K L M : Nat} {x y : Int} (ha : IsZ a K x) (hb : IsZ b L y) (hM : max K L + 1 ≤ M := by decide) (hK : K ≤ 1073741824 := by decide) (hL : L ≤ 1073741824 := by decide) : ACall Try.prog 26 [.agg a, .agg b] (.d (.agg (zn M (x + y)))) := by
  obtain ⟨s, xs, ha, rfl⟩ := ha
  obtain ⟨t, ys, hb, rfl⟩ := hb
  refine ACall.le (dl (DV.z ha) (dl (DV.z hb) dl0)) AV.le.rfl ?_
  refine acallN hTT 47 [.cell 4 36] Try.func26 rfl rfl rfl rfl rfl ?_
  refine cSeq ?_
  refine cReg ?_
  refine mN hTT (.box 36 ([.v (.bool s), lr K xs])) rfl rfl rfl ?_
  refine mN hTT (.box 36 ([.v (.bool t), lr L ys])) rfl rfl rfl ?_
  refine mN hTT (.box 36 ([.v (.bool false), .v (.slice none 0 0)])) rfl rfl rfl ?_
  refine mNil ?_
  refine tN ?_
  refine cSeq ?_
  refine cSeq ?_
  refine cReg ?_
  refine mV hTT (.ptr 2 0) rfl ?_
  refine mV hTT (.d (.one (.v (.bool s)))) rfl ?_
  refine mV hTT (.ptr 3 0) rfl ?_
  refine mV hTT (.d (.one (.v (.bool t)))) rfl ?_
  refine mV hTT (.d (.one (.v (.bool (s == t))))) rfl ?_
  refine mNil ?_
  refine tN ?_
  refine cCond rfl (fun hc1 => ?_) (fun hc1 => ?_)
  · skip
    refine cSeq ?_
    refine cDrawK hTT 8 (by kernel_rfl) (by kernel_rfl) (by kernel_rfl) ?_
    refine .cons (OpS.V (.ptr 2 1) rfl) ?_
    refine .cons (OpS.V (.d (.one (lr K xs))) rfl) ?_
    refine .cons (OpS.V (.ptr 3 1) rfl) ?_
    refine .cons (OpS.V (.d (.one (lr L ys))) rfl) ?_
    refine .cons (OpS.C0 (aLAdd (islv K xs) (islv L ys) (M := (max K L + 1)) (by omega) (by omega) (by omega)) rfl rfl rfl) ?_
    refine .cons (OpS.V (.ptr 2 0) rfl) ?_
    refine .cons (OpS.V (.d (.one (.v (.bool s)))) rfl) ?_
    refine .cons (OpS.C0 (aMade (K := (max K L + 1)) (m := ((val xs) + (val ys))) (neg := s) rfl) rfl rfl rfl) ?_
    refine .nil ?_
    refine mS hTT 4 (.box 36 (zn (max K L + 1) (zv s ((val xs) + (val ys))))) rfl ?_
    refine mNil ?_
    refine tN ?_
    refine cRet ?_
    refine tR ?_
    exact rQ rfl (le_zn hM (zv_add _ _ _ _ hc1))
  · skip
    refine cSkip ?_
    refine tN ?_
    refine cSeq ?_
    refine cSeq ?_
    refine cReg ?_
    refine mV hTT (.ptr 2 1) rfl ?_
    refine mV hTT (.d (.one (lr K xs))) rfl ?_
    refine mV hTT (.ptr 3 1) rfl ?_
    refine mV hTT (.d (.one (lr L ys))) rfl ?_
    refine mC0 (aLSub (islv K xs) (islv L ys) (by omega) (by omega)) rfl rfl rfl ?_
    refine mV hTT _ rfl ?_
    refine mV hTT _ rfl ?_
    refine mV hTT _ rfl ?_
    refine mV hTT _ rfl ?_
    refine mV hTT _ rfl ?_
    refine mNil ?_
    refine tN ?_
    refine cSeq ?_
    refine cReg ?_
    refine mV hTT _ rfl ?_
    refine mNil ?_
    refine tN ?_
    refine cCond rfl (fun hc2 => ?_) (fun hc2 => ?_)
    · skip
      refine cSeq ?_
      refine cReg ?_
      refine mV hTT _ rfl ?_
      refine mV hTT (.ptr 2 0) rfl ?_
      refine mV hTT (.d (.one (.v (.bool s)))) rfl ?_
      refine mC0 (aMade (K := K) (m := ((val xs) - (val ys))) (neg := s) rfl) rfl rfl rfl ?_
      refine mS hTT 4 (.box 36 (zn K (zv s ((val xs) - (val ys))))) rfl ?_
      refine mNil ?_
      refine tN ?_
      refine cRet ?_
      refine tR ?_
      exact rQ rfl (le_zn (by omega) (zv_sub1 _ _ _ _ hc1 (by simpa using hc2)))
    · skip
      refine cSkip ?_
      refine tN ?_
      refine cSeq ?_
      refine cReg ?_
      refine mV hTT (.ptr 3 1) rfl ?_
      refine mV hTT (.d (.one (lr L ys))) rfl ?_
      refine mV hTT (.ptr 2 1) rfl ?_
      refine mV hTT (.d (.one (lr K xs))) rfl ?_
      refine mC0 (aLSub (islv L ys) (islv K xs) (by omega) (by omega)) rfl rfl rfl ?_
      refine mV hTT _ rfl ?_
      refine mV hTT _ rfl ?_
      refine mV hTT _ rfl ?_
      refine mV hTT _ rfl ?_
      refine mV hTT _ rfl ?_
      refine mNil ?_
      refine tN ?_
      refine cSeq ?_
      refine cReg ?_
      refine mV hTT _ rfl ?_
      refine mV hTT (.ptr 3 0) rfl ?_
      refine mV hTT (.d (.one (.v (.bool t)))) rfl ?_
      refine mC0 (aMade (K := L) (m := ((val ys) - (val xs))) (neg := t) rfl) rfl rfl rfl ?_
      refine mS hTT 4 (.box 36 (zn L (zv t ((val ys) - (val xs))))) rfl ?_
      refine mNil ?_
      refine tN ?_
      refine cRet ?_
      exact rQ rfl (le_zn (by omega) (zv_sub2 _ _ _ _ hc1 (by simpa using hc2)))

set_option maxRecDepth 100000 in
set_option maxHeartbeats 4000000 in
theorem aSub {a b : List Lf} {K L M : Nat} {x y : Int} (ha : IsZ a K x) (hb : IsZ b L y) (hM : max K L + 1 ≤ M := by decide) (hK : K ≤ 1073741824 := by decide) (hL : L ≤ 1073741824 := by decide) : ACall Try.prog 30 [.agg a, .agg b] (.d (.agg (zn M (x - y)))) := by
  obtain ⟨s, xs, ha, rfl⟩ := ha
  obtain ⟨t, ys, hb, rfl⟩ := hb
  refine ACall.le (dl (DV.z ha) (dl (DV.z hb) dl0)) AV.le.rfl ?_
  refine acallN hTT 12 [.cell 4 36] Try.func30 rfl rfl rfl rfl rfl ?_
  refine cSeq ?_
  refine cReg ?_
  refine mN hTT (.box 36 ([.v (.bool s), lr K xs])) rfl rfl rfl ?_
  refine mN hTT (.box 36 ([.v (.bool t), lr L ys])) rfl rfl rfl ?_
  refine mN hTT (.box 36 ([.v (.bool false), .v (.slice none 0 0)])) rfl rfl rfl ?_
  refine mNil ?_
  refine tN ?_
  refine cSeq ?_
  refine cReg ?_
  refine mV hTT (.ptr 3 0) rfl ?_
  refine mV hTT (.d (.one (.v (.bool t)))) rfl ?_
  refine mV hTT (.d (.one (.v (.bool (!t))))) rfl ?_
  refine mV hTT (.ptr 3 0) rfl ?_
  refine mS hTT 3 (.box 36 ([.v (.bool (!t)), lr L ys])) rfl ?_
  refine mNil ?_
  refine tN ?_
  refine cSeq ?_
  refine cReg ?_
  refine mV hTT (.d (.agg ([.v (.bool s), lr K xs]))) rfl ?_
  refine mV hTT (.d (.agg ([.v (.bool (!t)), lr L ys]))) rfl ?_
  refine mC0 (aAdd (iszr K s xs) (iszr L (!t) ys) (M := (max K L + 1)) (by omega) (by omega) (by omega)) rfl rfl rfl ?_
  refine mS hTT 4 (.box 36 (zn (max K L + 1) ((zv s (val xs)) + (zv (!t) (val ys))))) rfl ?_
  refine mNil ?_
  refine tN ?_
  refine cRet ?_
  exact rQ rfl (le_zn hM (by cases t <;> simp [zv] <;> omega))

set_option maxRecDepth 100000 in
set_option maxHeartbeats 4000000 in
theorem aMul {a b : List Lf} {K L M : Nat} {x y : Int} (ha : IsZ a K x) (hb : IsZ b L y) (hM : K + L ≤ M := by decide) (hK : K ≤ 1073741824 := by decide) (hL : L ≤ 1073741824 := by decide) : ACall Try.prog 32 [.agg a, .agg b] (.d (.agg (zn M (x * y)))) := by
  obtain ⟨s, xs, ha, rfl⟩ := ha
  obtain ⟨t, ys, hb, rfl⟩ := hb
  refine ACall.le (dl (DV.z ha) (dl (DV.z hb) dl0)) AV.le.rfl ?_
  refine acallN hTT 16 [.cell 4 36] Try.func32 rfl rfl rfl rfl rfl ?_
  refine cSeq ?_
  refine cReg ?_
  refine mN hTT (.box 36 ([.v (.bool s), lr K xs])) rfl rfl rfl ?_
  refine mN hTT (.box 36 ([.v (.bool t), lr L ys])) rfl rfl rfl ?_
  refine mN hTT (.box 36 ([.v (.bool false), .v (.slice none 0 0)])) rfl rfl rfl ?_
  refine mNil ?_
  refine tN ?_
  refine cSeq ?_
  refine cDrawK hTT 11 (by kernel_rfl) (by kernel_rfl) (by kernel_rfl) ?_
  refine .cons (OpS.V (.ptr 2 1) rfl) ?_
  refine .cons (OpS.V (.d (.one (lr K xs))) rfl) ?_
  refine .cons (OpS.V (.ptr 3 1) rfl) ?_
  refine .cons (OpS.V (.d (.one (lr L ys))) rfl) ?_
  refine .cons (OpS.C0 (aLMul (islv K xs) (islv L ys) (M := (K + L)) (by omega) (by omega) (by omega)) rfl rfl rfl) ?_
  refine .cons (OpS.V (.ptr 2 0) rfl) ?_
  refine .cons (OpS.V (.d (.one (.v (.bool s)))) rfl) ?_
  refine .cons (OpS.V (.ptr 3 0) rfl) ?_
  refine .cons (OpS.V (.d (.one (.v (.bool t)))) rfl) ?_
  refine .cons (OpS.V (.d (.one (.v (.bool (!(s == t)))))) rfl) ?_
  refine .cons (OpS.C0 (aMade (K := (K + L)) (m := ((val xs) * (val ys))) (neg := !(s == t)) rfl) rfl rfl rfl) ?_
  refine .nil ?_
  refine mS hTT 4 (.box 36 (zn (K + L) (zv (!(s == t)) ((val xs) * (val ys))))) rfl ?_
  refine mNil ?_
  refine tN ?_
  refine cRet ?_
  exact rQ rfl (le_zn hM (zv_mul _ _ _ _))

set_option maxRecDepth 100000 in
set_option maxHeartbeats 4000000 in
theorem aSgn {a : List Lf} {K : Nat} {x : Int} (ha : IsZ a K x) (hK : K ≤ 1073741824 := by decide) : ACall Try.prog 82 [.agg a] (.d (.one (.v (.int .i64 (sgn x))))) := by
  obtain ⟨s, xs, ha, rfl⟩ := ha
  refine ACall.le (dl (DV.z ha) dl0) AV.le.rfl ?_
  refine acallN hTT 11 [.tmp 2] Try.func82 rfl rfl rfl rfl rfl ?_
  refine cSeq ?_
  refine cReg ?_
  refine mN hTT (.box 36 ([.v (.bool s), lr K xs])) rfl rfl rfl ?_
  refine mV hTT _ rfl ?_
  refine mNil ?_
  refine tN ?_
  refine cSeq ?_
  refine cBlock ?_
  refine cSeq ?_
  refine cReg ?_
  refine mV hTT (.ptr 1 1) rfl ?_
  refine mV hTT (.d (.one (lr K xs))) rfl ?_
  refine mC0 (aLBits (islv K xs) (by omega)) rfl rfl rfl ?_
  refine mV hTT (.d (.one (.v (.bool (((nbits (val xs) : Nat) : Int) == 0))))) rfl ?_
  refine mV hTT _ rfl ?_
  refine mNil ?_
  refine tN ?_
  refine cCond rfl (fun hc1 => ?_) (fun hc1 => ?_)
  · skip
    refine cSeq ?_
    refine cReg ?_
    refine mV hTT _ rfl ?_
    refine mNil ?_
    refine tN ?_
    refine cRet ?_
    refine bR ?_
    refine tR ?_
    exact rQ rfl (le_int (by have h0 := nbits_zero_iff (val xs); simp only [beq_iff_eq, beq_eq_false_iff_ne, ne_eq, bne_iff_ne, bne_eq_false_iff_eq, decide_eq_true_eq, decide_eq_false_iff_not] at hc1; unfold sgn zv; cases s <;> (repeat' split) <;> first | omega | (exfalso; simp at *; done) | (simp at *; omega)))
  · skip
    refine cSeq ?_
    refine cReg ?_
    refine mV hTT (.ptr 1 0) rfl ?_
    refine mV hTT (.d (.one (.v (.bool s)))) rfl ?_
    refine mV hTT _ rfl ?_
    refine mNil ?_
    refine tN ?_
    refine cCond rfl (fun hc2 => ?_) (fun hc2 => ?_)
    · skip
      refine cSeq ?_
      refine cReg ?_
      refine mV hTT _ rfl ?_
      refine mNil ?_
      refine tN ?_
      refine cRet ?_
      refine bR ?_
      refine tR ?_
      exact rQ rfl (le_int (by have h0 := nbits_zero_iff (val xs); simp only [beq_iff_eq, beq_eq_false_iff_ne, ne_eq, bne_iff_ne, bne_eq_false_iff_eq, decide_eq_true_eq, decide_eq_false_iff_not] at hc1 hc2; unfold sgn zv; cases s <;> (repeat' split) <;> first | omega | (exfalso; simp at *; done) | (simp at *; omega)))
    · skip
      refine cSkip ?_
      refine bN ?_
      refine tN ?_
      refine cSeq ?_
      refine cReg ?_
      refine mV hTT _ rfl ?_
      refine mNil ?_
      refine tN ?_
      refine cRet ?_
      exact rQ rfl (le_int (by have h0 := nbits_zero_iff (val xs); simp only [beq_iff_eq, beq_eq_false_iff_ne, ne_eq, bne_iff_ne, bne_eq_false_iff_eq, decide_eq_true_eq, decide_eq_false_iff_not] at hc1 hc2; unfold sgn zv; cases s <;> (repeat' split) <;> first | omega | (exfalso; simp at *; done) | (simp at *; omega)))

set_option maxRecDepth 100000 in
set_option maxHeartbeats 4000000 in
theorem aCmp {a b : List Lf} {K L : Nat} {x y : Int} (ha : IsZ a K x) (hb : IsZ b L y) (hK : K ≤ 1073741824 := by decide) (hL : L ≤ 1073741824 := by decide) : ACall Try.prog 37 [.agg a, .agg b] (.d (.one (.v (.int .i64 (cmpZ x y))))) := by
  obtain ⟨s, xs, ha, hx⟩ := ha
  obtain ⟨t, ys, hb, hy⟩ := hb
  refine ACall.le (dl (DV.z ha) (dl (DV.z hb) dl0)) AV.le.rfl ?_
  have hxa : val xs = x.natAbs := by rw [← hx, zv_abs]
  have hya : val ys = y.natAbs := by rw [← hy, zv_abs]
  refine acallN hTT 32 [.tmp 4] Try.func37 rfl rfl rfl rfl rfl ?_
  refine cSeq ?_
  refine cReg ?_
  refine mN hTT (.box 36 ([.v (.bool s), lr K xs])) rfl rfl rfl ?_
  refine mN hTT (.box 36 ([.v (.bool t), lr L ys])) rfl rfl rfl ?_
  refine mV hTT _ rfl ?_
  refine mNil ?_
  refine tN ?_
  refine cSeq ?_
  refine cDrawK hTT 6 (by kernel_rfl) (by kernel_rfl) (by kernel_rfl) ?_
  refine .cons (OpS.V (.d (.agg ([.v (.bool s), lr K xs]))) rfl) ?_
  refine .cons (OpS.C0 (aSgn ⟨s, xs, fun _ _ _ h => h, hx⟩ (by omega)) rfl rfl rfl) ?_
  refine .cons (OpS.V (.d (.agg ([.v (.bool t), lr L ys]))) rfl) ?_
  refine .cons (OpS.C0 (aSgn ⟨t, ys, fun _ _ _ h => h, hy⟩ (by omega)) rfl rfl rfl) ?_
  refine .cons (OpS.V _ rfl) ?_
  refine .cons (OpS.V _ rfl) ?_
  refine .nil ?_
  refine mNil ?_
  refine tN ?_
  refine cSeq ?_
  refine cBlock ?_
  refine cSeq ?_
  refine cReg ?_
  refine mV hTT _ rfl ?_
  refine mV hTT _ rfl ?_
  refine mV hTT (.d (.one (.v (.bool (decide ((sgn x) < (sgn y))))))) rfl ?_
  refine mV hTT _ rfl ?_
  refine mNil ?_
  refine tN ?_
  refine cCond rfl (fun hc1 => ?_) (fun hc1 => ?_)
  · skip
    refine cSeq ?_
    refine cReg ?_
    refine mV hTT _ rfl ?_
    refine mNil ?_
    refine tN ?_
    refine cRet ?_
    refine bR ?_
    refine tR ?_
    exact rQ rfl (le_int (by simp only [decide_eq_true_eq, decide_eq_false_iff_not] at hc1; (try rw [hxa, hya]); simp only [sgn, cmpZ] at *; (repeat' split at *) <;> omega))
  · skip
    refine cSeq ?_
    refine cReg ?_
    refine mV hTT _ rfl ?_
    refine mV hTT _ rfl ?_
    refine mV hTT (.d (.one (.v (.bool (decide ((sgn x) > (sgn y))))))) rfl ?_
    refine mV hTT _ rfl ?_
    refine mNil ?_
    refine tN ?_
    refine cCond rfl (fun hc2 => ?_) (fun hc2 => ?_)
    · skip
      refine cSeq ?_
      refine cReg ?_
      refine mV hTT _ rfl ?_
      refine mNil ?_
      refine tN ?_
      refine cRet ?_
      refine bR ?_
      refine tR ?_
      exact rQ rfl (le_int (by simp only [decide_eq_true_eq, decide_eq_false_iff_not] at hc1 hc2; (try rw [hxa, hya]); simp only [sgn, cmpZ] at *; (repeat' split at *) <;> omega))
    · skip
      refine cSeq ?_
      refine cReg ?_
      refine mV hTT _ rfl ?_
      refine mV hTT (.d (.one (.v (.bool (decide ((sgn x) < 0)))))) rfl ?_
      refine mV hTT _ rfl ?_
      refine mNil ?_
      refine tN ?_
      refine cCond rfl (fun hc3 => ?_) (fun hc3 => ?_)
      · skip
        refine cSeq ?_
        refine cReg ?_
        refine mV hTT (.ptr 3 1) rfl ?_
        refine mV hTT (.d (.one (lr L ys))) rfl ?_
        refine mV hTT (.ptr 2 1) rfl ?_
        refine mV hTT (.d (.one (lr K xs))) rfl ?_
        refine mC0 (aLCmp (islv L ys) (islv K xs) (by omega) (by omega)) rfl rfl rfl ?_
        refine mV hTT _ rfl ?_
        refine mNil ?_
        refine tN ?_
        refine cRet ?_
        refine bR ?_
        refine tR ?_
        exact rQ rfl (le_int (by simp only [decide_eq_true_eq, decide_eq_false_iff_not] at hc1 hc2 hc3; (try rw [hxa, hya]); simp only [sgn, cmpZ] at *; (repeat' split at *) <;> omega))
      · skip
        refine cSkip ?_
        refine bN ?_
        refine tN ?_
        refine cSeq ?_
        refine cReg ?_
        refine mV hTT (.ptr 2 1) rfl ?_
        refine mV hTT (.d (.one (lr K xs))) rfl ?_
        refine mV hTT (.ptr 3 1) rfl ?_
        refine mV hTT (.d (.one (lr L ys))) rfl ?_
        refine mC0 (aLCmp (islv K xs) (islv L ys) (by omega) (by omega)) rfl rfl rfl ?_
        refine mV hTT _ rfl ?_
        refine mNil ?_
        refine tN ?_
        refine cRet ?_
        exact rQ rfl (le_int (by simp only [decide_eq_true_eq, decide_eq_false_iff_not] at hc1 hc2 hc3; (try rw [hxa, hya]); simp only [sgn, cmpZ] at *; (repeat' split at *) <;> omega))

set_option maxRecDepth 100000 in
set_option maxHeartbeats 4000000 in
theorem aRFrom {a : List Lf} {K M : Nat} {x : Int} (ha : IsZ a K x) (hM : 3 * K ≤ M := by decide) (hK : K ≤ 100000000 := by decide) : ACall Try.prog 70 [.agg a] (.d (.agg (rn M x))) := by
  obtain ⟨s, xs, ha, rfl⟩ := ha
  refine ACall.le (dl (DV.z ha) dl0) AV.le.rfl ?_
  refine acallN hTT 9 [.cell 2 42] Try.func70 rfl rfl rfl rfl rfl ?_
  refine cSeq ?_
  refine cReg ?_
  refine mN hTT (.box 36 ([.v (.bool s), lr K xs])) rfl rfl rfl ?_
  refine mN hTT (.box 42 ([.v (.slice none 0 0), .v (.bool false)])) rfl rfl rfl ?_
  refine mNil ?_
  refine tN ?_
  refine cSeq ?_
  refine cDrawK hTT 6 (by kernel_rfl) (by kernel_rfl) (by kernel_rfl) ?_
  refine .cons (OpS.V (.ptr 1 1) rfl) ?_
  refine .cons (OpS.V (.d (.one (lr K xs))) rfl) ?_
  refine .cons (OpS.C0 (aNFrom (islv K xs) (M := (3 * K)) (by omega) (by omega)) rfl rfl rfl) ?_
  refine .cons (OpS.V (.ptr 1 0) rfl) ?_
  refine .cons (OpS.V (.d (.one (.v (.bool s)))) rfl) ?_
  refine .cons (OpS.C0 (aRMade (K := (3 * K)) (m := (val xs)) (neg := s) rfl) rfl rfl rfl) ?_
  refine .nil ?_
  refine mS hTT 2 (.box 42 (rn (3 * K) (zv s (val xs)))) rfl ?_
  refine mNil ?_
  refine tN ?_
  refine cRet ?_
  exact rQ rfl (le_rn hM rfl)

set_option maxRecDepth 100000 in
set_option maxHeartbeats 4000000 in
theorem aRNeg {a : List Lf} {K M : Nat} {x : Int} (ha : IsR a K x) (hM : K ≤ M := by decide) (hK : K ≤ 1073741824 := by decide) : ACall Try.prog 33 [.agg a] (.d (.agg (rn M (-x)))) := by
  refine ACall.le (dl (DV.g ha) dl0) AV.le.rfl ?_
  refine acallN hTT 9 [.cell 2 42] Try.func33 rfl rfl rfl rfl rfl ?_
  refine cSeq ?_
  refine cReg ?_
  refine mN hTT (.box 42 (rn K x)) rfl rfl rfl ?_
  refine mN hTT (.box 42 ([.v (.slice none 0 0), .v (.bool false)])) rfl rfl rfl ?_
  refine mNil ?_
  refine tN ?_
  refine cSeq ?_
  refine cReg ?_
  refine mV hTT (.ptr 1 0) rfl ?_
  refine mV hTT (.d (.one (dn K x.natAbs))) rfl ?_
  refine mV hTT (.ptr 1 1) rfl ?_
  refine mV hTT (.d (.one (.v (.bool (decide (x < 0)))))) rfl ?_
  refine mV hTT (.d (.one (.v (.bool (!(decide (x < 0))))))) rfl ?_
  refine mC0 (aRMade (K := K) (m := x.natAbs) (neg := !(decide (x < 0))) rfl) rfl rfl rfl ?_
  refine mS hTT 2 (.box 42 (rn K (zv (!(decide (x < 0))) x.natAbs))) rfl ?_
  refine mNil ?_
  refine tN ?_
  refine cRet ?_
  exact rQ rfl (le_rn hM (by unfold zv; by_cases h : x < 0 <;> simp [h] <;> omega))

set_option maxRecDepth 100000 in
set_option maxHeartbeats 4000000 in
theorem aRAdd {a b : List Lf} {K L M : Nat} {x y : Int} (ha : IsR a K x) (hb : IsR b L y) (hM : max K L + 1 ≤ M := by decide) (hK : K ≤ 1073741824 := by decide) (hL : L ≤ 1073741824 := by decide) : ACall Try.prog 28 [.agg a, .agg b] (.d (.agg (rn M (x + y)))) := by
  refine ACall.le (dl (DV.g ha) (dl (DV.g hb) dl0)) AV.le.rfl ?_
  refine acallN hTT 40 [.cell 4 42] Try.func28 rfl rfl rfl rfl rfl ?_
  refine cSeq ?_
  refine cReg ?_
  refine mN hTT (.box 42 (rn K x)) rfl rfl rfl ?_
  refine mN hTT (.box 42 (rn L y)) rfl rfl rfl ?_
  refine mN hTT (.box 42 ([.v (.slice none 0 0), .v (.bool false)])) rfl rfl rfl ?_
  refine mNil ?_
  refine tN ?_
  refine cSeq ?_
  refine cSeq ?_
  refine cReg ?_
  refine mV hTT (.ptr 2 1) rfl ?_
  refine mV hTT (.d (.one (.v (.bool (decide (x < 0)))))) rfl ?_
  refine mV hTT (.ptr 3 1) rfl ?_
  refine mV hTT (.d (.one (.v (.bool (decide (y < 0)))))) rfl ?_
  refine mV hTT (.d (.one (.v (.bool ((decide (x < 0)) == (decide (y < 0))))))) rfl ?_
  refine mNil ?_
  refine tN ?_
  refine cCond rfl (fun hc1 => ?_) (fun hc1 => ?_)
  · skip
    refine cSeq ?_
    refine cDrawK hTT 8 (by kernel_rfl) (by kernel_rfl) (by kernel_rfl) ?_
    refine .cons (OpS.V (.ptr 2 0) rfl) ?_
    refine .cons (OpS.V (.d (.one (dn K x.natAbs))) rfl) ?_
    refine .cons (OpS.V (.ptr 3 0) rfl) ?_
    refine .cons (OpS.V (.d (.one (dn L y.natAbs))) rfl) ?_
    refine .cons (OpS.C0 (aNAdd (isd K x.natAbs) (isd L y.natAbs) (M := (max K L + 1)) (by omega) (by omega) (by omega)) rfl rfl rfl) ?_
    refine .cons (OpS.V (.ptr 2 1) rfl) ?_
    refine .cons (OpS.V (.d (.one (.v (.bool (decide (x < 0)))))) rfl) ?_
    refine .cons (OpS.C0 (aRMade (K := (max K L + 1)) (m := (x.natAbs + y.natAbs)) (neg := decide (x < 0)) rfl) rfl rfl rfl) ?_
    refine .nil ?_
    refine mS hTT 4 (.box 42 (rn (max K L + 1) (zv (decide (x < 0)) (x.natAbs + y.natAbs)))) rfl ?_
    refine mNil ?_
    refine tN ?_
    refine cRet ?_
    refine tR ?_
    exact rQ rfl (le_rn hM ((zv_add _ _ _ _ hc1).trans (by rw [← zvz x, ← zvz y])))
  · skip
    refine cSkip ?_
    refine tN ?_
    refine cSeq ?_
    refine cSeq ?_
    refine cReg ?_
    refine mV hTT (.ptr 2 0) rfl ?_
    refine mV hTT (.d (.one (dn K x.natAbs))) rfl ?_
    refine mV hTT (.ptr 3 0) rfl ?_
    refine mV hTT (.d (.one (dn L y.natAbs))) rfl ?_
    refine mC0 (aNCmp (isd K x.natAbs) (isd L y.natAbs) (by omega) (by omega)) rfl rfl rfl ?_
    refine mV hTT (.d (.one (.v (.bool (decide ((cmpZ x.natAbs y.natAbs) ≥ 0)))))) rfl ?_
    refine mNil ?_
    refine tN ?_
    refine cCond rfl (fun hc2 => ?_) (fun hc2 => ?_)
    · skip
      refine cSeq ?_
      refine cDrawK hTT 8 (by kernel_rfl) (by kernel_rfl) (by kernel_rfl) ?_
      refine .cons (OpS.V (.ptr 2 0) rfl) ?_
      refine .cons (OpS.V (.d (.one (dn K x.natAbs))) rfl) ?_
      refine .cons (OpS.V (.ptr 3 0) rfl) ?_
      refine .cons (OpS.V (.d (.one (dn L y.natAbs))) rfl) ?_
      refine .cons (OpS.C0 (aNSub (isd K x.natAbs) (isd L y.natAbs) (by have h := hc2; simp [cmpZ] at h; (repeat' split at h) <;> omega) (M := K) (by omega) (by omega) (by omega)) rfl rfl rfl) ?_
      refine .cons (OpS.V (.ptr 2 1) rfl) ?_
      refine .cons (OpS.V (.d (.one (.v (.bool (decide (x < 0)))))) rfl) ?_
      refine .cons (OpS.C0 (aRMade (K := K) (m := (x.natAbs - y.natAbs)) (neg := decide (x < 0)) rfl) rfl rfl rfl) ?_
      refine .nil ?_
      refine mS hTT 4 (.box 42 (rn K (zv (decide (x < 0)) (x.natAbs - y.natAbs)))) rfl ?_
      refine mNil ?_
      refine tN ?_
      refine cRet ?_
      refine tR ?_
      exact rQ rfl (le_rn (by omega) ((zv_sub1 _ _ _ _ hc1 (by have h := hc2; simp [cmpZ] at h; (repeat' split at h) <;> omega)).trans (by rw [← zvz x, ← zvz y])))
    · skip
      refine cSkip ?_
      refine tN ?_
      refine cSeq ?_
      refine cDrawK hTT 8 (by kernel_rfl) (by kernel_rfl) (by kernel_rfl) ?_
      refine .cons (OpS.V (.ptr 3 0) rfl) ?_
      refine .cons (OpS.V (.d (.one (dn L y.natAbs))) rfl) ?_
      refine .cons (OpS.V (.ptr 2 0) rfl) ?_
      refine .cons (OpS.V (.d (.one (dn K x.natAbs))) rfl) ?_
      refine .cons (OpS.C0 (aNSub (isd L y.natAbs) (isd K x.natAbs) (by have h := hc2; simp [cmpZ] at h; (repeat' split at h) <;> omega) (M := L) (by omega) (by omega) (by omega)) rfl rfl rfl) ?_
      refine .cons (OpS.V (.ptr 3 1) rfl) ?_
      refine .cons (OpS.V (.d (.one (.v (.bool (decide (y < 0)))))) rfl) ?_
      refine .cons (OpS.C0 (aRMade (K := L) (m := (y.natAbs - x.natAbs)) (neg := decide (y < 0)) rfl) rfl rfl rfl) ?_
      refine .nil ?_
      refine mS hTT 4 (.box 42 (rn L (zv (decide (y < 0)) (y.natAbs - x.natAbs)))) rfl ?_
      refine mNil ?_
      refine tN ?_
      refine cRet ?_
      exact rQ rfl (le_rn (by omega) ((zv_sub2 _ _ _ _ hc1 (by have h := hc2; simp [cmpZ] at h; (repeat' split at h) <;> omega)).trans (by rw [← zvz x, ← zvz y])))

set_option maxRecDepth 100000 in
set_option maxHeartbeats 4000000 in
theorem aRSub {a b : List Lf} {K L M : Nat} {x y : Int} (ha : IsR a K x) (hb : IsR b L y) (hM : max K L + 1 ≤ M := by decide) (hK : K ≤ 1073741824 := by decide) (hL : L ≤ 1073741824 := by decide) : ACall Try.prog 29 [.agg a, .agg b] (.d (.agg (rn M (x - y)))) := by
  refine ACall.le (dl (DV.g ha) (dl (DV.g hb) dl0)) AV.le.rfl ?_
  refine acallN hTT 9 [.cell 4 42] Try.func29 rfl rfl rfl rfl rfl ?_
  refine cSeq ?_
  refine cReg ?_
  refine mN hTT (.box 42 (rn K x)) rfl rfl rfl ?_
  refine mN hTT (.box 42 (rn L y)) rfl rfl rfl ?_
  refine mN hTT (.box 42 ([.v (.slice none 0 0), .v (.bool false)])) rfl rfl rfl ?_
  refine mNil ?_
  refine tN ?_
  refine cSeq ?_
  refine cDrawK hTT 4 (by kernel_rfl) (by kernel_rfl) (by kernel_rfl) ?_
  refine .cons (OpS.V (.d (.agg (rn K x))) rfl) ?_
  refine .cons (OpS.V (.d (.agg (rn L y))) rfl) ?_
  refine .cons (OpS.C0 (aRNeg (isr L y) (M := L) (by omega) (by omega)) rfl rfl rfl) ?_
  refine .cons (OpS.C0 (aRAdd (isr K x) (isr L (-y)) (M := (max K L + 1)) (by omega) (by omega) (by omega)) rfl rfl rfl) ?_
  refine .nil ?_
  refine mS hTT 4 (.box 42 (rn (max K L + 1) (x + (-y)))) rfl ?_
  refine mNil ?_
  refine tN ?_
  refine cRet ?_
  exact rQ rfl (le_rn hM (by omega))

set_option maxRecDepth 100000 in
set_option maxHeartbeats 4000000 in
theorem aRMul {a b : List Lf} {K L M : Nat} {x y : Int} (ha : IsR a K x) (hb : IsR b L y) (hM : K + L ≤ M := by decide) (hK : K ≤ 1073741824 := by decide) (hL : L ≤ 1073741824 := by decide) : ACall Try.prog 31 [.agg a, .agg b] (.d (.agg (rn M (x * y)))) := by
  refine ACall.le (dl (DV.g ha) (dl (DV.g hb) dl0)) AV.le.rfl ?_
  refine acallN hTT 16 [.cell 4 42] Try.func31 rfl rfl rfl rfl rfl ?_
  refine cSeq ?_
  refine cReg ?_
  refine mN hTT (.box 42 (rn K x)) rfl rfl rfl ?_
  refine mN hTT (.box 42 (rn L y)) rfl rfl rfl ?_
  refine mN hTT (.box 42 ([.v (.slice none 0 0), .v (.bool false)])) rfl rfl rfl ?_
  refine mNil ?_
  refine tN ?_
  refine cSeq ?_
  refine cDrawK hTT 11 (by kernel_rfl) (by kernel_rfl) (by kernel_rfl) ?_
  refine .cons (OpS.V (.ptr 2 0) rfl) ?_
  refine .cons (OpS.V (.d (.one (dn K x.natAbs))) rfl) ?_
  refine .cons (OpS.V (.ptr 3 0) rfl) ?_
  refine .cons (OpS.V (.d (.one (dn L y.natAbs))) rfl) ?_
  refine .cons (OpS.C0 (aNMul (isd K x.natAbs) (isd L y.natAbs) (M := (K + L)) (by omega) (by omega) (by omega)) rfl rfl rfl) ?_
  refine .cons (OpS.V (.ptr 2 1) rfl) ?_
  refine .cons (OpS.V (.d (.one (.v (.bool (decide (x < 0)))))) rfl) ?_
  refine .cons (OpS.V (.ptr 3 1) rfl) ?_
  refine .cons (OpS.V (.d (.one (.v (.bool (decide (y < 0)))))) rfl) ?_
  refine .cons (OpS.V (.d (.one (.v (.bool (!((decide (x < 0)) == (decide (y < 0)))))))) rfl) ?_
  refine .cons (OpS.C0 (aRMade (K := (K + L)) (m := (x.natAbs * y.natAbs)) (neg := !((decide (x < 0)) == (decide (y < 0)))) rfl) rfl rfl rfl) ?_
  refine .nil ?_
  refine mS hTT 4 (.box 42 (rn (K + L) (zv (!((decide (x < 0)) == (decide (y < 0)))) (x.natAbs * y.natAbs)))) rfl ?_
  refine mNil ?_
  refine tN ?_
  refine cRet ?_
  exact rQ rfl (le_rn hM ((zv_mul _ _ _ _).trans (by rw [← zvz x, ← zvz y])))

set_option maxRecDepth 100000 in
set_option maxHeartbeats 4000000 in
theorem aRSign {a : List Lf} {K : Nat} {x : Int} (ha : IsR a K x) : ACall Try.prog 84 [.agg a] (.d (.one (.v (.int .i64 (sgn x))))) := by
  refine ACall.le (dl (DV.g ha) dl0) AV.le.rfl ?_
  refine acallN hTT 11 [.tmp 2] Try.func84 rfl rfl rfl rfl rfl ?_
  refine cSeq ?_
  refine cReg ?_
  refine mN hTT (.box 42 (rn K x)) rfl rfl rfl ?_
  refine mV hTT _ rfl ?_
  refine mNil ?_
  refine tN ?_
  refine cSeq ?_
  refine cBlock ?_
  refine cSeq ?_
  refine cReg ?_
  refine mV hTT (.ptr 1 0) rfl ?_
  refine mV hTT (.d (.one (dn K x.natAbs))) rfl ?_
  refine mV hTT (.d (.one (.v (.int .i64 ((digs4 x.natAbs).length : Int))))) rfl ?_
  refine mV hTT (.d (.one (.v (.bool (((digs4 x.natAbs).length : Int) == 0))))) rfl ?_
  refine mV hTT _ rfl ?_
  refine mNil ?_
  refine tN ?_
  refine cCond rfl (fun hc1 => ?_) (fun hc1 => ?_)
  · skip
    refine cSeq ?_
    refine cReg ?_
    refine mV hTT _ rfl ?_
    refine mNil ?_
    refine tN ?_
    refine cRet ?_
    refine bR ?_
    refine tR ?_
    exact rQ rfl (le_int (by have h0 := digs_len x.natAbs; simp only [beq_iff_eq, beq_eq_false_iff_ne, ne_eq, bne_iff_ne, bne_eq_false_iff_eq, decide_eq_true_eq, decide_eq_false_iff_not] at hc1; unfold sgn; (repeat' split) <;> omega))
  · skip
    refine cSeq ?_
    refine cReg ?_
    refine mV hTT (.ptr 1 1) rfl ?_
    refine mV hTT (.d (.one (.v (.bool (decide (x < 0)))))) rfl ?_
    refine mV hTT _ rfl ?_
    refine mNil ?_
    refine tN ?_
    refine cCond rfl (fun hc2 => ?_) (fun hc2 => ?_)
    · skip
      refine cSeq ?_
      refine cReg ?_
      refine mV hTT _ rfl ?_
      refine mNil ?_
      refine tN ?_
      refine cRet ?_
      refine bR ?_
      refine tR ?_
      exact rQ rfl (le_int (by have h0 := digs_len x.natAbs; simp only [beq_iff_eq, beq_eq_false_iff_ne, ne_eq, bne_iff_ne, bne_eq_false_iff_eq, decide_eq_true_eq, decide_eq_false_iff_not] at hc1 hc2; unfold sgn; (repeat' split) <;> omega))
    · skip
      refine cSkip ?_
      refine bN ?_
      refine tN ?_
      refine cSeq ?_
      refine cReg ?_
      refine mV hTT _ rfl ?_
      refine mNil ?_
      refine tN ?_
      refine cRet ?_
      exact rQ rfl (le_int (by have h0 := digs_len x.natAbs; simp only [beq_iff_eq, beq_eq_false_iff_ne, ne_eq, bne_iff_ne, bne_eq_false_iff_eq, decide_eq_true_eq, decide_eq_false_iff_not] at hc1 hc2; unfold sgn; (repeat' split) <;> omega))

set_option maxRecDepth 100000 in
set_option maxHeartbeats 4000000 in
theorem aRZero {a : List Lf} {K : Nat} {x : Int} (ha : IsR a K x) : ACall Try.prog 89 [.agg a] (.d (.one (.v (.bool (decide (x = 0)))))) := by
  refine ACall.le (dl (DV.g ha) dl0) AV.le.rfl ?_
  refine acallN hTT 7 [.tmp 2] Try.func89 rfl rfl rfl rfl rfl ?_
  refine cSeq ?_
  refine cReg ?_
  refine mN hTT (.box 42 (rn K x)) rfl rfl rfl ?_
  refine mV hTT _ rfl ?_
  refine mNil ?_
  refine tN ?_
  refine cSeq ?_
  refine cReg ?_
  refine mV hTT (.ptr 1 0) rfl ?_
  refine mV hTT (.d (.one (dn K x.natAbs))) rfl ?_
  refine mV hTT (.d (.one (.v (.int .i64 ((digs4 x.natAbs).length : Int))))) rfl ?_
  refine mV hTT (.d (.one (.v (.bool (((digs4 x.natAbs).length : Int) == 0))))) rfl ?_
  refine mV hTT _ rfl ?_
  refine mNil ?_
  refine tN ?_
  refine cRet ?_
  exact rQ rfl (le_bool (by have h0 := digs_len x.natAbs; rw [Bool.eq_iff_iff, beq_iff_eq, decide_eq_true_eq]; omega))

set_option maxRecDepth 100000 in
set_option maxHeartbeats 4000000 in
theorem aRCmp {a b : List Lf} {K L : Nat} {x y : Int} (ha : IsR a K x) (hb : IsR b L y) (hK : K ≤ 1000000000 := by decide) (hL : L ≤ 1000000000 := by decide) : ACall Try.prog 38 [.agg a, .agg b] (.d (.one (.v (.int .i64 (cmpZ x y))))) := by
  refine ACall.le (dl (DV.g ha) (dl (DV.g hb) dl0)) AV.le.rfl ?_
  refine acallN hTT 9 [.tmp 4] Try.func38 rfl rfl rfl rfl rfl ?_
  refine cSeq ?_
  refine cReg ?_
  refine mN hTT (.box 42 (rn K x)) rfl rfl rfl ?_
  refine mN hTT (.box 42 (rn L y)) rfl rfl rfl ?_
  refine mV hTT _ rfl ?_
  refine mNil ?_
  refine tN ?_
  refine cSeq ?_
  refine cReg ?_
  refine mV hTT (.d (.agg (rn K x))) rfl ?_
  refine mV hTT (.d (.agg (rn L y))) rfl ?_
  refine mC0 (aRSub (isr K x) (isr L y) (M := (max K L + 1)) (by omega) (by omega) (by omega)) rfl rfl rfl ?_
  refine mC0 (aRSign (isr (max K L + 1) (x - y))) rfl rfl rfl ?_
  refine mV hTT _ rfl ?_
  refine mNil ?_
  refine tN ?_
  refine cRet ?_
  exact rQ rfl (le_int (by simp only [sgn, cmpZ]; (repeat' split) <;> omega))

end Go.Proofs.Ytlkdlicbhhackaa

/-
  NUMBERS in new memory, by the machine.
-/
set_option linter.unusedVariables false
set_option linter.unusedSimpArgs false
namespace Go.Proofs.Ytlkdlicbhhackaa
open Go.RowKit

theorem isz_szr (k K : Nat) (s : Bool) (xs : List Nat) : IsZ [.v (.bool s), szr k K xs] K (zv s (val xs)) := ⟨s, xs, fun B w cs h => match cs, h with | [_, _], ⟨h1, h2, h3⟩ => ⟨h1, szr_le _ _ _ h2, h3⟩, rfl⟩
theorem isz_old (k K : Nat) (s : Bool) (xs : List Nat) : IsZ [.v (.bool s), old k (lr K xs)] K (zv s (val xs)) := ⟨s, xs, fun B w cs h => match cs, h with | [_, _], ⟨h1, h2, h3⟩ => ⟨h1, old_le _ _ _ h2, h3⟩, rfl⟩
theorem isz_olent (k K : Nat) (s : Bool) (xs : List Nat) : IsZ [.v (.bool s), old k (lentL K xs)] K (zv s (val xs)) := ⟨s, xs, fun B w cs h => match cs, h with | [_, _], ⟨h1, h2, h3⟩ => ⟨h1, lent_le _ _ _ (old_le _ _ _ h2), h3⟩, rfl⟩
theorem isn_nw (k K : Nat) (z : Int) : IsN (znw k K z) K z := znw_le
theorem DV.zs {k K : Nat} {a : List Lf} {s : Bool} {xs : List Nat} (h : ∀ B w cs, LsR B w a cs → LsR B w [.v (.bool s), lr K xs] cs) (hs : SzD k (.agg a)) : ∀ B w v, DR B w (.agg a) v → DR B w (.agg [.v (.bool s), szr k K xs]) v := by
  rintro B w v ⟨cs, e, hl⟩
  have hk := hs B w v ⟨cs, e, hl⟩
  refine ⟨cs, e, ?_⟩
  match cs, h B w cs hl with
  | [_, _], ⟨h1, h2, h3⟩ => exact ⟨h1, szr_in hk h2, h3⟩
set_option maxRecDepth 100000 in
set_option maxHeartbeats 4000000 in
theorem aMadeF {k K m : Nat} {neg : Bool} {z : Int} (hz : zv neg m = z) : ACall Try.prog 71 [.one (nl k K m), .one (.v (.bool neg))] (.d (.agg (znw k K z))) := by
  subst hz
  cases neg
  · skip
    refine acallN hTT 13 [.cell 4 36] Try.func71 rfl rfl rfl rfl rfl ?_
    refine cSeq ?_
    refine cReg ?_
    refine mN hTT (.box 36 ([.v (.bool false), .v (.slice none 0 0)])) rfl rfl rfl ?_
    refine mNil ?_
    refine tN ?_
    refine cSeq ?_
    refine cReg ?_
    refine mV hTT _ rfl ?_
    refine mV hTT _ rfl ?_
    refine mG rfl rfl ?_
    refine mG rfl rfl ?_
    refine mG rfl rfl ?_
    refine mV hTT _ rfl ?_
    refine mV hTT _ rfl ?_
    refine mV hTT (.d (.agg ([.v (.bool false), nl k K m]))) rfl ?_
    refine mS hTT 4 (.box 36 ([.v (.bool false), nl k K m])) rfl ?_
    refine mNil ?_
    refine tN ?_
    refine cRet ?_
    exact rQ rfl (le_madew (by simp [zv_neg]) (zv_abs _ _).symm)
  · skip
    refine acallN hTT 13 [.cell 4 36] Try.func71 rfl rfl rfl rfl rfl ?_
    refine cSeq ?_
    refine cReg ?_
    refine mN hTT (.box 36 ([.v (.bool false), .v (.slice none 0 0)])) rfl rfl rfl ?_
    refine mNil ?_
    refine tN ?_
    refine cSeq ?_
    refine cReg ?_
    refine mV hTT _ rfl ?_
    refine mV hTT _ rfl ?_
    refine mV hTT _ rfl ?_
    refine mV hTT (.d (.one (.v (.int .i64 ((limbs m).length : Int))))) rfl ?_
    refine mV hTT (.d (.one (.v (.bool (decide (((limbs m).length : Int) > 0)))))) rfl ?_
    refine mV hTT _ rfl ?_
    refine mV hTT _ rfl ?_
    refine mV hTT (.d (.agg ([.v (.bool (decide (((limbs m).length : Int) > 0))), nl k K m]))) rfl ?_
    refine mS hTT 4 (.box 36 ([.v (.bool (decide (((limbs m).length : Int) > 0))), nl k K m])) rfl ?_
    refine mNil ?_
    refine tN ?_
    refine cRet ?_
    exact rQ rfl (le_madew (by rw [zv_neg]; have := limbs_len m; rw [Bool.true_and, decide_eq_decide]; omega) (zv_abs _ _).symm)

set_option maxRecDepth 100000 in
set_option maxHeartbeats 4000000 in
theorem aNormF {a : List Lf} {k K : Nat} {x : Int} (ha : IsZ a K x) (hs : SzD k (.agg a)) (hK : K ≤ 1073741824 := by decide) : ACall Try.prog 36 [.agg a] (.d (.agg (znw k K x))) := by
  obtain ⟨s, xs, ha, rfl⟩ := ha
  refine ACall.le (dl (DV.zs ha hs) dl0) AV.le.rfl ?_
  refine acallN hTT 9 [.cell 2 36] Try.func36 rfl rfl rfl rfl rfl ?_
  refine cSeq ?_
  refine cReg ?_
  refine mN hTT (.box 36 ([.v (.bool s), szr k K xs])) rfl rfl rfl ?_
  refine mN hTT (.box 36 ([.v (.bool false), .v (.slice none 0 0)])) rfl rfl rfl ?_
  refine mNil ?_
  refine tN ?_
  refine cSeq ?_
  refine cDrawK hTT 6 (by kernel_rfl) (by kernel_rfl) (by kernel_rfl) ?_
  refine .cons (OpS.V (.ptr 1 1) rfl) ?_
  refine .cons (OpS.V (.d (.one (szr k K xs))) rfl) ?_
  refine .cons (OpS.C0 (aLNormF (isl_szr k K xs) szd_szr (by omega)) rfl rfl rfl) ?_
  refine .cons (OpS.V (.ptr 1 0) rfl) ?_
  refine .cons (OpS.V (.d (.one (.v (.bool s)))) rfl) ?_
  refine .cons (OpS.C0 (aMadeF (k := k) (K := K) (m := (val xs)) (neg := s) rfl) rfl rfl rfl) ?_
  refine .nil ?_
  refine mS hTT 2 (.box 36 (znw k K (zv s (val xs)))) rfl ?_
  refine mNil ?_
  refine tN ?_
  refine cRet ?_
  exact rQ rfl (AV.le.rfl)

set_option maxRecDepth 100000 in
set_option maxHeartbeats 4000000 in
theorem aAddF {a b : List Lf} {k K L M : Nat} {x y : Int} (ha : IsZ a K x) (hb : IsZ b L y) (hs : SzD k (.agg a)) (hM : max K L + 1 ≤ M := by decide) (hK : K ≤ 1073741824 := by decide) (hL : L ≤ 1073741824 := by decide) : ACall Try.prog 26 [.agg a, .agg b] (.d (.agg (znw k M (x + y)))) := by
  obtain ⟨s, xs, ha, rfl⟩ := ha
  obtain ⟨t, ys, hb, rfl⟩ := hb
  refine ACall.le (dl (DV.zs ha hs) (dl (DV.z hb) dl0)) AV.le.rfl ?_
  refine acallN hTT 47 [.cell 4 36] Try.func26 rfl rfl rfl rfl rfl ?_
  refine cSeq ?_
  refine cReg ?_
  refine mN hTT (.box 36 ([.v (.bool s), szr k K xs])) rfl rfl rfl ?_
  refine mN hTT (.box 36 ([.v (.bool t), lr L ys])) rfl rfl rfl ?_
  refine mN hTT (.box 36 ([.v (.bool false), .v (.slice none 0 0)])) rfl rfl rfl ?_
  refine mNil ?_
  refine tN ?_
  refine cSeq ?_
  refine cSeq ?_
  refine cReg ?_
  refine mV hTT (.ptr 2 0) rfl ?_
  refine mV hTT (.d (.one (.v (.bool s)))) rfl ?_
  refine mV hTT (.ptr 3 0) rfl ?_
  refine mV hTT (.d (.one (.v (.bool t)))) rfl ?_
  refine mV hTT (.d (.one (.v (.bool (s == t))))) rfl ?_
  refine mNil ?_
  refine tN ?_
  refine cCond rfl (fun hc1 => ?_) (fun hc1 => ?_)
  · skip
    refine cSeq ?_
    refine cDrawK hTT 8 (by kernel_rfl) (by kernel_rfl) (by kernel_rfl) ?_
    refine .cons (OpS.V (.ptr 2 1) rfl) ?_
    refine .cons (OpS.V (.d (.one (szr k K xs))) rfl) ?_
    refine .cons (OpS.V (.ptr 3 1) rfl) ?_
    refine .cons (OpS.V (.d (.one (lr L ys))) rfl) ?_
    refine .cons (OpS.C0 (aLAddF (isl_szr k K xs) (islv L ys) szd_szr (M := (max K L + 1)) (by omega) (by omega) (by omega)) rfl rfl rfl) ?_
    refine .cons (OpS.V (.ptr 2 0) rfl) ?_
    refine .cons (OpS.V (.d (.one (.v (.bool s)))) rfl) ?_
    refine .cons (OpS.C0 (aMadeF (k := k) (K := (max K L + 1)) (m := ((val xs) + (val ys))) (neg := s) rfl) rfl rfl rfl) ?_
    refine .nil ?_
    refine mS hTT 4 (.box 36 (znw k (max K L + 1) (zv s ((val xs) + (val ys))))) rfl ?_
    refine mNil ?_
    refine tN ?_
    refine cRet ?_
    refine tR ?_
    exact rQ rfl (le_znw hM (zv_add _ _ _ _ hc1))
  · skip
    refine cSkip ?_
    refine tN ?_
    refine cSeq ?_
    refine cSeq ?_
    refine cReg ?_
    refine mV hTT (.ptr 2 1) rfl ?_
    refine mV hTT (.d (.one (szr k K xs))) rfl ?_
    refine mV hTT (.ptr 3 1) rfl ?_
    refine mV hTT (.d (.one (lr L ys))) rfl ?_
    refine mC0 (aLSubF (isl_szr k K xs) (islv L ys) (Or.inl szd_szr) (by omega) (by omega)) rfl rfl rfl ?_
    refine mV hTT _ rfl ?_
    refine mV hTT _ rfl ?_
    refine mV hTT _ rfl ?_
    refine mV hTT _ rfl ?_
    refine mV hTT _ rfl ?_
    refine mNil ?_
    refine tN ?_
    refine cSeq ?_
    refine cReg ?_
    refine mV hTT _ rfl ?_
    refine mNil ?_
    refine tN ?_
    refine cCond rfl (fun hc2 => ?_) (fun hc2 => ?_)
    · skip
      refine cSeq ?_
      refine cReg ?_
      refine mV hTT _ rfl ?_
      refine mV hTT (.ptr 2 0) rfl ?_
      refine mV hTT (.d (.one (.v (.bool s)))) rfl ?_
      refine mC0 (aMadeF (k := k) (K := K) (m := ((val xs) - (val ys))) (neg := s) rfl) rfl rfl rfl ?_
      refine mS hTT 4 (.box 36 (znw k K (zv s ((val xs) - (val ys))))) rfl ?_
      refine mNil ?_
      refine tN ?_
      refine cRet ?_
      refine tR ?_
      exact rQ rfl (le_znw (by omega) (zv_sub1 _ _ _ _ hc1 (by simpa using hc2)))
    · skip
      refine cSkip ?_
      refine tN ?_
      refine cSeq ?_
      refine cReg ?_
      refine mV hTT (.ptr 3 1) rfl ?_
      refine mV hTT (.d (.one (lr L ys))) rfl ?_
      refine mV hTT (.ptr 2 1) rfl ?_
      refine mV hTT (.d (.one (szr k K xs))) rfl ?_
      refine mC0 (aLSubF (islv L ys) (isl_szr k K xs) (Or.inr szd_szr) (by omega) (by omega)) rfl rfl rfl ?_
      refine mV hTT _ rfl ?_
      refine mV hTT _ rfl ?_
      refine mV hTT _ rfl ?_
      refine mV hTT _ rfl ?_
      refine mV hTT _ rfl ?_
      refine mNil ?_
      refine tN ?_
      refine cSeq ?_
      refine cReg ?_
      refine mV hTT _ rfl ?_
      refine mV hTT (.ptr 3 0) rfl ?_
      refine mV hTT (.d (.one (.v (.bool t)))) rfl ?_
      refine mC0 (aMadeF (k := k) (K := L) (m := ((val ys) - (val xs))) (neg := t) rfl) rfl rfl rfl ?_
      refine mS hTT 4 (.box 36 (znw k L (zv t ((val ys) - (val xs))))) rfl ?_
      refine mNil ?_
      refine tN ?_
      refine cRet ?_
      exact rQ rfl (le_znw (by omega) (zv_sub2 _ _ _ _ hc1 (by simpa using hc2)))

end Go.Proofs.Ytlkdlicbhhackaa

/-
  THE ABSTRACT MACHINE, 16: rules for rows of symbolic length; tuples; plain law of division. No condition; nothing of the program.
-/
set_option linter.unusedVariables false
set_option linter.unusedSimpArgs false
namespace Go.Proofs.Ytlkdlicbhhackaa
open Go.RowKit

theorem dle {a b : DV} (h : AV.le (.d a) (.d b)) : ∀ B w v, DR B w a v → DR B w b v := fun B w v hv => h (fun _ => none) B w v hv
theorem le_tup {xs ys : List DV} (h : DsLe xs ys) : AV.le (.tup xs) (.tup ys) := fun ρ B w v ⟨cs, e, hl⟩ => ⟨cs, e, h.ok hl⟩

section
variable {T : TypeId → Option TI} {s : AS} {t e : TypeId} {ti te : TI} {x ix : Operand} {k : IntKind} {z : Int} {sz n id : Nat} {el : Nat → Nat → Lf}
theorem ixR (h1 : T t = some ti) (h2 : ti.elem = some e) (h3 : T e = some te) (h4 : ints2 s ix = some (k, z)) (h5 : geto s x = some (.d (.one (.row sz n el)))) (h6 : Nat.beq sz te.n = true) (hz : 0 ≤ z) (hz2 : z < (n : Int)) : evV T s (.indexAddr t x ix) = some (.d (.one (.at sz (el z.toNat)))) := by
  have h6' := Nat.eq_of_beq_eq_true h6
  simp only [evV, h1, h2, h3, h4, h5]
  rw [if_pos ⟨h6', hz, hz2⟩]; rfl
theorem ixO {e' : TypeId} (h1 : T t = some ti) (h2 : ti.elem = some e) (h3 : T e = some te) (h4 : ints2 s ix = some (k, z)) (h5 : geto s x = some (.own id)) (h7 : lk s.hp id = some (.row e' sz n el)) (h6 : Nat.beq sz te.n = true) (hz : 0 ≤ z) (hz2 : z < (n : Int)) : evV T s (.indexAddr t x ix) = some (.eptr id sz z.toNat 0) := by
  have h6' := Nat.eq_of_beq_eq_true h6
  simp only [evV, h1, h2, h3, h4, h5, h7]
  rw [if_pos ⟨h6', hz, hz2⟩]
theorem slR {hi : Operand} (h1 : T t = some ti) (h2 : ti.elem = some e) (h3 : T e = some te) (h4 : ints2 s hi = some (k, z)) (h5 : geto s x = some (.d (.one (.row sz n el)))) (h6 : Nat.beq sz te.n = true) (hz : 0 ≤ z) (hz2 : z ≤ (n : Int)) : evV T s (.slice t x none (some hi) none) = some (.d (.one (.row sz z.toNat el))) := by
  have h6' := Nat.eq_of_beq_eq_true h6
  simp only [evV, h1, h2, h3, h5, bndV, h4, if_pos hz]
  rw [if_pos ⟨h6', Nat.zero_le _, by omega⟩]
  show some (AV.d (.one (.row sz (z.toNat - 0) fun i j => el (0 + i) j))) = _
  simp only [Nat.sub_zero, Nat.zero_add]
theorem mkO {l c : Operand} {zl zc : Int} {k' : IntKind} {bts nn : Nat} {zz : List Value} (h1 : T t = some ti) (h2 : ti.elem = some e) (h3 : T e = some te) (h4 : ints2 s l = some (k, zl)) (h5 : ints2 s c = some (k', zc)) (h0 : 0 ≤ zl) (h6 : zl ≤ zc) (hb : te.bytes = bts) (hn : te.n = nn) (hzz : te.zero = zz) (h7 : (bts : Int) * zc ≤ 140737488355328) (h8 : zc ≤ 9223372036854775807) (h9 : Nat.beq te.zero.length te.n = true) : evN T s (.makeSlice t l c) = some (.row e nn zl.toNat fun _ j => .v ((zz[j]?).getD undef)) := by
  have h9' := Nat.eq_of_beq_eq_true h9
  subst hb; subst hn; subst hzz
  simp only [evN, h1, h2, h3, h4, h5]
  rw [if_pos ⟨h0, h6, h7, h8, h9'⟩]
end

theorem inc64 {i : Nat} (h : i < 1000000001 := by omega) : IntKind.i64.wrap ((i : Int) + 1) = ((i + 1 : Nat) : Int) := (wr64 (by omega) (by omega)).trans (by omega)

theorem leo_row0 {e : TypeId} {sz : Nat} {el el' : Nat → Nat → Lf} : AO.le (.row e sz 0 el) (.row e sz 0 el') := leo_row fun i hi => absurd hi (Nat.not_lt_zero _)

/-! ### Small numbers -/
theorem shr32 (m : Nat) : Int.fdiv (m : Int) (2 ^ (min (Int.toNat 32) 64)) = ((m / 4294967296 : Nat) : Int) := by
  rw [Int.fdiv_eq_ediv_of_nonneg _ (by decide)]; exact (Int.natCast_ediv m 4294967296).symm
theorem of_row {m : Nat} {el : Nat → Nat → Lf} (hm : m < 18446744073709551616) (h0 : el 0 0 = .v (.int .u32 ((m % 4294967296 : Nat) : Int)) := by rfl) (h1 : el 1 0 = .v (.int .u32 ((m / 4294967296 : Nat) : Int)) := by rfl) : IsL (.row 1 2 el) 2 m := by
  refine (isl_row (xs := [m % 4294967296, m / 4294967296]) rfl ?_ ?_).eq ?_
  · intro x hx
    simp only [B32]
    rcases List.mem_cons.1 hx with rfl | hx
    · exact Nat.mod_lt _ (by decide)
    · rcases List.mem_cons.1 hx with rfl | hx
      · omega
      · simp at hx
  · intro i hi
    match i, hi with
    | 0, _ => exact h0
    | 1, _ => exact h1
  · show m % 4294967296 + B32 * (m / 4294967296 + B32 * 0) = m
    simp only [B32]; omega
theorem one_row {el : Nat → Nat → Lf} (h0 : el 0 0 = .v (.int .u32 1) := by rfl) : IsL (.row 1 1 el) 1 1 := by
  refine (isl_row (xs := [1]) rfl ?_ ?_).eq rfl
  · intro x hx
    simp at hx; subst hx; decide
  · intro i hi
    have hi' : i < 1 := hi
    obtain rfl : i = 0 := by omega
    exact h0
theorem neg_wrap2 (n : Int) (h : n < 0) (h1 : -9223372036854775808 ≤ n) : IntKind.u64.wrap (0 - IntKind.u64.wrap n) = (n.natAbs : Int) := by
  rw [wrap_u64, wrap_u64]; omega
theorem pos_wrap2 (n : Int) (h : ¬ n < 0) (h1 : n ≤ 9223372036854775807) : IntKind.u64.wrap n = (n.natAbs : Int) := by
  rw [wrap_u64]; omega

/-! ### Division -/
theorem zv_ne {t : Bool} {n : Nat} (h : n ≠ 0) : (zv t n).natAbs = n ∧ zv t n ≠ 0 := ⟨zv_abs _ _, fun e => h (by rw [← zv_abs t n, e]; rfl)⟩
theorem dm1 (t : Bool) (m n : Nat) (hn : n ≠ 0) : zv (false != t) (m / n) = zv false m / zv t n ∧ zv false (modZ m n) = zv false m % zv t n := by
  have h := Nat.div_add_mod m n
  have hlt := Nat.mod_lt m (Nat.pos_of_ne_zero hn)
  refine euc ?_ ?_ ?_
  · unfold modZ; rw [if_neg hn]
    have h2 : ((n * (m / n) + m % n : Nat) : Int) = m := by rw [h]
    rw [Int.natCast_add, Int.natCast_mul] at h2
    cases t
    · exact h2.symm
    · show (m : Int) = -(n : Int) * -(((m / n : Nat)) : Int) + (m % n : Nat)
      rw [Int.neg_mul_neg]; exact h2.symm
  · show (0 : Int) ≤ (modZ m n : Nat); exact Int.natCast_nonneg _
  · rw [zv_abs]; show ((modZ m n : Nat) : Int) < _
    unfold modZ; rw [if_neg hn]; omega
theorem dm2 (t : Bool) (m n : Nat) (hn : n ≠ 0) (h0 : modZ m n = 0) : zv (true != t) (m / n) = zv true m / zv t n ∧ zv false (modZ m n) = zv true m % zv t n := by
  have h := Nat.div_add_mod m n
  have h0' : m % n = 0 := by unfold modZ at h0; rw [if_neg hn] at h0; exact h0
  rw [h0]
  refine euc ?_ (by decide) (by rw [zv_abs]; show (0 : Int) < _; omega)
  have h2 : ((n * (m / n) + m % n : Nat) : Int) = m := by rw [h]
  rw [h0', Nat.add_zero, Int.natCast_mul] at h2
  cases t
  · show -(m : Int) = (n : Int) * -(((m / n : Nat)) : Int) + (0 : Nat)
    rw [Int.mul_neg, h2]; simp
  · show -(m : Int) = -(n : Int) * (((m / n : Nat)) : Int) + (0 : Nat)
    rw [Int.neg_mul, h2]; simp
theorem dm3 (t : Bool) (m n : Nat) (hn : n ≠ 0) (h0 : 0 < modZ m n) : zv (true != t) (m / n + 1) = zv true m / zv t n ∧ zv false (n - modZ m n) = zv true m % zv t n := by
  have h := Nat.div_add_mod m n
  have hlt := Nat.mod_lt m (Nat.pos_of_ne_zero hn)
  have e : modZ m n = m % n := by unfold modZ; rw [if_neg hn]
  rw [e] at h0 ⊢
  refine euc ?_ ?_ ?_
  · have h2 : ((n * (m / n) + m % n : Nat) : Int) = m := by rw [h]
    rw [Int.natCast_add, Int.natCast_mul] at h2
    have h3 : ((n - m % n : Nat) : Int) = (n : Int) - (m % n : Nat) := by omega
    generalize m / n = q at h2 ⊢
    generalize m % n = r at h2 h3 ⊢
    cases t
    · show -(m : Int) = (n : Int) * -((((q + 1) : Nat)) : Int) + ((n - r : Nat) : Int)
      rw [h3, Int.natCast_add, Int.mul_neg, Int.mul_add]; simp; omega
    · show -(m : Int) = -(n : Int) * ((((q + 1) : Nat)) : Int) + ((n - r : Nat) : Int)
      rw [h3, Int.natCast_add, Int.neg_mul, Int.mul_add]; simp; omega
  · show (0 : Int) ≤ ((n - m % n : Nat) : Int); exact Int.natCast_nonneg _
  · rw [zv_abs]; show ((n - m % n : Nat) : Int) < _
    omega
/-- The greatest common divisor of the first n. -/
def gcdN (c : Nat → Int) : Nat → Nat
  | 0 => 0
  | n + 1 => Nat.gcd (gcdN c n) (c n).natAbs
theorem gcdN_one {c : Nat → Int} {k n : Nat} (h : gcdN c k = 1) (hk : k ≤ n) : gcdN c n = 1 := by
  obtain ⟨d, rfl⟩ := Nat.exists_eq_add_of_le hk
  clear hk
  induction d with
  | zero => exact h
  | succ d ih => show Nat.gcd (gcdN c (k + d)) _ = 1; rw [ih, Nat.gcd_one_left]
theorem limbs1 {m : Nat} : (limbs m).length = 1 ∧ (limbs m).getD 0 0 = 1 ↔ m = 1 := by
  constructor
  · rintro ⟨h1, h2⟩
    have h3 := val_limbs m
    match h : limbs m, h1 with
    | [x], _ =>
      rw [h] at h2 h3
      simp at h2
      subst h2
      rw [← h3]; rfl
  · rintro rfl; exact ⟨rfl, rfl⟩

/-! ### A region that draws, order by order -/
section
variable {P : Program} {ops : Array Oper} {Q : Qs} {s : AS}
def AllI (p : Nat → Prop) : List Nat → Prop
  | [] => True
  | i :: l => p i ∧ AllI p l
theorem AllI.get {p : Nat → Prop} : ∀ {l : List Nat}, AllI p l → ∀ i ∈ l, p i
  | i :: l, h, k, hk => by
    rcases List.mem_cons.1 hk with rfl | hk
    · exact h.1
    · exact AllI.get h.2 k hk
def AnyA (P : Program) (ops : Array Oper) (Q : Qs) : Nat → Array Bool → AS → Prop
  | 0, listed, s => Region.ready .any ops listed = [] ∧ Q .normal s
  | n + 1, listed, s => (Region.ready .any ops listed = [] → Q .normal s) ∧ ∀ i ∈ Region.ready .any ops listed, ∃ o, ops[i]? = some o ∧ AL P ops (thn (AnyA P ops Q n (listed.setIfInBounds i true)) Q) [o] s
theorem anyS {n : Nat} {listed : Array Bool} (rs : List Nat) (hr : Region.ready .any ops listed = rs) (hne : rs.isEmpty = false) (h : AllI (fun i => ∃ o, ops[i]? = some o ∧ AL P ops (thn (AnyA P ops Q n (listed.setIfInBounds i true)) Q) [o] s) rs) : AnyA P ops Q (n + 1) listed s :=
  ⟨fun e => absurd (hr.symm.trans e) (fun e2 => by subst e2; exact Bool.noConfusion hne), hr ▸ h.get⟩
theorem anyN {n : Nat} {listed : Array Bool} (hr : Region.ready .any ops listed = []) (h : Q .normal s) : AnyA P ops Q n listed s := by
  cases n with
  | zero => exact ⟨hr, h⟩
  | succ n => exact ⟨fun _ => h, by rw [hr]; intro i hi; simp at hi⟩
theorem any_sound {B0 : BS} {w0 : World} : ∀ (n : Nat) (listed : Array Bool) (s : AS) (a : Act) (w : World), AnyA P ops Q n listed s → Den s B0 w0 a w → wpAny P .any ops (DQ Q B0 w0) n listed a w
  | 0, listed, s, a, w, h, hd => ⟨h.1, s, h.2, hd⟩
  | n + 1, listed, s, a, w, h, hd => by
    refine ⟨fun e => ⟨s, h.1 e, hd⟩, fun i hi => ?_⟩
    obtain ⟨o, ho, hal⟩ := h.2 i hi
    have h1 := hal B0 w0 a w hd
    unfold wpOp
    rw [ho]
    simp only [wpList] at h1 ⊢
    have hk : ∀ a w, DQ (thn (AnyA P ops Q n (listed.setIfInBounds i true)) Q) B0 w0 .normal a w → wpAny P .any ops (DQ Q B0 w0) n (listed.setIfInBounds i true) a w := fun a w ⟨s', h3, h4⟩ => any_sound n _ s' a w h3 h4
    split
    · rename_i hw
      rw [if_pos hw] at h1
      rcases h1 with h1 | ⟨h1, h2⟩
      · refine Or.inl ?_
        have h3 := Oper.wp_mono hk h1
        unfold Oper.wp at h3 ⊢
        generalize (execOp a.eval o).run P w = r at h3 ⊢
        cases r <;> first | exact h3 | (rename_i x w'; cases x <;> exact h3)
      · exact Or.inr ⟨h1, h2⟩
    · rename_i hw
      rw [if_neg hw] at h1
      exact hk _ _ h1
theorem cAny {id : Nat} {l : List Oper} (hm : P.follows .mixedOrders = true) (h : AnyA P l.toArray Q l.length (Array.replicate l.length false) s) : AW P (.region id l.toArray true) Q s := by
  intro B0 w0 a w hd
  refine wp_region_any hm ?_
  have hd' : Den s B0 w0 a { w with drawn := w.drawn + 1 } := by
    obtain ⟨ρ, hc, hn, hdf, hs⟩ := hd
    have hK : Keep (Bd ρ B0) w w.drew := ⟨Nat.le_refl _, fun _ _ _ => rfl⟩
    exact ⟨ρ, ⟨hc.bel.drew, hc.b0, fun id v hv => let ⟨ob, h1, h2⟩ := hc.obj id v hv; ⟨ob, h1, h2.mv hK (fun _ _ hB => hB) (fun _ _ => rfl)⟩, hc.dist⟩, hn, hdf, fun t av ht => let ⟨v, h1, h2⟩ := hs t av ht; ⟨v, h1, AR.mv hK (fun _ _ hB => hB) (fun _ _ => rfl) h2⟩⟩
  have := any_sound (P := P) (ops := l.toArray) (Q := Q) l.length _ s a _ h hd'
  rwa [show l.length = l.toArray.size from rfl] at this
end
end Go.Proofs.Ytlkdlicbhhackaa

/-
  THE ABSTRACT MACHINE: a row in new memory is the frame's own; so many noughts are appended to it; a region that draws whose orders come together again. No condition.
-/
set_option linter.unusedVariables false
set_option linter.unusedSimpArgs false
namespace Go.Proofs.Ytlkdlicbhhackaa
open Go.RowKit

theorem zeroCells_one (z : Value) (k : Nat) : Builtin.zeroCells #[z] k = (List.replicate k z).toArray := by
  apply Array.toList_inj.1
  have h : ∀ i, [z][i % 1]?.getD default = z := by intro i; rw [Nat.mod_one]; rfl
  simp only [Builtin.zeroCells]
  refine List.ext_getElem (by simp) fun j h1 h2 => ?_
  simp [h]

theorem run_append_zeros_am {P : Program} (w : World) (base : Nat) (t tn ty e : TypeId) (i : TypeInfo) (z : Value) (kn : IntKind) (ht : P.underlying t = some (.slice e)) (htn : P.underlying tn = some (.int kn)) (hi : P.info? e = some i) (hz : i.zero = some z)
    (hsize : i.size = 1) (hzc : z.cells = #[z]) (hz1 : z.oneCell' = true)
    (v : Value) (n : Nat) (xs : List Value) (hown : w.ownsRow base e 1 v n xs)
    (k : Nat) (h63 : n + k ≤ maxLen) (hbytes : (n + k) * i.bytes ≤ 140737488355328) (hbase : base ≤ w.heap.size) :
    ∃ v' w', (Builtin.append_ #[t, tn] ty #[v, .int .i64 k]).run P w = .ok v' w' ∧ w'.ownsRow base e 1 v' (n + k) (xs ++ List.replicate k z) ∧ w.grownBy w' v.ownBlock ∧ (∀ b, vblk v' = some b → vblk v = some b ∨ w.heap.size ≤ b) := by
  have hsmall : n + k ≤ 9223372036854775807 := by simp only [maxLen] at h63; omega
  have hlen : (xs ++ List.replicate k z).length = (n + k) * 1 := by rw [List.length_append, hown.1, List.length_replicate]; omega
  have hbk : k * i.bytes ≤ 281474976710656 := by rw [Nat.add_mul] at hbytes; omega
  have grown : ∀ (old : Nat), old < n + k → ∀ (row : Option Nat),
      (w.drew.alloc (.cells (xs.toArray ++ Builtin.zeroCells z.cells k ++ Builtin.zeroCells z.cells (grownCap w (n + k) old e - (n + k))) e)).ownsRow base e 1
        (.slice (some ⟨w.heap.size, 0, none⟩) (n + k) (grownCap w (n + k) old e)) (n + k) (xs ++ List.replicate k z) ∧
      w.grownBy (w.drew.alloc (.cells (xs.toArray ++ Builtin.zeroCells z.cells k ++ Builtin.zeroCells z.cells (grownCap w (n + k) old e - (n + k))) e)) row := by
    intro old ho row
    have hge := grownCap_ge w (n + k) old e
    have hcm : grownCap w (n + k) old e ≤ maxLen := grownCap_le_maxLen w (n + k) old e h63
    rw [hzc, zeroCells_one, zeroCells_one]
    refine ⟨⟨hlen, .inr ⟨w.heap.size, _, _, rfl, hbase, heap_alloc_new w.drew _, hge, hcm, ?_, ?_⟩⟩, ⟨rfl, rfl, rfl, by simp, fun j hj _ => heap_alloc_old w.drew _ hj⟩⟩
    · simp only [Array.size_append, List.size_toArray, List.length_replicate, hown.1]
      omega
    · simp only [Array.toList_append, List.append_assoc]
      rw [← List.append_assoc, ← hlen]
      exact List.take_left
  rcases hown.2 with ⟨rfl, rfl⟩ | ⟨g, cap, cur, rfl, hbg, hg, hnc, hcm, hcs, htake⟩
  · have hx : xs = [] := List.eq_nil_of_length_eq_zero (by simpa using hown.1)
    subst hx
    by_cases hk : k = 0
    · subst hk
      refine ⟨.slice none 0 0, w, ?_, World.ownsRow_nil w base e 1, ⟨rfl, rfl, rfl, Nat.le_refl _, fun _ _ _ => rfl⟩, fun b e => by cases e⟩
      have hw : IntKind.i64.wrap 0 = 0 := by decide
      simp [Builtin.append_, run_underlying ht, run_underlying htn, sizeOf, typeInfo, hi, asInt, asIntOf, hw]
    · have hr := Go.Lib.run_append_nil_zeros (P := P) w t tn ty e i z .i64 kn ht htn hi hz k (by omega) (by omega) (by omega) hbk
      have hgr := grown 0 (by omega) (Value.ownBlock (.slice none 0 0))
      simp only [Nat.zero_add, List.nil_append, Array.empty_append] at hgr ⊢
      exact ⟨_, _, hr, hgr.1, hgr.2, fun b e => by cases e; exact Or.inr (Nat.le_refl _)⟩
  · have hw : IntKind.i64.wrap (k : Int) = k := by rw [IntKind.wrap_i64]; omega
    have hneg : ¬ ((k : Int) < 0) := by omega
    have h48i : ¬ (281474976710656 < (k : Int) * (i.bytes : Int)) := by rw [← Int.natCast_mul]; omega
    by_cases hroom : n + k ≤ cap
    · by_cases hk : k = 0
      · subst hk
        refine ⟨.slice (some ⟨g, 0, none⟩) n cap, w, ?_, by simpa using hown, ⟨rfl, rfl, rfl, Nat.le_refl _, fun _ _ _ => rfl⟩, fun b e => Or.inl e⟩
        have hw0 : IntKind.i64.wrap 0 = 0 := by decide
        simp [Builtin.append_, run_underlying ht, run_underlying htn, sizeOf, typeInfo, hi, asInt, asIntOf, hw0, hnc, storeCells]
      · have hfit : n * i.size + (List.replicate k z).length ≤ cur.size := by rw [hsize, List.length_replicate, hcs]; omega
        have hone : ∀ u ∈ List.replicate k z, u.oneCell' = true := fun u hu => by rw [(List.mem_replicate.1 hu).2]; exact hz1
        have hst := run_storeCells_at P g (n * i.size) e (List.replicate k z) 0 cur w hg (by simpa using hfit) hone
        simp only [Nat.add_zero] at hst
        have hns : ¬ (k * i.size = 0) := by rw [hsize]; omega
        have hr : (Builtin.append_ #[t, tn] ty #[.slice (some ⟨g, 0, none⟩) n cap, .int .i64 k]).run P w =
            .ok (.slice (some ⟨g, 0, none⟩) (n + k) cap) (w.setRow g (cur.toList.take (n * i.size) ++ List.replicate k z ++ cur.toList.drop (n * i.size + (List.replicate k z).length)).toArray) := by
          simp only [hsize] at hst hns ⊢
          simp [Builtin.append_, run_underlying ht, run_underlying htn, sizeOf, typeInfo, zeroValue, hi, hz, asInt, asIntOf, hw, hneg, hns, h48i, hsize, hk, hroom, hzc, zeroCells_one, Addr.add_lit, hst]
          rw [Nat.mul_one, List.length_replicate] at hst
          rw [hst]
          simp
        refine ⟨_, _, hr, ⟨hlen, .inr ⟨g, cap, _, rfl, hbg, setRow_heap w g cur _ e _ hg, hroom, hcm, ?_, ?_⟩⟩, ⟨rfl, rfl, rfl, by simp, fun j _ hj => ?_⟩, fun b e => Or.inl e⟩
        · simp only [List.size_toArray, List.length_append, List.length_take, List.length_drop, Array.length_toList, hsize, List.length_replicate] at *
          omega
        · rw [hsize, htake, ← hlen]
          exact List.take_left
        · exact setRow_other w g j _ (fun e => hj (by simp [Value.ownBlock, e]))
    · have holds : ∀ j u, xs[j]? = some u → w.cell? ((⟨g, 0, none⟩ : Addr).add j) = some u := hown.cells (g := g) rfl
      have hold := run_firstCells_some (P := P) w.drew i.size n ⟨g, 0, none⟩ n cap xs (by rw [hsize]; exact hown.1) holds
      have hr := Go.Lib.run_append_grow_zeros (P := P) w t tn ty e i z .i64 kn ht htn hi hz (some ⟨g, 0, none⟩) n cap xs hold k (by omega) (by omega) (by omega) (by omega) hbk (growslice_fits (by omega) hbytes)
      have hgr := grown cap (by omega) (Value.ownBlock (.slice (some ⟨g, 0, none⟩) n cap))
      exact ⟨_, _, hr, hgr.1, hgr.2, fun b e => by cases e; exact Or.inr (Nat.le_refl _)⟩

/-- APPEND of so many noughts (limbs) to a row of the frame's own. -/
theorem mAz {P : Program} {T : TypeId → Option TI} (hT : TOk P T) {ops : Array Oper} {Q : Qs} {o : Oper} {l : List Oper} {s : AS} {c : Call} {x y : Operand} {t e : TypeId} {ti te : TI} {id n m d : Nat} {el : Nat → Nat → Lf}
    (hx : geto s x = some (.own id)) (hob : lk s.hp id = some (.row e te.n n el)) (hy : ints2 s y = some (.i64, (m : Int))) (hsz1 : te.n = 1) {zv0 : Value} (hz0 : ∀ i, P.info? e = some i → i.zero = some zv0) (hc1 : zv0.cells = #[zv0]) (ho1 : zv0.oneCell' = true) {tn : TypeId} {tin : TI} (htn : T tn = some tin) (hik : tin.ik = some .i64) (hbd : (n + m) * te.bytes ≤ 140737488355328) (hmx : n + m ≤ 9223372036854775807) (hc : callOf o.op = some c) (hcal : c.callee = .builtin .append) (hargs : c.args.toList = [x, y]) (hty : c.argTypes.toList = [t, tn]) (hti : T t = some ti) (he : ti.elem = some e) (hte : T e = some te) (hz : Nat.beq te.zero.length te.n = true) (h0 : Nat.ble 1 te.n = true)
    (hdst : o.dst = some d) (k : AL P ops Q l ⟨s.n, (d, .own id) :: fzs id .dead (fun _ => .dead) s.sl, (id, .row e te.n (n + m) (appEl n el fun _ _ => .v zv0)) :: s.hp⟩) (hg : gst ops s o = some true := by rfl) (hd : dok (some d) s.n = true := by rfl) : AL P ops Q (o :: l) s := by
  rintro B0 w0 a w ⟨ρ, hcr, hn, hdf, hs⟩
  have hop : o.op = .call c := by
    unfold callOf at hc
    split at hc
    · rename_i h; cases hc; exact h
    · cases hc
  obtain ⟨hid, ad, n', cap, hxe⟩ := geto_ok hs hx
  obtain ⟨ob, o1, o2⟩ := hcr.obj id _ hid
  rw [hob] at o1
  cases o1
  obtain ⟨xs, hown, hel⟩ := o2
  have hye := ints2_ok hs hy
  obtain ⟨i, z, dd, h1, h2, h3, h4, h5, h6, h7, h8, h9, _⟩ := ti_parts (hT _ _ hti)
  have := h9 e he
  subst this
  obtain ⟨i', z', dd', k1, k2, k3, k4, k5, k6, k7, _⟩ := ti_parts (hT _ _ hte)
  have hzl : te.zero.length = te.n := Nat.eq_of_beq_eq_true hz
  have hsz : 0 < te.n := Nat.le_of_ble_eq_true h0
  have hzs : z'.cells.size = te.n := by rw [← hzl, ← k5]; simp
  obtain rfl : z' = zv0 := by have := hz0 _ k1; rw [k2] at this; cases this; rfl
  obtain ⟨in', zn', dn', n1, n2, n3, n4, n5, n6, n7, n8, n9, n10, _⟩ := ti_parts (hT _ _ htn)
  have hdn := n10 _ hik
  subst hdn
  have hsize : w0.heap.size ≤ w.heap.size := hcr.bel.size
  rw [hsz1] at hown hel
  obtain ⟨v', w', hr, hown', hgrow, hblk⟩ := run_append_zeros_am (P := P) w w0.heap.size t tn o.type e i' z' .i64 h3 n3 k1 k2 (k4.trans hsz1) hc1 ho1 (a.eval x) n xs hown m (by simp [maxLen]; omega) (by rw [k7]; exact hbd) hsize
  have hrun : (execOp a.eval o).run P w = .ok (.value v') w' := by
    have ha : c.args = #[x, y] := by rw [← Array.toList_inj]; exact hargs
    have ht : c.argTypes = #[t, tn] := by rw [← Array.toList_inj]; exact hty
    unfold execOp
    rw [hop]
    simp [resolve, hcal, invoke, builtin, ha, ht, hye, hr]
  have hvb : ∀ b, (a.eval x).ownBlock = some b → vblk (a.eval x) = some b := by
    intro b hb
    rw [hxe] at hb ⊢
    cases ad with
    | none => cases hb
    | some q => exact hb
  have hlt := hown.lt
  have hbel : Below w0.heap.size w0 w' := hcr.bel.trans ((Below.refl _ _).grown hgrow hsize (fun k hk => (hlt k hk).1))
  have hkeepb : ∀ b, b < w.heap.size → vblk (a.eval x) ≠ some b → w'.heap[b]? = w.heap[b]? := fun b hb hne => hgrow.block b hb (fun e => hne (hvb b e.symm))
  have hK : Keep (Bd ρ B0) w w' := ⟨hgrow.size, fun b hb hB => hkeepb b hb (fun e => hB (Or.inr ⟨id, _, hid, e⟩))⟩
  have hB' : ∀ b, b < w.heap.size → Bd (up ρ id v') B0 b → Bd ρ B0 b := by
    rintro b hb (h | ⟨k, u, q1, q2⟩)
    · exact Or.inl h
    · unfold up at q1
      split at q1
      · cases q1
        rcases hblk b q2 with q3 | q3
        · exact Or.inr ⟨id, _, hid, q3⟩
        · omega
      · exact Or.inr ⟨k, u, q1, q2⟩
  have hW := Core.write (v' := v') (ob' := .row e te.n (n + m) (appEl n el fun _ _ => .v z')) (hp' := (id, .row e te.n (n + m) (appEl n el fun _ _ => .v z')) :: s.hp) hcr hid (w' := w') hkeepb hgrow.size hbel hblk
    (fun k ob hk hne => by rw [lk_cons, if_neg (fun e => hne e.symm)]; exact hk) (by rw [lk_cons, if_pos rfl])
    ⟨xs ++ List.replicate m z', by rw [hsz1]; exact hown', fun p q hp hq => by
      have hxl := hown.1
      rw [hsz1] at hq ⊢
      obtain rfl : q = 0 := by omega
      rw [Nat.mul_one] at hxl
      by_cases hpn : p < n
      · obtain ⟨u, hu1, hu2⟩ := hel p 0 hpn (by omega)
        have hidx := (List.getElem?_eq_some_iff.1 hu1).1
        refine ⟨u, by rw [List.getElem?_append_left hidx]; exact hu1, ?_⟩
        have : appEl n el (fun _ _ => .v z') p 0 = el p 0 := by
          unfold appEl; rw [show Nat.ble (p + 1) n = true from Nat.ble_eq_true_of_le hpn]; rfl
        rw [this]
        exact LfR.mv hK hB' _ hu2
      · refine ⟨z', by rw [List.getElem?_append_right (by omega), List.getElem?_replicate, if_pos (by omega)], ?_⟩
        have : appEl n el (fun _ _ => .v z') p 0 = .v z' := by
          unfold appEl; rw [show Nat.ble (p + 1) n = false from by rw [← Bool.not_eq_true]; exact fun h => hpn (Nat.le_of_ble_eq_true h)]; rfl
        rw [this]
        exact ⟨rfl, ho1⟩⟩
  refine wpl_value (gst_ok hg hs) hrun (k B0 w0 _ w' ⟨up ρ id v', hW.1, by rw [hdst]; show (a.tmps.setIfInBounds d v').size = s.n; simpa using hn, by rw [hdst]; exact hdf, ?_⟩)
  rw [hdst]
  have hsl2 : Slots (up ρ id v') (Bd (up ρ id v') B0) w' (fzs id .dead (fun _ => .dead) s.sl) a := by
    intro u av hu
    obtain ⟨av', q1, rfl⟩ := lk_fzs _ _ _ hu
    obtain ⟨v, q2, q3⟩ := hs u av' q1
    refine ⟨v, q2, ?_⟩
    have keep : (∀ k, av'.on k = true → k ≠ id) → AR (up ρ id v') (Bd (up ρ id v') B0) w' av' v := fun hne => AR.mv hK hB' (fun k hk => by unfold up; rw [if_neg (hne k hk)]) q3
    cases av' with
    | own k =>
      show AR _ _ _ (bif Nat.beq k id then .dead else .own k) v
      cases e : Nat.beq k id with
      | true => trivial
      | false => exact keep (fun k' hk' => by have : k = k' := Nat.eq_of_beq_eq_true hk'; rintro rfl; rw [this, Nat.beq_refl] at e; cases e)
    | ptr k off =>
      show AR _ _ _ (bif Nat.beq k id then .dead else .ptr k off) v
      cases e : Nat.beq k id with
      | true => trivial
      | false => exact keep (fun k' hk' => by have : k = k' := Nat.eq_of_beq_eq_true hk'; rintro rfl; rw [this, Nat.beq_refl] at e; cases e)
    | eptr k sz i j =>
      show AR _ _ _ (bif Nat.beq k id then .dead else .eptr k sz i j) v
      cases e : Nat.beq k id with
      | true => trivial
      | false => exact keep (fun k' hk' => by have : k = k' := Nat.eq_of_beq_eq_true hk'; rintro rfl; rw [this, Nat.beq_refl] at e; cases e)
    | lim k j =>
      show AR _ _ _ (bif Nat.beq k id then .dead else .lim k j) v
      cases e : Nat.beq k id with
      | true => trivial
      | false => exact keep (fun k' hk' => by have : k = k' := Nat.eq_of_beq_eq_true hk'; rintro rfl; rw [this, Nat.beq_refl] at e; cases e)
    | d x => exact keep (fun k hk => by cases hk)
    | tup x => exact keep (fun k hk => by cases hk)
    | dead => trivial
  refine slots_put hsl2 hn (Nat.le_of_ble_eq_true hd) ⟨by simp [up], ?_⟩
  obtain ⟨_, ⟨rfl, _⟩ | ⟨g, cap', cur, rfl, _⟩⟩ := hown'
  · exact ⟨none, 0, 0, rfl⟩
  · exact ⟨_, _, _, rfl⟩


/-- A call that answers a row in new memory: it is the frame's own. -/
structure ACallO (P : Program) (f : FuncId) (args : List DV) (e : TypeId) (sz n : Nat) (el : Nat → Nat → Lf) : Prop where
  en : ∀ vs w, (callFunc f vs).run P w = .ok (.enter f vs) w
  go : ∀ (B : BS) (w : World) (vs : List Value), (∀ b, B b → b < w.heap.size) → DsR B w args vs → Calls P f vs.toArray w fun r w' => ∃ v, r = .returned v ∧ Below w.heap.size w w' ∧ ∃ xs, w'.ownsRow w.heap.size e sz v n xs ∧ ∀ i j, i < n → j < sz → ∃ x, xs[i * sz + j]? = some x ∧ ∀ B', LfR B' w' (el i j) x
theorem ownsRow_base {w : World} {b b' : Nat} {e : TypeId} {sz n : Nat} {v : Value} {xs : List Value} (h : w.ownsRow b e sz v n xs) (hb : b' ≤ b) : w.ownsRow b' e sz v n xs := by
  obtain ⟨h1, h2 | ⟨g, cap, cur, h3, h4, h5⟩⟩ := h
  · exact ⟨h1, Or.inl h2⟩
  · exact ⟨h1, Or.inr ⟨g, cap, cur, h3, Nat.le_trans hb h4, h5⟩⟩
theorem mCO {P : Program} {ops : Array Oper} {Q : Qs} {o : Oper} {l : List Oper} {s : AS} {c : Call} {f : FuncId} {ds : List DV} {e : TypeId} {sz n d : Nat} {el : Nat → Nat → Lf} (h : ACallO P f ds e sz n el) (hc : callOf o.op = some c) (hf : isF c.callee = some f) (ha : getds s c.args.toList = some ds) (hdst : o.dst = some d) (hfr : lk s.hp d = none)
    (k : AL P ops Q l (s.mk' d (.row e sz n el))) (hg : gst ops s o = some true := by rfl) (hd : dok (some d) s.n = true := by rfl) : AL P ops Q (o :: l) s := by
  rintro B0 w0 a w ⟨ρ, hcr, hn, hdf, hs⟩
  obtain ⟨vs, hvs, hr⟩ := run_call (cap := []) hs hc (isF_fn hf) ha h.en
  rw [List.append_nil] at hvs
  refine wpl_call (gst_ok hg hs) hr ((h.go (Bd ρ B0) w vs hcr.bdlt hvs).mono ?_)
  rintro r w' ⟨v, rfl, hb, xs, hown, hel⟩
  refine ⟨v, rfl, ?_⟩
  have hρ : ρ d = none := by
    cases hρ : ρ d with
    | none => rfl
    | some u => obtain ⟨ob', h1, _⟩ := hcr.obj d u hρ; rw [hfr] at h1; cases h1
  have hv : ∀ b, vblk v = some b → w.heap.size ≤ b := by
    obtain ⟨_, ⟨rfl, _⟩ | ⟨g, cap, cur, rfl, h4, _⟩⟩ := hown
    · intro b e; cases e
    · intro b e; cases e; exact h4
  have ho' : OR (Bd (up ρ d v) B0) w0 w' (.row e sz n el) v := ⟨xs, ownsRow_base hown hcr.bel.size, fun i j hi hj => let ⟨x, hx, hl⟩ := hel i j hi hj; ⟨x, hx, hl _⟩⟩
  have hc' : Core (up ρ d v) B0 w0 w' ((d, .row e sz n el) :: s.hp) := hcr.new hρ hb hv (fun k ob' hk hne => by rw [lk_cons, if_neg (fun e => hne e.symm)]; exact hk) (by rw [lk_cons, if_pos rfl]) ho'
  have hs' : Slots (up ρ d v) (Bd (up ρ d v) B0) w' s.sl a := fun t av ht => let ⟨u, h1, h2⟩ := hs t av ht; ⟨u, h1, h2.new hρ hb hv⟩
  refine k B0 w0 _ w' ?_
  rw [hdst]
  exact ⟨_, hc', (by show (a.tmps.setIfInBounds d v).size = s.n; simpa using hn), hdf, slots_put hs' hn (Nat.le_of_ble_eq_true hd) (AO.av_ok ho' (by simp [up]))⟩

/-- Copy: a row in new memory, in the kit's words. -/
theorem copy_owns (ao : Option Addr) (n c : Nat) (xs : List Nat) (w : World) (hn : n ≤ 1073741824) (hr : Rw .u32 B32 w ao n c xs) :
    Calls Try.prog 41 #[.slice ao n c] w fun e w' => ∃ v, e = .returned v ∧ w'.ownsRow w.heap.size 55 1 v n (ints .u32 xs) ∧ Below w.heap.size w w' := by
  have hl := hr.len
  have HL := hid hl; clear hl
  go_enter Try.func41, Try.ntmps41
  go_wp2_with (at_builtin; refine Hid.out ?_)
  refine hid ?_
  refine wpList_app _ rfl _ _ 34 rfl w.heap.size 55 (.int .u32 0) 1 4 Try.underlying34 Try.infoU32 rfl (by decide) (.slice none 0 0) 0 [] rfl (World.ownsRow_nil _ _ _ _) ao n c (ints .u32 xs) rfl (by rw [ints_length, HL.out]; omega) hr.2.2.1 hr.le hr.cells (ints_one _ _) (by unfold maxLen; omega) (by omega) (Nat.le_refl _) fun v' w1 hown _ hb => ?_
  rw [Nat.zero_add, List.nil_append] at hown
  go_wp2
  go_ret
  exact ⟨_, rfl, hown, hb⟩


theorem aCopyO {K : Nat} {xs : List Nat} (hK : K ≤ 1073741824 := by decide) : ACallO Try.prog 41 [.one (lr K xs)] 55 1 xs.length (fun i _ => .v (.int .u32 ((xs.getD i 0 : Nat) : Int))) := by
  refine ⟨enters Try.func41 rfl rfl, fun B w vs hB hvs => ?_⟩
  match vs, hvs with
  | [v], ⟨h1, _⟩ =>
    obtain ⟨a, n, c, rfl, hr, hn, hb⟩ := lr_of h1
    obtain rfl := hr.len
    refine (copy_owns a _ c xs w (by omega) hr).mono ?_
    rintro e w' ⟨v, rfl, ho, hbb⟩
    refine ⟨_, rfl, hbb, _, ho, fun i j hi hj => ?_⟩
    obtain rfl : j = 0 := by omega
    refine ⟨.int .u32 ((xs[i] : Nat) : Int), by rw [Nat.mul_one, Nat.add_zero, List.getElem?_eq_getElem (by rw [ints_length]; exact hi), ints_get], fun B' => ⟨?_, rfl⟩⟩
    rw [List.getD_eq_getElem?_getD, List.getElem?_eq_getElem hi]
    rfl

/-! ### Orders that come together again -/
section
variable {P : Program} {ops : Array Oper} {Q : Qs} {s : AS}
theorem anyCut {n : Nat} {listed : Array Bool} (n' : Nat) (listed' : Array Bool) (s' : AS) (h : AnyA P ops Q n' listed' s') (k : AnyA P ops Q n' listed' s' → AnyA P ops Q n listed s) : AnyA P ops Q n listed s := k h
theorem anyW {n : Nat} {listed : Array Bool} {s' : AS} {r : Nat} {rs : List Nat} (hr : Region.ready .any ops listed = r :: rs) (hw : Wk s s') (h : AnyA P ops Q (n + 1) listed s') : AnyA P ops Q (n + 1) listed s := by
  unfold AnyA
  unfold AnyA at h
  refine ⟨fun e => absurd (hr.symm.trans e) (by simp), fun i hi => ?_⟩
  obtain ⟨o, ho, hal⟩ := h.2 i hi
  exact ⟨o, ho, hal.wk hw⟩
end
end Go.Proofs.Ytlkdlicbhhackaa

/-
  WHOLE NUMBERS: Zero, Sign, Of, DivMod, Exact, Gcd; the plain reckoning: Of, Quo, Gcd, Same.
-/
set_option linter.unusedVariables false
set_option linter.unusedSimpArgs false
namespace Go.Proofs.Ytlkdlicbhhackaa
open Go.RowKit

set_option maxRecDepth 100000 in
set_option maxHeartbeats 4000000 in
theorem aZero {a : List Lf} {K : Nat} {z : Int} (ha : IsN a K z) : ACall Try.prog 43 [.agg a] (.d (.one (.v (.bool (decide (z = 0)))))) := by
  refine ACall.le (dl (DV.g ha) dl0) AV.le.rfl ?_
  refine acallN hTT 7 [.tmp 2] Try.func43 rfl rfl rfl rfl rfl ?_
  refine cSeq ?_
  refine cReg ?_
  refine mN hTT (.box 36 (zn K z)) rfl rfl rfl ?_
  refine mV hTT _ rfl ?_
  refine mNil ?_
  refine tN ?_
  refine cSeq ?_
  refine cReg ?_
  refine mV hTT (.ptr 1 1) rfl ?_
  refine mV hTT (.d (.one (ln K z.natAbs))) rfl ?_
  refine mV hTT (.d (.one (.v (.int .i64 ((limbs z.natAbs).length : Int))))) rfl ?_
  refine mV hTT (.d (.one (.v (.bool (((limbs z.natAbs).length : Int) == 0))))) rfl ?_
  refine mV hTT _ rfl ?_
  refine mNil ?_
  refine tN ?_
  refine cRet ?_
  exact rQ rfl (le_bool (by have h0 := limbs_len z.natAbs; rw [Bool.eq_iff_iff, beq_iff_eq, decide_eq_true_eq]; omega))

set_option maxRecDepth 100000 in
set_option maxHeartbeats 4000000 in
theorem aOf {n : Int} (h1 : -9223372036854775808 ≤ n := by decide) (h2 : n ≤ 9223372036854775807 := by decide) : ACall Try.prog 65 [.one (.v (.int .i64 n))] (.d (.agg (zn 2 n))) := by
  refine acallN hTT 20 [.cell 2 36] Try.func65 rfl rfl rfl rfl rfl ?_
  refine cSeq ?_
  refine cReg ?_
  refine mN hTT (.box 36 ([.v (.bool false), .v (.slice none 0 0)])) rfl rfl rfl ?_
  refine mNil ?_
  refine tN ?_
  refine cSeq ?_
  refine cReg ?_
  refine mV hTT _ rfl ?_
  refine mV hTT (.d (.one (.v (.int .u64 (IntKind.u64.wrap n))))) rfl ?_
  refine mV hTT _ rfl ?_
  refine mNil ?_
  refine tN ?_
  refine cSeq ?_
  refine cSeq ?_
  refine cReg ?_
  refine mV hTT _ rfl ?_
  refine mV hTT (.d (.one (.v (.bool (decide (n < 0)))))) rfl ?_
  refine mNil ?_
  refine tN ?_
  refine cCond rfl (fun hc1 => ?_) (fun hc1 => ?_)
  · skip
    refine cReg ?_
    refine mV hTT _ rfl ?_
    refine mV hTT (.d (.one (.v (.int .u64 ((n.natAbs : Nat) : Int))))) (evi (neg_wrap2 n (of_decide_eq_true hc1) h1)) ?_
    refine mV hTT _ rfl ?_
    refine mNil ?_
    refine tN ?_
    refine cSeq ?_
    refine cReg ?_
    refine mV hTT _ rfl ?_
    refine mV hTT (.d (.one (.v (.int .u32 ((n.natAbs % 4294967296 : Nat) : Int))))) (evi (by rw [wrap_u32]; omega)) ?_
    refine mV hTT _ rfl ?_
    refine mV hTT (.d (.one (.v (.int .u64 ((n.natAbs / 4294967296 : Nat) : Int))))) (evi (shr32 _)) ?_
    refine mV hTT (.d (.one (.v (.int .u32 ((n.natAbs / 4294967296 : Nat) : Int))))) (evi (by rw [wrap_u32]; omega)) ?_
    refine mB hTT (.d (.one (.row 1 2 (fun i' j' => (([.v (.int .u32 ((n.natAbs % 4294967296 : Nat) : Int)), .v (.int .u32 ((n.natAbs / 4294967296 : Nat) : Int))])[i' * 1 + j']?).getD (.v undef))))) rfl ?_
    refine mC0 (aLNorm (of_row (m := n.natAbs) (by omega)) (by decide)) rfl rfl rfl ?_
    refine mV hTT _ rfl ?_
    refine mV hTT (.d (.one (.v (.bool (decide (n < 0)))))) rfl ?_
    refine mC0 (aMade (K := 2) (m := n.natAbs) (neg := decide (n < 0)) rfl) rfl rfl rfl ?_
    refine mS hTT 2 (.box 36 (zn 2 (zv (decide (n < 0)) n.natAbs))) rfl ?_
    refine mNil ?_
    refine tN ?_
    refine cRet ?_
    exact rQ rfl (le_zn (Nat.le_refl _) (zv_natAbs n))
  · skip
    refine cSkip ?_
    refine tN ?_
    refine cSeq ?_
    refine cView 3 (.d (.one (.v (.int .u64 ((n.natAbs : Nat) : Int))))) rfl (le_int (pos_wrap2 n (of_decide_eq_false hc1) h2)) ?_
    refine cReg ?_
    refine mV hTT _ rfl ?_
    refine mV hTT (.d (.one (.v (.int .u32 ((n.natAbs % 4294967296 : Nat) : Int))))) (evi (by rw [wrap_u32]; omega)) ?_
    refine mV hTT _ rfl ?_
    refine mV hTT (.d (.one (.v (.int .u64 ((n.natAbs / 4294967296 : Nat) : Int))))) (evi (shr32 _)) ?_
    refine mV hTT (.d (.one (.v (.int .u32 ((n.natAbs / 4294967296 : Nat) : Int))))) (evi (by rw [wrap_u32]; omega)) ?_
    refine mB hTT (.d (.one (.row 1 2 (fun i' j' => (([.v (.int .u32 ((n.natAbs % 4294967296 : Nat) : Int)), .v (.int .u32 ((n.natAbs / 4294967296 : Nat) : Int))])[i' * 1 + j']?).getD (.v undef))))) rfl ?_
    refine mC0 (aLNorm (of_row (m := n.natAbs) (by omega)) (by decide)) rfl rfl rfl ?_
    refine mV hTT _ rfl ?_
    refine mV hTT (.d (.one (.v (.bool (decide (n < 0)))))) rfl ?_
    refine mC0 (aMade (K := 2) (m := n.natAbs) (neg := decide (n < 0)) rfl) rfl rfl rfl ?_
    refine mS hTT 2 (.box 36 (zn 2 (zv (decide (n < 0)) n.natAbs))) rfl ?_
    refine mNil ?_
    refine tN ?_
    refine cRet ?_
    exact rQ rfl (le_zn (Nat.le_refl _) (zv_natAbs n))

set_option maxRecDepth 100000 in
set_option maxHeartbeats 4000000 in
theorem aDivMod {a b : List Lf} {K L M : Nat} {x y : Int} (ha : IsZ a K x) (hb : IsZ b L y) (hy : y ≠ 0) (hM : max K 1 + 1 ≤ M := by decide) (hK : K ≤ 1073741823 := by decide) (hL : L ≤ 1073741823 := by decide) : ACall Try.prog 44 [.agg a, .agg b] (.tup [.agg (zn M (x / y)), .agg (zn L (x % y)), .one (.v (.int .i64 0))]) := by
  obtain ⟨s, xs, ha, rfl⟩ := ha
  obtain ⟨t, ys, hb, rfl⟩ := hb
  refine ACall.le (dl (DV.z ha) (dl (DV.z hb) dl0)) AV.le.rfl ?_
  have hn : val ys ≠ 0 := fun e => hy (by rw [e]; cases t <;> rfl)
  cases s
  · skip
    refine acallN hTT 60 [.cell 4 36, .cell 5 36, .tmp 6] Try.func44 rfl rfl rfl rfl rfl ?_
    refine cSeq ?_
    refine cReg ?_
    refine mN hTT (.box 36 ([.v (.bool false), lr K xs])) rfl rfl rfl ?_
    refine mN hTT (.box 36 ([.v (.bool t), lr L ys])) rfl rfl rfl ?_
    refine mN hTT (.box 36 ([.v (.bool false), .v (.slice none 0 0)])) rfl rfl rfl ?_
    refine mN hTT (.box 36 ([.v (.bool false), .v (.slice none 0 0)])) rfl rfl rfl ?_
    refine mV hTT _ rfl ?_
    refine mNil ?_
    refine tN ?_
    refine cSeq ?_
    refine cReg ?_
    refine mV hTT (.ptr 2 1) rfl ?_
    refine mV hTT (.d (.one (lr K xs))) rfl ?_
    refine mV hTT (.ptr 3 1) rfl ?_
    refine mV hTT (.d (.one (lr L ys))) rfl ?_
    refine mC0 (aLDiv (islv K xs) (islv L ys) (by omega) (by omega)) rfl rfl rfl ?_
    refine mV hTT _ rfl ?_
    refine mV hTT _ rfl ?_
    refine mV hTT _ rfl ?_
    refine mV hTT _ rfl ?_
    refine mV hTT _ rfl ?_
    refine mV hTT _ rfl ?_
    refine mV hTT _ rfl ?_
    refine mNil ?_
    refine tN ?_
    refine cSeq ?_
    refine cSeq ?_
    refine cReg ?_
    refine mV hTT _ rfl ?_
    refine mV hTT (.d (.one (.v (.bool false)))) (evb (by rw [show divErr (val ys) = 0 from if_neg hn]; rfl)) ?_
    refine mNil ?_
    refine tN ?_
    refine cF rfl ?_
    refine cSkip ?_
    refine tN ?_
    refine cSeq ?_
    refine cReg ?_
    refine mV hTT _ rfl ?_
    refine mV hTT (.ptr 2 0) rfl ?_
    refine mV hTT (.d (.one (.v (.bool false)))) rfl ?_
    refine mV hTT (.ptr 3 0) rfl ?_
    refine mV hTT (.d (.one (.v (.bool t)))) rfl ?_
    refine mV hTT (.d (.one (.v (.bool (!(false == t)))))) rfl ?_
    refine mC0 (aMade (K := K) (m := ((val xs) / (val ys))) (neg := !(false == t)) rfl) rfl rfl rfl ?_
    refine mV hTT _ rfl ?_
    refine mC0 (aMade (K := L) (m := (modZ (val xs) (val ys))) (neg := false) rfl) rfl rfl rfl ?_
    refine mS hTT 4 (.box 36 (zn K (zv (!(false == t)) ((val xs) / (val ys))))) rfl ?_
    refine mS hTT 5 (.box 36 (zn L (zv false (modZ (val xs) (val ys))))) rfl ?_
    refine mNil ?_
    refine tN ?_
    refine cSeq ?_
    refine cSeq ?_
    refine cReg ?_
    refine mV hTT (.ptr 2 0) rfl ?_
    refine mV hTT (.d (.one (.v (.bool false)))) rfl ?_
    refine mV hTT _ rfl ?_
    refine mG rfl rfl ?_
    refine mG rfl rfl ?_
    refine mG rfl rfl ?_
    refine mV hTT _ rfl ?_
    refine mNil ?_
    refine tN ?_
    refine cF rfl ?_
    refine cSkip ?_
    refine tN ?_
    refine cSeq ?_
    refine cDrawS hTT 5 (by kernel_rfl) (by kernel_rfl) ?_
    refine .cons (OpS.V (.d (.agg (zn K (zv (!(false == t)) ((val xs) / (val ys)))))) rfl) (by kernel_rfl) ?_
    refine .cons (OpS.V (.d (.agg (zn L (zv false (modZ (val xs) (val ys)))))) rfl) (by kernel_rfl) ?_
    refine .cons (OpS.S 4 (.box 36 (zn K (zv (!(false == t)) ((val xs) / (val ys))))) rfl rfl) (by kernel_rfl) ?_
    refine .cons (OpS.S 5 (.box 36 (zn L (zv false (modZ (val xs) (val ys))))) rfl rfl) (by kernel_rfl) ?_
    refine .cons (OpS.V _ rfl) (by kernel_rfl) ?_
    refine .nil ?_
    refine mNil ?_
    refine tN ?_
    refine cRet ?_
    obtain ⟨e1, e2⟩ := dm1 t (val xs) (val ys) hn
    exact rQ rfl (le_tup (dl (dle (le_zn (by omega) e1)) (dl (dle (le_zn (Nat.le_refl _) e2)) (dl DV.same dl0))))
  · skip
    refine acallN hTT 60 [.cell 4 36, .cell 5 36, .tmp 6] Try.func44 rfl rfl rfl rfl rfl ?_
    refine cSeq ?_
    refine cReg ?_
    refine mN hTT (.box 36 ([.v (.bool true), lr K xs])) rfl rfl rfl ?_
    refine mN hTT (.box 36 ([.v (.bool t), lr L ys])) rfl rfl rfl ?_
    refine mN hTT (.box 36 ([.v (.bool false), .v (.slice none 0 0)])) rfl rfl rfl ?_
    refine mN hTT (.box 36 ([.v (.bool false), .v (.slice none 0 0)])) rfl rfl rfl ?_
    refine mV hTT _ rfl ?_
    refine mNil ?_
    refine tN ?_
    refine cSeq ?_
    refine cReg ?_
    refine mV hTT (.ptr 2 1) rfl ?_
    refine mV hTT (.d (.one (lr K xs))) rfl ?_
    refine mV hTT (.ptr 3 1) rfl ?_
    refine mV hTT (.d (.one (lr L ys))) rfl ?_
    refine mC0 (aLDiv (islv K xs) (islv L ys) (by omega) (by omega)) rfl rfl rfl ?_
    refine mV hTT _ rfl ?_
    refine mV hTT _ rfl ?_
    refine mV hTT _ rfl ?_
    refine mV hTT _ rfl ?_
    refine mV hTT _ rfl ?_
    refine mV hTT _ rfl ?_
    refine mV hTT _ rfl ?_
    refine mNil ?_
    refine tN ?_
    refine cSeq ?_
    refine cSeq ?_
    refine cReg ?_
    refine mV hTT _ rfl ?_
    refine mV hTT (.d (.one (.v (.bool false)))) (evb (by rw [show divErr (val ys) = 0 from if_neg hn]; rfl)) ?_
    refine mNil ?_
    refine tN ?_
    refine cF rfl ?_
    refine cSkip ?_
    refine tN ?_
    refine cSeq ?_
    refine cReg ?_
    refine mV hTT _ rfl ?_
    refine mV hTT (.ptr 2 0) rfl ?_
    refine mV hTT (.d (.one (.v (.bool true)))) rfl ?_
    refine mV hTT (.ptr 3 0) rfl ?_
    refine mV hTT (.d (.one (.v (.bool t)))) rfl ?_
    refine mV hTT (.d (.one (.v (.bool (!(true == t)))))) rfl ?_
    refine mC0 (aMade (K := K) (m := ((val xs) / (val ys))) (neg := !(true == t)) rfl) rfl rfl rfl ?_
    refine mV hTT _ rfl ?_
    refine mC0 (aMade (K := L) (m := (modZ (val xs) (val ys))) (neg := false) rfl) rfl rfl rfl ?_
    refine mS hTT 4 (.box 36 (zn K (zv (!(true == t)) ((val xs) / (val ys))))) rfl ?_
    refine mS hTT 5 (.box 36 (zn L (zv false (modZ (val xs) (val ys))))) rfl ?_
    refine mNil ?_
    refine tN ?_
    refine cSeq ?_
    refine cSeq ?_
    refine cReg ?_
    refine mV hTT (.ptr 2 0) rfl ?_
    refine mV hTT (.d (.one (.v (.bool true)))) rfl ?_
    refine mV hTT _ rfl ?_
    refine mV hTT _ rfl ?_
    refine mV hTT (.d (.one (.v (.int .i64 ((limbs (modZ (val xs) (val ys))).length : Int))))) rfl ?_
    refine mV hTT (.d (.one (.v (.bool (decide (((limbs (modZ (val xs) (val ys))).length : Int) > 0)))))) rfl ?_
    refine mV hTT _ rfl ?_
    refine mNil ?_
    refine tN ?_
    refine cCond rfl (fun hc1 => ?_) (fun hc1 => ?_)
    · skip
      refine cSeq ?_
      refine cReg ?_
      refine mV hTT _ rfl ?_
      refine mB hTT (.d (.one (.row 1 1 (fun i' j' => (([.v (.int .u32 1)])[i' * 1 + j']?).getD (.v undef))))) rfl ?_
      refine mC0 (aLAdd (isl K ((val xs) / (val ys))) one_row (M := (max K 1 + 1)) (by omega) (by omega) (by decide)) rfl rfl rfl ?_
      refine mV hTT _ rfl ?_
      refine mNil ?_
      refine tN ?_
      refine cSeq ?_
      refine cReg ?_
      refine mV hTT (.ptr 3 1) rfl ?_
      refine mV hTT (.d (.one (lr L ys))) rfl ?_
      refine mV hTT _ rfl ?_
      refine mC0 (aLSub (islv L ys) (isl L (modZ (val xs) (val ys))) (by omega) (by omega)) rfl rfl rfl ?_
      refine mV hTT _ rfl ?_
      refine mV hTT _ rfl ?_
      refine mV hTT _ rfl ?_
      refine mV hTT _ rfl ?_
      refine mNil ?_
      refine tN ?_
      refine cReg ?_
      refine mV hTT _ rfl ?_
      refine mV hTT (.ptr 2 0) rfl ?_
      refine mV hTT (.d (.one (.v (.bool true)))) rfl ?_
      refine mV hTT (.ptr 3 0) rfl ?_
      refine mV hTT (.d (.one (.v (.bool t)))) rfl ?_
      refine mV hTT (.d (.one (.v (.bool (!(true == t)))))) rfl ?_
      refine mC0 (aMade (K := (max K 1 + 1)) (m := (((val xs) / (val ys)) + 1)) (neg := !(true == t)) rfl) rfl rfl rfl ?_
      refine mV hTT _ rfl ?_
      refine mC0 (aMade (K := L) (m := ((val ys) - (modZ (val xs) (val ys)))) (neg := false) rfl) rfl rfl rfl ?_
      refine mS hTT 4 (.box 36 (zn (max K 1 + 1) (zv (!(true == t)) (((val xs) / (val ys)) + 1)))) rfl ?_
      refine mS hTT 5 (.box 36 (zn L (zv false ((val ys) - (modZ (val xs) (val ys)))))) rfl ?_
      refine mNil ?_
      refine tN ?_
      refine cSeq ?_
      refine cDrawS hTT 5 (by kernel_rfl) (by kernel_rfl) ?_
      refine .cons (OpS.V (.d (.agg (zn (max K 1 + 1) (zv (!(true == t)) (((val xs) / (val ys)) + 1))))) rfl) (by kernel_rfl) ?_
      refine .cons (OpS.V (.d (.agg (zn L (zv false ((val ys) - (modZ (val xs) (val ys))))))) rfl) (by kernel_rfl) ?_
      refine .cons (OpS.S 4 (.box 36 (zn (max K 1 + 1) (zv (!(true == t)) (((val xs) / (val ys)) + 1)))) rfl rfl) (by kernel_rfl) ?_
      refine .cons (OpS.S 5 (.box 36 (zn L (zv false ((val ys) - (modZ (val xs) (val ys)))))) rfl rfl) (by kernel_rfl) ?_
      refine .cons (OpS.V _ rfl) (by kernel_rfl) ?_
      refine .nil ?_
      refine mNil ?_
      refine tN ?_
      refine cRet ?_
      obtain ⟨e1, e2⟩ := dm3 t (val xs) (val ys) hn (Nat.pos_of_ne_zero fun e => by have h0 := of_decide_eq_true hc1; rw [e] at h0; exact absurd h0 (by decide))
      exact rQ rfl (le_tup (dl (dle (le_zn (by omega) e1)) (dl (dle (le_zn (Nat.le_refl _) e2)) (dl DV.same dl0))))
    · skip
      refine cSkip ?_
      refine tN ?_
      refine cSeq ?_
      refine cDrawS hTT 5 (by kernel_rfl) (by kernel_rfl) ?_
      refine .cons (OpS.V (.d (.agg (zn K (zv (!(true == t)) ((val xs) / (val ys)))))) rfl) (by kernel_rfl) ?_
      refine .cons (OpS.V (.d (.agg (zn L (zv false (modZ (val xs) (val ys)))))) rfl) (by kernel_rfl) ?_
      refine .cons (OpS.S 4 (.box 36 (zn K (zv (!(true == t)) ((val xs) / (val ys))))) rfl rfl) (by kernel_rfl) ?_
      refine .cons (OpS.S 5 (.box 36 (zn L (zv false (modZ (val xs) (val ys))))) rfl rfl) (by kernel_rfl) ?_
      refine .cons (OpS.V _ rfl) (by kernel_rfl) ?_
      refine .nil ?_
      refine mNil ?_
      refine tN ?_
      refine cRet ?_
      obtain ⟨e1, e2⟩ := dm2 t (val xs) (val ys) hn (by have h0 := of_decide_eq_false hc1; have h1 := limbs_len (modZ (val xs) (val ys)); omega)
      exact rQ rfl (le_tup (dl (dle (le_zn (by omega) e1)) (dl (dle (le_zn (Nat.le_refl _) e2)) (dl DV.same dl0))))

set_option maxRecDepth 100000 in
set_option maxHeartbeats 4000000 in
theorem aDivMod0 {a b : List Lf} {K L : Nat} {x : Int} (ha : IsZ a K x) (hb : IsZ b L 0) (hK : K ≤ 1073741823 := by decide) (hL : L ≤ 1073741823 := by decide) : ACall Try.prog 44 [.agg a, .agg b] (.tup [.agg (zn 0 0), .agg (zn 0 0), .one (.v (.int .i64 2))]) := by
  obtain ⟨s, xs, ha, rfl⟩ := ha
  obtain ⟨t, ys, hb, hn⟩ := hb
  replace hn : val ys = 0 := by rw [← zv_abs t (val ys), hn]; rfl
  refine ACall.le (dl (DV.z ha) (dl (DV.z hb) dl0)) AV.le.rfl ?_
  refine acallN hTT 60 [.cell 4 36, .cell 5 36, .tmp 6] Try.func44 rfl rfl rfl rfl rfl ?_
  refine cSeq ?_
  refine cReg ?_
  refine mN hTT (.box 36 ([.v (.bool s), lr K xs])) rfl rfl rfl ?_
  refine mN hTT (.box 36 ([.v (.bool t), lr L ys])) rfl rfl rfl ?_
  refine mN hTT (.box 36 ([.v (.bool false), .v (.slice none 0 0)])) rfl rfl rfl ?_
  refine mN hTT (.box 36 ([.v (.bool false), .v (.slice none 0 0)])) rfl rfl rfl ?_
  refine mV hTT _ rfl ?_
  refine mNil ?_
  refine tN ?_
  refine cSeq ?_
  refine cReg ?_
  refine mV hTT (.ptr 2 1) rfl ?_
  refine mV hTT (.d (.one (lr K xs))) rfl ?_
  refine mV hTT (.ptr 3 1) rfl ?_
  refine mV hTT (.d (.one (lr L ys))) rfl ?_
  refine mC0 (aLDiv (islv K xs) (islv L ys) (by omega) (by omega)) rfl rfl rfl ?_
  refine mV hTT _ rfl ?_
  refine mV hTT _ rfl ?_
  refine mV hTT _ rfl ?_
  refine mV hTT _ rfl ?_
  refine mV hTT _ rfl ?_
  refine mV hTT _ rfl ?_
  refine mV hTT _ rfl ?_
  refine mNil ?_
  refine tN ?_
  refine cSeq ?_
  refine cSeq ?_
  refine cReg ?_
  refine mV hTT _ rfl ?_
  refine mV hTT (.d (.one (.v (.bool true)))) (evb (by rw [show divErr (val ys) = 2 from if_pos hn]; rfl)) ?_
  refine mNil ?_
  refine tN ?_
  refine cT rfl ?_
  refine cSeq ?_
  refine cReg ?_
  refine mV hTT (.d (.agg ([.v (.bool false), .v (.slice none 0 0)]))) rfl ?_
  refine mV hTT (.d (.agg ([.v (.bool false), .v (.slice none 0 0)]))) rfl ?_
  refine mV hTT _ rfl ?_
  refine mS hTT 4 (.box 36 ([.v (.bool false), .v (.slice none 0 0)])) rfl ?_
  refine mS hTT 5 (.box 36 ([.v (.bool false), .v (.slice none 0 0)])) rfl ?_
  refine mV hTT _ rfl ?_
  refine mNil ?_
  refine tN ?_
  refine cRet ?_
  refine tR ?_
  exact rQ rfl (le_tup (dl (DV.g fun _ _ _ h => nil_ls h) (dl (DV.g fun _ _ _ h => nil_ls h) (dl (dle (le_int (if_pos hn))) dl0))))

set_option maxRecDepth 100000 in
set_option maxHeartbeats 4000000 in
theorem aGcd {l : Lf} {K n : Nat} {c : Nat → Int} (ha : IsP l K n c) (hn : n ≤ 1000000 := by decide) (hK : K ≤ 1073741823 := by decide) : ACall Try.prog 46 [.one l] (.d (.agg (zn K (gcdN c n : Nat)))) := by
  obtain ⟨⟨f, ha, hf⟩, hz⟩ := ha
  refine ACall.le (dl (DV.l ha) dl0) AV.le.rfl ?_
  refine acallN hTT 44 [.cell 2 36] Try.func46 rfl rfl rfl rfl rfl ?_
  refine cSeq ?_
  refine cReg ?_
  refine mN hTT (.box 36 ([.v (.bool false), .v (.slice none 0 0)])) rfl rfl rfl ?_
  refine mNil ?_
  refine tN ?_
  refine cSeq ?_
  refine cReg ?_
  refine mV hTT _ rfl ?_
  refine mNil ?_
  refine tN ?_
  refine cSeq ?_
  refine cSeq ?_
  refine cView 3 (.d (.one (ln K (gcdN c 0)))) rfl (nil_lr K) ?_
  refine cReg ?_
  refine mV hTT _ rfl ?_
  refine mV hTT (.d (.one (.v (.int .i64 (n : Int))))) rfl ?_
  refine mV hTT _ rfl ?_
  refine mNil ?_
  refine tN ?_
  refine cBlock ?_
  refine cLoop (ι := Nat) (fun (i : Nat) => ⟨44, [(2, .ptr 2 0), (10, .d (.one (.row 2 n (ael K f)))), (11, .d (.one (.v (.int .i64 (n : Int))))), (12, .d (.one (.v (.int .i64 ((i : Nat) : Int))))), (3, .d (.one (ln K (gcdN c i))))], [(2, .box 36 ([.v (.bool false), .v (.slice none 0 0)]))]⟩) (fun (i : Nat) => i ≤ n) (fun (i : Nat) => n - i) 0 (Nat.zero_le _) (wk (sl := [(2, .ptr 2 0), (10, .d (.one (.row 2 n (ael K f)))), (11, .d (.one (.v (.int .i64 (n : Int))))), (12, .d (.one (.v (.int .i64 ((0 : Nat) : Int))))), (3, .d (.one (ln K (gcdN c 0))))]) (hp := [(2, .box 36 ([.v (.bool false), .v (.slice none 0 0)]))]) rfl ⟨hs rfl, hs rfl, hs rfl, hs rfl, hs rfl, trivial⟩ ⟨ho rfl, trivial⟩ rfl) ?_
  rintro i hI
  have hi0 : i ≤ n := hI
  show AW Try.prog _ _ ⟨44, [(2, .ptr 2 0), (10, .d (.one (.row 2 n (ael K f)))), (11, .d (.one (.v (.int .i64 (n : Int))))), (12, .d (.one (.v (.int .i64 ((i : Nat) : Int))))), (3, .d (.one (ln K (gcdN c i))))], [(2, .box 36 ([.v (.bool false), .v (.slice none 0 0)]))]⟩
  refine cSeq ?_
  refine cReg ?_
  refine mV hTT (.d (.one (.v (.bool (decide (((i : Nat) : Int) < (n : Int))))))) rfl ?_
  refine mNil ?_
  refine tN ?_
  refine cSeq ?_
  refine cCond rfl (fun hc1 => ?_) (fun hc1 => ?_)
  · skip
    refine cSkip ?_
    refine tN ?_
    refine cSeq ?_
    refine cBlock ?_
    refine cSeq ?_
    have hi : i < n := by have h0 := of_decide_eq_true hc1; omega
    refine cReg ?_
    refine mV hTT (.d (.one (.at 2 ((ael K f) i)))) (ixR (el := (ael K f)) (z := ((i : Nat) : Int)) (n := n) rfl rfl rfl rfl rfl rfl (by omega) (by omega)) ?_
    refine mV hTT (.d (.agg ([.v (.bool ((f i).1)), lr K ((f i).2)]))) rfl ?_
    refine mN hTT (.box 36 ([.v (.bool false), .v (.slice none 0 0)])) rfl rfl rfl ?_
    refine mS hTT 5 (.box 36 ([.v (.bool ((f i).1)), lr K ((f i).2)])) rfl ?_
    refine mNil ?_
    refine tN ?_
    refine cSeq ?_
    refine cReg ?_
    refine mV hTT (.ptr 5 1) rfl ?_
    refine mV hTT (.d (.one (lr K ((f i).2)))) rfl ?_
    refine mC0 (aLNorm (islv K ((f i).2)) (by omega)) rfl rfl rfl ?_
    refine mV hTT _ rfl ?_
    refine mNil ?_
    refine tN ?_
    refine cSeq ?_
    refine cBlock ?_
    refine cLoop (ι := Nat × Nat) (fun (p : Nat × Nat) => match p with | (x, y) => ⟨44, [(2, .ptr 2 0), (10, .d (.one (.row 2 n (ael K f)))), (11, .d (.one (.v (.int .i64 (n : Int))))), (12, .d (.one (.v (.int .i64 ((i : Nat) : Int))))), (3, .d (.one (ln K x))), (6, .d (.one (ln K y)))], [(2, .box 36 ([.v (.bool false), .v (.slice none 0 0)]))]⟩) (fun (p : Nat × Nat) => match p with | (x, y) => Nat.gcd x y = gcdN c (i + 1)) (fun (p : Nat × Nat) => match p with | (x, y) => y) ((gcdN c i), (val (f i).2)) (by show Nat.gcd (gcdN c i) (val (f i).2) = Nat.gcd (gcdN c i) (c i).natAbs; rw [← hf i hi, show (fzv f i).natAbs = val (f i).2 from zv_abs _ _]) (wk (sl := [(2, .ptr 2 0), (10, .d (.one (.row 2 n (ael K f)))), (11, .d (.one (.v (.int .i64 (n : Int))))), (12, .d (.one (.v (.int .i64 ((i : Nat) : Int))))), (3, .d (.one (ln K (gcdN c i)))), (6, .d (.one (ln K (val (f i).2))))]) (hp := [(2, .box 36 ([.v (.bool false), .v (.slice none 0 0)]))]) rfl ⟨hs rfl, hs rfl, hs rfl, hs rfl, hs rfl, hs rfl, trivial⟩ ⟨ho rfl, trivial⟩ rfl) ?_
    rintro ⟨x, y⟩ hI
    have hg : Nat.gcd x y = gcdN c (i + 1) := hI
    show AW Try.prog _ _ ⟨44, [(2, .ptr 2 0), (10, .d (.one (.row 2 n (ael K f)))), (11, .d (.one (.v (.int .i64 (n : Int))))), (12, .d (.one (.v (.int .i64 ((i : Nat) : Int))))), (3, .d (.one (ln K x))), (6, .d (.one (ln K y)))], [(2, .box 36 ([.v (.bool false), .v (.slice none 0 0)]))]⟩
    refine cSeq ?_
    refine cSeq ?_
    refine cReg ?_
    refine mV hTT _ rfl ?_
    refine mV hTT (.d (.one (.v (.int .i64 ((limbs y).length : Int))))) rfl ?_
    refine mV hTT (.d (.one (.v (.bool (decide (((limbs y).length : Int) > 0)))))) rfl ?_
    refine mNil ?_
    refine tN ?_
    refine cCond rfl (fun hc2 => ?_) (fun hc2 => ?_)
    · skip
      refine cSkip ?_
      refine tN ?_
      refine cBlock ?_
      refine cSeq ?_
      have hy0 : y ≠ 0 := fun e => by have h0 := of_decide_eq_true hc2; rw [e] at h0; exact absurd h0 (by decide)
      refine cReg ?_
      refine mV hTT _ rfl ?_
      refine mV hTT _ rfl ?_
      refine mC0 (aLDiv (isl K x) (isl K y) (by omega) (by omega)) rfl rfl rfl ?_
      refine mV hTT _ rfl ?_
      refine mV hTT _ rfl ?_
      refine mV hTT _ rfl ?_
      refine mV hTT _ rfl ?_
      refine mV hTT _ rfl ?_
      refine mV hTT _ rfl ?_
      refine mV hTT _ rfl ?_
      refine mNil ?_
      refine tN ?_
      refine cReg ?_
      refine mV hTT _ rfl ?_
      refine mV hTT _ rfl ?_
      refine mV hTT _ rfl ?_
      refine mV hTT _ rfl ?_
      refine mNil ?_
      refine bN ?_
      exact ⟨(y, (modZ x y)), by show Nat.gcd y (modZ x y) = _; unfold modZ; rw [if_neg hy0, ← hg, Nat.gcd_comm x y, Nat.gcd_rec y x, Nat.gcd_comm], by show modZ x y < y; unfold modZ; rw [if_neg hy0]; exact Nat.mod_lt _ (Nat.pos_of_ne_zero hy0), wk (sl := [(2, .ptr 2 0), (10, .d (.one (.row 2 n (ael K f)))), (11, .d (.one (.v (.int .i64 (n : Int))))), (12, .d (.one (.v (.int .i64 ((i : Nat) : Int))))), (3, .d (.one (ln K y))), (6, .d (.one (ln K (modZ x y))))]) (hp := [(2, .box 36 ([.v (.bool false), .v (.slice none 0 0)]))]) rfl ⟨hs rfl, hs rfl, hs rfl, hs rfl, hs rfl, hs rfl, trivial⟩ ⟨ho rfl, trivial⟩ rfl⟩
    · skip
      refine cExit ?_
      refine tE ?_
      refine tE ?_
      refine bE ?_
      refine tN ?_
      refine cSeq ?_
      have hy0 : y = 0 := by have h0 := of_decide_eq_false hc2; have h1 := limbs_len y; omega
      have hx : x = gcdN c (i + 1) := by rw [← hg, hy0, Nat.gcd_zero_right]
      by_cases hl1 : (limbs x).length = 1
      · skip
        refine cReg ?_
        refine mV hTT _ rfl ?_
        refine mV hTT (.d (.one (.v (.int .i64 ((limbs x).length : Int))))) rfl ?_
        refine mV hTT (.d (.one (.v (.bool true)))) (evb (by rw [hl1]; rfl)) ?_
        refine mV hTT _ rfl ?_
        refine mV hTT _ rfl ?_
        refine mView 35 (.d (.one (.row 1 ((limbs x).length) (fun i _ => .v (.int .u32 (((limbs x).getD i 0 : Nat) : Int)))))) rfl (le_lrow _ _) ?_
        refine mV hTT (.d (.one (.at 1 ((fun i _ => .v (.int .u32 (((limbs x).getD i 0 : Nat) : Int))) 0)))) (ixR (el := (fun i _ => .v (.int .u32 (((limbs x).getD i 0 : Nat) : Int)))) (z := 0) (n := ((limbs x).length)) rfl rfl rfl rfl rfl rfl (by decide) (by rw [hl1]; decide)) ?_
        refine mV hTT (.d (.one (.v (.int .u32 (((limbs x).getD 0 0 : Nat) : Int))))) rfl ?_
        refine mV hTT (.d (.one (.v (.bool ((((limbs x).getD 0 0 : Nat) : Int) == 1))))) rfl ?_
        refine mV hTT _ rfl ?_
        refine mNil ?_
        refine tN ?_
        refine cCond rfl (fun hc3 => ?_) (fun hc3 => ?_)
        · skip
          refine cExit ?_
          refine bX rfl ?_
          refine tE ?_
          refine tE ?_
          refine bE ?_
          refine tN ?_
          refine cSeq ?_
          refine cReg ?_
          refine mV hTT _ rfl ?_
          refine mC0 (aLNorm (isl K x) (by omega)) rfl rfl rfl ?_
          refine mC0 (aMade (K := K) (m := x) (neg := false) rfl) rfl rfl rfl ?_
          refine mS hTT 2 (.box 36 (zn K (zv false x))) rfl ?_
          refine mNil ?_
          refine tN ?_
          refine cRet ?_
          have h1 : x = 1 := limbs1.1 ⟨hl1, by have h0 := eq_of_beq hc3; exact Int.ofNat_inj.1 h0⟩
          exact rQ rfl (le_zn (Nat.le_refl _) (by show ((x : Nat) : Int) = _; rw [h1, gcdN_one (hx ▸ h1) (show i + 1 ≤ n from hi)]))
        · skip
          refine cSkip ?_
          refine bN ?_
          refine tN ?_
          refine cReg ?_
          refine mV hTT (.d (.one (.v (.int .i64 (IntKind.i64.wrap (((i : Nat) : Int) + 1)))))) rfl ?_
          refine mV hTT _ rfl ?_
          refine mNil ?_
          exact ⟨(i + 1), by omega, by omega, wk (sl := [(2, .ptr 2 0), (10, .d (.one (.row 2 n (ael K f)))), (11, .d (.one (.v (.int .i64 (n : Int))))), (12, .d (.one (.v (.int .i64 (((i + 1) : Nat) : Int))))), (3, .d (.one (ln K (gcdN c (i + 1)))))]) (hp := [(2, .box 36 ([.v (.bool false), .v (.slice none 0 0)]))]) rfl ⟨hs rfl, hs rfl, hs rfl, hs' rfl (le_int (inc64 (by omega))), hs' rfl (le_one (hx ▸ fun _ _ _ h => h)), trivial⟩ ⟨ho rfl, trivial⟩ rfl⟩
      · skip
        refine cReg ?_
        refine mV hTT _ rfl ?_
        refine mV hTT (.d (.one (.v (.int .i64 ((limbs x).length : Int))))) rfl ?_
        refine mV hTT (.d (.one (.v (.bool false)))) (evb (beq_eq_false_iff_ne.2 fun e => hl1 (by exact_mod_cast e))) ?_
        refine mV hTT _ rfl ?_
        refine mG rfl rfl ?_
        refine mG rfl rfl ?_
        refine mG rfl rfl ?_
        refine mG rfl rfl ?_
        refine mV hTT _ rfl ?_
        refine mNil ?_
        refine tN ?_
        refine cF rfl ?_
        refine cSkip ?_
        refine bN ?_
        refine tN ?_
        refine cReg ?_
        refine mV hTT (.d (.one (.v (.int .i64 (IntKind.i64.wrap (((i : Nat) : Int) + 1)))))) rfl ?_
        refine mV hTT _ rfl ?_
        refine mNil ?_
        exact ⟨(i + 1), by omega, by omega, wk (sl := [(2, .ptr 2 0), (10, .d (.one (.row 2 n (ael K f)))), (11, .d (.one (.v (.int .i64 (n : Int))))), (12, .d (.one (.v (.int .i64 (((i + 1) : Nat) : Int))))), (3, .d (.one (ln K (gcdN c (i + 1)))))]) (hp := [(2, .box 36 ([.v (.bool false), .v (.slice none 0 0)]))]) rfl ⟨hs rfl, hs rfl, hs rfl, hs' rfl (le_int (inc64 (by omega))), hs' rfl (le_one (hx ▸ fun _ _ _ h => h)), trivial⟩ ⟨ho rfl, trivial⟩ rfl⟩
  · skip
    refine cExit ?_
    refine tE ?_
    refine tE ?_
    refine bE ?_
    refine tN ?_
    refine cSeq ?_
    refine cReg ?_
    refine mV hTT _ rfl ?_
    refine mC0 (aLNorm (isl K (gcdN c i)) (by omega)) rfl rfl rfl ?_
    refine mC0 (aMade (K := K) (m := (gcdN c i)) (neg := false) rfl) rfl rfl rfl ?_
    refine mS hTT 2 (.box 36 (zn K (zv false (gcdN c i)))) rfl ?_
    refine mNil ?_
    refine tN ?_
    refine cRet ?_
    have hin : i = n := by have h0 := of_decide_eq_false hc1; omega
    exact rQ rfl (le_zn (Nat.le_refl _) (by rw [hin]; rfl))

end Go.Proofs.Ytlkdlicbhhackaa

