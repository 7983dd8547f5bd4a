/-
  WALKS: the document's answers over digits of four decimals: cut, mulAdd, FromN. What they return, as numbers; nothing that was there turns.
-/
import Derived.Test.YtlkdlicbhhackaaRows
import Derived.Test.YtlkdlicbhhackaaJ0
import Derived.BigQuiet
import Derived.Deep.QuietTactic
import Derived.Deep.DeepCutAuto
import Derived.Deep.CutBlock
set_option linter.unusedVariables false
set_option linter.unusedSimpArgs false
namespace Go.Proofs.Ytlkdlicbhhackaa
open Go.RowKit

theorem Try.infoInt : (Try.prog.info? 3).map (fun i => (i.zero, i.size, i.bytes)) = some (some (.int .i64 0), 1, 8) := by kernel_rfl
theorem Try.sizeInt : (Try.prog.info? 3).map (·.size) = some 1 := by kernel_rfl

set_option maxHeartbeats 400000 in
theorem rcut_walk (ao : Option Addr) (n c : Nat) (xs : List Nat) (w : World) (hm : n ≤ 9223372036854775807) (hr : Rw .i64 B4 w ao n c xs) :
    Calls Try.prog 94 #[.slice ao n c] w fun e w' => e = .returned (.slice ao (cutN xs n) c) ∧ w' = w := by
  have hlc := hr.le
  go_enter Try.func94, Try.ntmps94
  go_wp2
  go_loop [3] (fun n' => ∃ k : Nat, k ≤ n ∧ n' = .int .i64 k ∧ cutN xs k = cutN xs n) (fun n' => (intOf n').toNat)
  case atStart => exact ⟨n, Nat.le_refl _, rfl, rfl⟩
  case round =>
    obtain ⟨k, hk, rfl, hcut⟩ := hrel
    have Hcut := hid hcut; clear hcut
    by_cases h0 : k = 0
    · subst h0
      go_wp2
      go_ret
      exact ⟨by rw [← Hcut]; rfl, rfl⟩
    · obtain ⟨j, rfl⟩ : ∃ j, k = j + 1 := ⟨k - 1, by omega⟩
      obtain ⟨b, off, x, rfl, hx, hxB, hcj⟩ := hr.at (show j < n by omega)
      have Hx := hid hx; clear hx hr
      by_cases hz : x = 0
      · subst hz
        go_wp2
        go_round
        case rel => exact ⟨j, by omega, rfl, by rw [← Hcut]; simp [cutN, Hx.out]⟩
        case measure => simp [intOf]
      · have hz' : ((x : Int) == 0) = false := by simpa using hz
        go_wp2
        go_ret
        exact ⟨by rw [← Hcut]; simp [cutN, Hx.out, hz], rfl⟩

/-- The document's cut: the same memory, as far as the row of the number goes. -/
theorem rcut_any (ao : Option Addr) (n c : Nat) (xs : List Nat) (w : World) (hm : n ≤ 9223372036854775807) (hr : Rw .i64 B4 w ao n c xs) :
    Calls Try.prog 94 #[.slice ao n c] w fun e w' => ∃ m, e = .returned (.slice ao m c) ∧ m ≤ n ∧ Rw .i64 B4 w ao m c (digs4 (val4 xs)) ∧ w = w' := by
  refine (rcut_walk ao n c xs w hm hr).mono fun e w' ⟨he, hw⟩ => ?_
  have hcut := cut_digs4 xs hr.lt
  have hr2 := hr.take (cutN_le xs n)
  have hl := hr.len
  subst hl
  rw [hcut] at hr2
  exact ⟨_, he, cutN_le _ _, hr2, hw.symm⟩

set_option maxHeartbeats 2000000 in
/-- mulAdd: a m + c. -/
theorem mulAdd_own (ao : Option Addr) (n cp m c0 : Nat) (xs : List Nat) (w : World) (hn : n ≤ 1073741824) (hm : m ≤ 65536) (hc : c0 ≤ 1000000) (hr : Rw .i64 B4 w ao n cp xs) :
    Calls Try.prog 104 #[.slice ao n cp, .int .i64 (m : Int), .int .i64 (c0 : Int)] w fun e w' => ∃ ro k c', e = .returned (.slice ro k c') ∧ Rw .i64 B4 w' ro k c' (digs4 (val4 xs * m + c0)) ∧ Own w.heap.size w' ro c' ∧ Below w.heap.size w w' := by
  have hl := hr.len
  have HL := hid hl; clear hl
  obtain ⟨i0, hi, hz0, hz1, hz2⟩ := info_parts Try.infoInt
  go_enter Try.func104, Try.ntmps104
  go_wp2_with (at_make; refine Hid.out ?_)
  refine hid ?_
  refine wpList_make_own _ rfl _ _ 40 rfl w.heap.size 3 i0 (.int .i64 0) 1 Try.underlying40 hi hz0 hz1 .i64 .i64 _ (n + 2) rfl rfl (by omega) (by rw [hz2]; omega) (by unfold maxLen; omega) (Nat.le_refl _) fun w1 hown hgrow => ?_
  have hb1 : Below w.heap.size w w1 := (Below.refl _ _).grown hgrow (Nat.le_refl _) (fun k hk => nomatch hk)
  clear hi hz0 hz1 hz2 hgrow
  obtain ⟨v0, hv0⟩ : ∃ v, v = Value.slice (some ⟨w.heap.size, 0, none⟩) 0 (n + 2) := ⟨_, rfl⟩
  rw [← hv0] at hown ⊢
  clear hv0
  go_wp2_with fail
  go_loopw [2, 7, 8] (fun s2 s7 s8 wr => ∃ (k c : Nat) (os : List Nat), s8 = .int .i64 k ∧ s2 = .int .i64 c ∧ c ≤ 1000000 ∧ k + c ≤ n + 1000000 ∧ os.length = k ∧ (∀ o ∈ os, o < B4) ∧ wr.ownsRow w.heap.size 3 1 s7 k (ints .i64 os) ∧ Below w.heap.size w wr ∧
      valB B4 os + B4 ^ k * c = valB B4 (xs.take k) * m + c0) (fun s2 _ s8 _ => (n - (intOf s8).toNat) * 1000001 + (intOf s2).toNat)
  case atStart => exact ⟨0, c0, [], rfl, rfl, hc, by omega, rfl, by simp, hown, hb1, by simp [valB]⟩
  case round =>
    obtain ⟨k, c, os, rfl, rfl, hcB, hkc, hol, hoB, hown, hb, hv⟩ := hrel
    have HV := hid hv; have HOL := hid hol; clear hv hol hb1
    have hbs := hb.size
    by_cases hkn : k < n
    · obtain ⟨b, off, x, rfl, hx, hxB, hcx⟩ := (hr.ext hb).at hkn
      have hx' : x ≤ 9999 := by have : x < 10000 := hxB; omega
      have Hx := hid hx; clear hx hxB
      have hxm := Nat.mul_le_mul hx' hm
      have hxm1 : (x : Int) * (m : Int) ≤ 655294464 := by rw [← Int.natCast_mul]; omega
      have hxm2 : (0 : Int) ≤ (x : Int) * (m : Int) := by rw [← Int.natCast_mul]; omega
      have HXM := hid hxm; clear hxm
      go_wp2_with (at_builtin; refine Hid.out ?_)
      refine hid ?_
      refine wpList_app _ rfl _ _ 40 rfl w.heap.size 3 (.int .i64 0) 1 8 Try.underlying40 Try.infoInt rfl (by decide) u7 k (ints .i64 os) rfl (hown.alloc _) (some ⟨wr.heap.size, 0, none⟩) 1 1 [Value.int .i64 (((c : Int) + (x : Int) * (m : Int)) % 10000)] rfl rfl (fun e => nomatch e) (Nat.le_refl _) (cells_new1 _ _ _) (one_int _ _) (by unfold maxLen; omega) (by omega) (by rw [World.size_alloc]; omega) fun v' w2 hown' _ hb2 => ?_
      have hb3 : Below w.heap.size w w2 := (hb.alloc hbs _).trans hb2
      have e0 : ((c + x * m : Nat) : Int) = (c : Int) + (x : Int) * (m : Int) := by simp
      have e1 : ((c : Int) + (x : Int) * (m : Int)) % 10000 = (((c + x * m) % 10000 : Nat) : Int) := by rw [← e0]; rfl
      rw [e1, ints_snoc] at hown'
      have E0 := hid e0; clear e0 e1 hown
      go_wp2
      go_roundw
      case rel =>
        refine ⟨k + 1, (c + x * m) / 10000, os ++ [(c + x * m) % 10000], by go_num, by rw [← E0.out]; rfl, ?_, ?_, by rw [List.length_append, HOL.out]; rfl, mem_snoc_lt hoB (Nat.mod_lt _ (by decide)), hown', hb3, ?_⟩
        · have := HXM.out; omega
        · have := HXM.out; omega
        · exact mulAdd_step HOL.out HV.out (valB_take_some _ Hx.out)
      case measure =>
        have h1 : ((c : Int) + (x : Int) * (m : Int)) / 10000 ≤ 1000000 := by omega
        simp only [intOf]
        omega
    · have hnx : valB B4 (xs.take (k + 1)) = valB B4 (xs.take k) := valB_take_none _ (by rw [HL.out]; omega)
      have HNX := hid hnx; clear hnx
      by_cases hc0 : c = 0
      · subst hc0
        have hd : decide ((k : Int) < (n : Int)) = false := by rw [decide_eq_false_iff_not]; omega
        have hval : val4 os = val4 xs * m + c0 := by
          have h2 := HV.out
          rw [List.take_of_length_le (l := xs) (by rw [HL.out]; omega)] at h2
          unfold val4; omega
        obtain ⟨ao', c', rfl, h1, h2⟩ := own_of_ownsRow (k := .i64) (B := B4) (by rw [HOL.out]; exact hown) hoB
        have HVAL := hid hval; clear hval
        go_wp2_with fail
        refine (rcut_any _ _ _ _ _ (by rw [HOL.out]; omega) h1).mono ?_
        rintro e w' ⟨r1, rfl, hr1, hres, rfl⟩
        rw [HVAL.out] at hres
        go_wp2
        go_ret
        exact ⟨_, _, _, rfl, hres, h2, hb⟩
      · have hd1 : decide (k < n) = false := by rw [decide_eq_false_iff_not]; omega
        have hcpos : 0 < c := by omega
        go_wp2_with (at_builtin; refine Hid.out ?_)
        refine hid ?_
        refine wpList_app _ rfl _ _ 40 rfl w.heap.size 3 (.int .i64 0) 1 8 Try.underlying40 Try.infoInt rfl (by decide) u7 k (ints .i64 os) rfl (hown.alloc _) (some ⟨wr.heap.size, 0, none⟩) 1 1 [Value.int .i64 ((c : Int) % 10000)] rfl rfl (fun e => nomatch e) (Nat.le_refl _) (cells_new1 _ _ _) (one_int _ _) (by unfold maxLen; omega) (by omega) (by rw [World.size_alloc]; omega) fun v' w2 hown' _ hb2 => ?_
        have hb3 : Below w.heap.size w w2 := (hb.alloc hbs _).trans hb2
        have e1 : (c : Int) % 10000 = (((c + 0 * m) % 10000 : Nat) : Int) := by simp
        rw [e1, ints_snoc] at hown'
        clear e1 hown
        go_wp2
        go_roundw
        case rel =>
          refine ⟨k + 1, (c + 0 * m) / 10000, os ++ [(c + 0 * m) % 10000], by go_num, by simp, by omega, by omega, by rw [List.length_append, HOL.out]; rfl, mem_snoc_lt hoB (Nat.mod_lt _ (by decide)), hown', hb3, ?_⟩
          exact mulAdd_step HOL.out HV.out (by rw [HNX.out]; simp)
        case measure =>
          simp only [intOf]
          omega

theorem mulAdd_any (ao : Option Addr) (n cp m c0 : Nat) (xs : List Nat) (w : World) (hn : n ≤ 1073741824) (hm : m ≤ 65536) (hc : c0 ≤ 1000000) (hr : Rw .i64 B4 w ao n cp xs) :
    Calls Try.prog 104 #[.slice ao n cp, .int .i64 (m : Int), .int .i64 (c0 : Int)] w fun e w' => ∃ ro k c', e = .returned (.slice ro k c') ∧ Rw .i64 B4 w' ro k c' (digs4 (val4 xs * m + c0)) ∧ Below w.heap.size w w' :=
  (mulAdd_own ao n cp m c0 xs w hn hm hc hr).mono fun e w' ⟨ro, k, c', he, h1, _, h2⟩ => ⟨ro, k, c', he, h1, h2⟩

set_option maxHeartbeats 1000000 in
/-- FromN: a row of limbs as the document's digits. -/
theorem fromN_own (ao : Option Addr) (n cp : Nat) (xs : List Nat) (w : World) (hn : n ≤ 100000000) (hr : Rw .u32 B32 w ao n cp xs) :
    Calls Try.prog 91 #[.slice ao n cp] w fun e w' => ∃ ro k c', e = .returned (.slice ro k c') ∧ Rw .i64 B4 w' ro k c' (digs4 (val xs)) ∧ k ≤ 3 * n ∧ Own w.heap.size w' ro c' ∧ Below w.heap.size w w' := by
  have hl := hr.len
  have HL := hid hl; clear hl
  go_enter Try.func91, Try.ntmps91
  go_wp2_with fail
  go_loopw [3, 4] (fun s3 s4 wr => ∃ (k : Nat) (ro : Option Addr) (m c' : Nat), k ≤ n ∧ s4 = .int .i64 ((k : Int) - 1) ∧ s3 = .slice ro m c' ∧ Rw .i64 B4 wr ro m c' (digs4 (valB B32 (xs.drop k))) ∧ Own w.heap.size wr ro c' ∧ Below w.heap.size w wr) (fun _ s4 _ => (intOf s4 + 1).toNat)
  case atStart => exact ⟨n, none, 0, 0, Nat.le_refl _, rfl, rfl, by rw [List.drop_of_length_le (Nat.le_of_eq HL.out)]; exact Rw.nil _ _ _, Own.nil _ _ _, Below.refl _ _⟩
  case round =>
    obtain ⟨k, ro, m, c', hk, rfl, rfl, hrow, hown, hb⟩ := hrel
    have hlen := hrow.len
    have hmB : m ≤ 300000000 := by
      have h1 := valB_lt (B := B32) (xs := xs.drop k) (fun x hx => hr.lt x (List.mem_of_mem_drop hx))
      have h2 := digs4_of_limbs h1
      rw [hlen, List.length_drop, HL.out] at h2
      omega
    clear hlen
    by_cases h0 : k = 0
    · subst h0
      go_wp2
      go_ret
      refine ⟨_, _, _, rfl, by rw [List.drop_zero] at hrow; exact hrow, ?_, hown, hb⟩
      have h1 := digs4_of_limbs (val_lt hr.lt)
      rw [List.drop_zero] at hrow
      have h3 := hrow.len
      rw [HL.out] at h1
      unfold val at h1
      omega
    · obtain ⟨j, rfl⟩ : ∃ j, k = j + 1 := ⟨k - 1, by omega⟩
      obtain ⟨b, off, x, rfl, hx, hxB, hcx⟩ := (hr.ext hb).at (show j < n by omega)
      have hx' : x < 4294967296 := hxB
      obtain ⟨xh, hxh⟩ : ∃ xh, xh = x / 65536 := ⟨_, rfl⟩
      obtain ⟨xl, hxl⟩ : ∃ xl, xl = x % 65536 := ⟨_, rfl⟩
      have e1 : (x : Int) / 65536 = (xh : Int) := by omega
      have e2 : (x : Int) % 65536 = (xl : Int) := by omega
      have hxhB : xh < 65536 := by omega
      have hxlB : xl < 65536 := by omega
      have hx2 : x = xh * 65536 + xl := by omega
      have hval := valB_drop_some B32 hx
      have HVAL := hid hval; have HX2 := hid hx2
      clear hx hxB hxh hxl hx2 hval
      go_wp2_with fail
      refine (mulAdd_any _ m c' 65536 xh _ _ (by omega) (by omega) (by omega) hrow).mono ?_
      rintro e w1 ⟨r1, k1, c1, rfl, hrow1, hb1⟩
      rw [val4_digs4] at hrow1
      have hk1 : k1 ≤ 300000003 := by
        have h3 : val4 (digs4 (valB B32 (xs.drop (j + 1)))) * 65536 + xh < B32 ^ (n - (j + 1) + 1) := by
          rw [val4_digs4]
          have h1 := valB_lt (B := B32) (xs := xs.drop (j + 1)) (fun x hx => hr.lt x (List.mem_of_mem_drop hx))
          rw [List.length_drop, HL.out] at h1
          rw [Nat.pow_succ]
          unfold B32 at *
          omega
        have h4 := digs4_of_limbs h3
        rw [val4_digs4, hrow1.len] at h4
        omega
      have hcx1 := hb1.cell (p := ⟨b, off + j, none⟩) (World.block_lt_of_cell? _ _ hcx)
      rw [hcx] at hcx1
      go_wp2_with fail
      refine (mulAdd_own _ k1 c1 65536 xl _ _ (by omega) (by omega) (by omega) hrow1).mono ?_
      rintro e w2 ⟨r2, k2, c2, rfl, hrow2, hown2, hb2⟩
      have hown3 := hown2.mono (Nat.le_trans hb.size hb1.size)
      clear hown2 hown
      rw [val4_digs4] at hrow2
      go_wp2
      go_roundw
      case rel =>
        refine ⟨j, r2, k2, c2, by omega, by go_num, rfl, ?_, hown3, hb.trans ((ext_trans hb1 hb2).mono hb.size)⟩
        rw [HVAL.out, HX2.out, show xh * 65536 + xl + B32 * valB B32 (xs.drop (j + 1)) = (valB B32 (xs.drop (j + 1)) * 65536 + xh) * 65536 + xl by unfold B32; omega]
        exact hrow2
      case measure => simp [intOf]; try omega

theorem fromN_any (ao : Option Addr) (n cp : Nat) (xs : List Nat) (w : World) (hn : n ≤ 100000000) (hr : Rw .u32 B32 w ao n cp xs) :
    Calls Try.prog 91 #[.slice ao n cp] w fun e w' => ∃ ro k c', e = .returned (.slice ro k c') ∧ Rw .i64 B4 w' ro k c' (digs4 (val xs)) ∧ k ≤ 3 * n ∧ Below w.heap.size w w' :=
  (fromN_own ao n cp xs w hn hr).mono fun e w' ⟨ro, k, c', he, h1, hk, _, h2⟩ => ⟨ro, k, c', he, h1, hk, h2⟩

end Go.Proofs.Ytlkdlicbhhackaa

/-
  WALKS: limb.cut, limb.Norm, limb.Cmp: what they return, as numbers; nothing that was there turns. Conditions: the lengths are no more than memory bears.
-/
set_option linter.unusedVariables false
set_option linter.unusedSimpArgs false
namespace Go.Proofs.Ytlkdlicbhhackaa
open Go.RowKit

theorem Try.infoU32 : (Try.prog.info? 55).map (fun i => (i.zero, i.size, i.bytes)) = some (some (.int .u32 0), 1, 4) := by kernel_rfl
theorem Try.sizeU32 : (Try.prog.info? 55).map (·.size) = some 1 := by kernel_rfl

set_option maxHeartbeats 400000 in
theorem cut_walk (ao : Option Addr) (n c : Nat) (xs : List Nat) (w : World) (hm : n ≤ 9223372036854775807) (hr : Rw .u32 B32 w ao n c xs) :
    Calls Try.prog 92 #[.slice ao n c] w fun e w' => e = .returned (.slice ao (cutN xs n) c) ∧ w' = w := by
  have hlc := hr.le
  go_enter Try.func92, Try.ntmps92
  go_wp2
  go_loop [3] (fun n' => ∃ k : Nat, k ≤ n ∧ n' = .int .i64 k ∧ cutN xs k = cutN xs n) (fun n' => (intOf n').toNat)
  case atStart => exact ⟨n, Nat.le_refl _, rfl, rfl⟩
  case round =>
    obtain ⟨k, hk, rfl, hcut⟩ := hrel
    have Hcut := hid hcut; clear hcut
    by_cases h0 : k = 0
    · subst h0
      go_wp2
      go_ret
      exact ⟨by rw [← Hcut]; rfl, rfl⟩
    · obtain ⟨j, rfl⟩ : ∃ j, k = j + 1 := ⟨k - 1, by omega⟩
      obtain ⟨b, off, x, rfl, hx, hxB, hcj⟩ := hr.at (show j < n by omega)
      have Hx := hid hx; clear hx hr
      by_cases hz : x = 0
      · subst hz
        go_wp2
        go_round
        case rel => exact ⟨j, by omega, rfl, by rw [← Hcut]; simp [cutN, Hx.out]⟩
        case measure => simp [intOf]
      · have hz' : ((x : Int) == 0) = false := by simpa using hz
        go_wp2
        go_ret
        exact ⟨by rw [← Hcut]; simp [cutN, Hx.out, hz], rfl⟩

/-- cut: the same memory, as far as the row of the number goes. -/
theorem cut_any (ao : Option Addr) (n c : Nat) (xs : List Nat) (w : World) (hm : n ≤ 9223372036854775807) (hr : Rw .u32 B32 w ao n c xs) :
    Calls Try.prog 92 #[.slice ao n c] w fun e w' => ∃ m, e = .returned (.slice ao m c) ∧ m ≤ n ∧ Rw .u32 B32 w ao m c (limbs (val xs)) ∧ w = w' := by
  refine (cut_walk ao n c xs w hm hr).mono fun e w' ⟨he, hw⟩ => ?_
  have hcut := cut_limbs xs hr.lt
  have hr2 := hr.take (cutN_le xs n)
  have hl := hr.len
  subst hl
  rw [hcut] at hr2
  exact ⟨_, he, cutN_le _ _, hr2, hw.symm⟩

set_option maxHeartbeats 400000 in
/-- Norm: the row of the number, in memory of its own. -/
theorem norm_any (ao : Option Addr) (n c : Nat) (xs : List Nat) (w : World) (hm : n ≤ 1073741824) (hr : Rw .u32 B32 w ao n c xs) :
    Calls Try.prog 81 #[.slice ao n c] w fun e w' => ∃ ao' m c', e = .returned (.slice ao' m c') ∧ m ≤ n ∧ Rw .u32 B32 w' ao' m c' (limbs (val xs)) ∧ Own w.heap.size w' ao' c' ∧ Below w.heap.size w w' := by
  go_enter Try.func81, Try.ntmps81
  go_wp2_with fail
  refine (cut_any ao n c xs _ (by omega) hr).mono ?_
  rintro e w' ⟨m, rfl, hmn, hr2, rfl⟩
  have hl2 := hr2.len
  go_wp2_with (at_builtin; refine Hid.out ?_)
  refine hid ?_
  refine wpList_app _ rfl _ _ 34 rfl w.heap.size 55 (.int .u32 0) 1 4 Try.underlying34 Try.infoU32 rfl (by decide) (.slice none 0 0) 0 [] rfl (World.ownsRow_nil _ _ _ _) ao m c (ints .u32 (limbs (val xs))) rfl (by rw [ints_length]; omega) hr2.2.2.1 hr2.le hr2.cells (ints_one _ _) (by unfold maxLen; omega) (by omega) (Nat.le_refl _) fun v' w1 hown _ hb => ?_
  rw [Nat.zero_add, List.nil_append] at hown
  obtain ⟨ao', c', rfl, h1, h2⟩ := own_of_ownsRow (k := .u32) (B := B32) (by rw [hl2]; exact hown) hr2.lt
  rw [hl2] at h1
  go_wp2
  go_ret
  exact ⟨_, _, _, rfl, hmn, h1, h2, hb⟩

/-- -1, 0, 1: which one is greater. -/
def cmpZ (a b : Int) : Int := if a < b then -1 else if a = b then 0 else 1

theorem cmp_digit {B : Nat} {xs ys : List Nat} (hx : ∀ x ∈ xs, x < B) (hl : xs.length = ys.length) {k : Nat} (hk : k < xs.length) (hd : xs.drop (k + 1) = ys.drop (k + 1))
    (hlt : xs[k] < ys[k]'(by omega)) : valB B xs < valB B ys := by
  rw [valB_drop B xs (k + 1) (by omega), valB_drop B ys (k + 1) (by omega), hd, valB_take_succ B xs k hk, valB_take_succ B ys k (by omega)]
  have h1 : valB B (xs.take k) < B ^ k := by
    have := valB_lt (xs := xs.take k) (fun x h => hx x (List.mem_of_mem_take h))
    rwa [List.length_take, Nat.min_eq_left (by omega)] at this
  have h2 : B ^ k * (xs[k] + 1) ≤ B ^ k * (ys[k]'(by omega)) := Nat.mul_le_mul_left _ hlt
  rw [Nat.mul_add] at h2
  omega

set_option maxHeartbeats 1000000 in
/-- Cmp: -1, 0, 1, as the numbers are. -/
theorem cmp_any (ao bo : Option Addr) (n c m d : Nat) (xs ys : List Nat) (w : World) (hn : n ≤ 1073741824) (hm : m ≤ 1073741824) (hr : Rw .u32 B32 w ao n c xs) (hs : Rw .u32 B32 w bo m d ys) :
    Calls Try.prog 83 #[.slice ao n c, .slice bo m d] w fun e w' => e = .returned (.int .i64 (cmpZ (val xs) (val ys))) ∧ Below w.heap.size w w' := by
  go_enter Try.func83, Try.ntmps83
  go_wp2_with fail
  refine (cut_any ao n c xs _ (by omega) hr).mono ?_
  rintro e w' ⟨n1, rfl, hn1, hr1, rfl⟩
  go_wp2_with fail
  refine (cut_any bo m d ys _ (by omega) hs).mono ?_
  rintro e w' ⟨m1, rfl, hm1, hs1, rfl⟩
  have hl1 := hr1.len
  have hl2 := hs1.len
  generalize hA : limbs (val xs) = A at *
  generalize hB : limbs (val ys) = B at *
  have HA := hid hA; have HB := hid hB; have HL1 := hid hl1; have HL2 := hid hl2
  clear hA hB hl1 hl2
  have hvx : val xs = val A := by rw [← HA.out, val_limbs]
  have hvy : val ys = val B := by rw [← HB.out, val_limbs]
  have HVX := hid hvx; have HVY := hid hvy; clear hvx hvy hr hs
  by_cases hne : n1 = m1
  · subst hne
    go_wp2_with fail
    go_loopw [5] (fun i wr => ∃ k : Nat, k ≤ n1 ∧ i = .int .i64 ((k : Int) - 1) ∧ A.drop k = B.drop k ∧ Below w.heap.size w wr) (fun i _ => (intOf i + 1).toNat)
    case atStart => exact ⟨n1, Nat.le_refl _, rfl, by rw [List.drop_of_length_le (Nat.le_of_eq HL1.out), List.drop_of_length_le (Nat.le_of_eq HL2.out)], Below.refl _ _⟩
    case round =>
      obtain ⟨k, hk, rfl, hd, hb⟩ := hrel
      have Hd := hid hd; clear hd
      by_cases h0 : k = 0
      · subst h0
        go_wp2
        go_ret
        exact ⟨ret_int (by have := Hd.out; simp only [List.drop_zero] at this; rw [HVX.out, HVY.out, this]; simp [cmpZ]), hb⟩
      · obtain ⟨j, rfl⟩ : ∃ j, k = j + 1 := ⟨k - 1, by omega⟩
        obtain ⟨b1, off1, x, rfl, hx, hxB, hcx⟩ := (hr1.ext hb).at (show j < n1 by omega)
        obtain ⟨b2, off2, y, rfl, hy, hyB, hcy⟩ := (hs1.ext hb).at (show j < n1 by omega)
        have Hx := hid hx; have Hy := hid hy; clear hx hy
        by_cases hxy : x < y
        · go_wp2
          go_quiet (fail)
          go_wp2
          go_ret
          refine ⟨ret_int ?_, ext_drewN hb _⟩
          have hA : A.length = B.length := by rw [HL1.out, HL2.out]
          have := cmp_digit (B := B32) hr1.lt hA (k := j) (by rw [HL1.out]; omega) Hd.out (by
            obtain ⟨_, e1⟩ := List.getElem?_eq_some_iff.1 Hx.out
            obtain ⟨_, e2⟩ := List.getElem?_eq_some_iff.1 Hy.out
            rw [e1, e2]; exact hxy)
          rw [HVX.out, HVY.out]; unfold val; rw [cmpZ, if_pos (by omega)]
        · by_cases hyx : y < x
          · have e1 : decide (x < y) = false := by simpa using hxy
            go_wp2
            go_quiet (fail)
            go_wp2
            go_quiet (fail)
            go_wp2
            go_ret
            refine ⟨ret_int ?_, ext_drewN (ext_drewN hb _) _⟩
            have hA : B.length = A.length := by rw [HL1.out, HL2.out]
            have := cmp_digit (B := B32) hs1.lt hA (k := j) (by rw [HL2.out]; omega) Hd.out.symm (by
              obtain ⟨_, e1⟩ := List.getElem?_eq_some_iff.1 Hx.out
              obtain ⟨_, e2⟩ := List.getElem?_eq_some_iff.1 Hy.out
              rw [e1, e2]; exact hyx)
            rw [HVX.out, HVY.out]; unfold val; rw [cmpZ, if_neg (by omega), if_neg (by omega)]
          · have e1 : decide (x < y) = false := by simpa using hxy
            have e2 : decide (y < x) = false := by simpa using hyx
            obtain rfl : x = y := by omega
            go_wp2
            go_quiet (fail)
            go_wp2
            go_quiet (fail)
            go_wp2
            go_roundw
            case rel =>
              refine ⟨j, by omega, by go_num, ?_, ext_drewN hb _⟩
              obtain ⟨h1, e1⟩ := List.getElem?_eq_some_iff.1 Hx.out
              obtain ⟨h2, e2⟩ := List.getElem?_eq_some_iff.1 Hy.out
              rw [List.drop_eq_getElem_cons h1, List.drop_eq_getElem_cons h2, e1, e2, Hd.out]
            case measure => simp [intOf]
  · by_cases hlt : n1 < m1
    · go_wp2
      go_ret
      exact ⟨ret_int (by have := limbs_shorter (m := val xs) (n := val ys) (by rw [HA.out, HB.out, HL1.out, HL2.out]; exact hlt); rw [cmpZ, if_pos (by omega)]), Below.refl _ _⟩
    · go_wp2
      go_ret
      exact ⟨ret_int (by have := limbs_shorter (m := val ys) (n := val xs) (by rw [HA.out, HB.out, HL1.out, HL2.out]; omega); rw [cmpZ, if_neg (by omega), if_neg (by omega)]), Below.refl _ _⟩

end Go.Proofs.Ytlkdlicbhhackaa

/-
  WALKS: the document's answers: small, ToN, CmpN, SubN. What they return, as numbers; nothing that was there turns.
-/
set_option linter.unusedVariables false
set_option linter.unusedSimpArgs false
namespace Go.Proofs.Ytlkdlicbhhackaa
open Go.RowKit

set_option maxHeartbeats 1000000 in
/-- small: quotient and remainder by a small number above 0. -/
theorem small_any (ao : Option Addr) (n c : Nat) (xs : List Nat) (v : Nat) (w : World) (hn : n ≤ 1073741824) (hv0 : 0 < v) (hvB : v ≤ 65536) (hr : Rw .i64 B4 w ao n c xs) :
    Calls Try.prog 105 #[.slice ao n c, .int .i64 (v : Int)] w fun e w' => ∃ ro k c', e = .returned (.tuple #[.slice ro k c', .int .i64 ((val4 xs % v : Nat) : Int)]) ∧ k ≤ n ∧ Rw .i64 B4 w' ro k c' (digs4 (val4 xs / v)) ∧ Own w.heap.size w' ro c' ∧ Below w.heap.size w w' := by
  have hvne : ((v : Int) == 0) = false := by rw [beq_eq_false_iff_ne]; omega
  have hvpos : (1 : Int) ≤ v := by omega
  go_enter Try.func105, Try.ntmps105
  go_wp2_with (at_make; refine Hid.out ?_)
  refine hid ?_
  refine wpList_mk _ rfl _ _ 40 rfl 3 (.int .i64 0) 8 Try.underlying40 Try.infoInt rfl .i64 .i64 _ _ n rfl rfl (by omega) (by omega) (by omega) (by unfold maxLen; omega) fun w2 hblk hbelow hlt => ?_
  obtain ⟨G, hG⟩ : ∃ G, G = w.heap.size := ⟨_, rfl⟩
  rw [← hG] at hblk hlt hbelow ⊢
  have HG := hid hG; clear hG
  rw [← ints_replicate] at hblk
  have hpl := hr.len
  have HPL := hid hpl; clear hpl
  go_wp2_with fail
  go_loopw [7, 8] (fun s7 s8 wr => ∃ (k r : Nat) (os : List Nat), k ≤ n ∧ s8 = .int .i64 ((k : Int) - 1) ∧ s7 = .int .i64 r ∧ r < v ∧ os.length = n ∧ (∀ o ∈ os, o < B4) ∧ Blk wr G 3 (ints .i64 os) ∧ Below G w wr ∧
      valB B4 (xs.drop k) = v * valB B4 (os.drop k) + r) (fun _ s8 _ => (intOf s8 + 1).toNat)
  case atStart => exact ⟨n, 0, List.replicate n 0, Nat.le_refl _, rfl, rfl, hv0, by simp, (fun o ho => by have := (List.mem_replicate.1 ho).2; subst this; decide), hblk, hbelow, by rw [List.drop_of_length_le (Nat.le_of_eq HPL.out), List.drop_of_length_le (by simp)]; rfl⟩
  case round =>
    obtain ⟨k, r, os, hk, rfl, rfl, hrv, hol, hoB, hb, hbe, hv⟩ := hrel
    have HV := hid hv; have HOL := hid hol; clear hv hol hblk hbelow
    have hb0 := hb.lt
    by_cases h0 : k = 0
    · subst h0
      have hv := HV.out
      rw [List.drop_zero, List.drop_zero] at hv
      have HV2 := hid hv; clear hv HV
      go_wp2_with fail
      have hrow := hb.rw hoB
      rw [HOL.out] at hrow
      refine (rcut_any _ _ _ _ _ (by omega) hrow).mono ?_
      rintro e w' ⟨r1, rfl, hr1', hres, rfl⟩
      have hown := hb.own (base := G) (n := n) (Nat.le_refl _) (by rw [ints_length, HOL.out]; exact Nat.le_refl _)
      go_wp2
      go_ret2
      have hmod : val4 xs % v = r := by
        have h2 := HV2.out
        unfold val4; rw [h2, Nat.mul_add_mod, Nat.mod_eq_of_lt hrv]
      have hdiv : val4 xs / v = val4 os := by
        have h2 := HV2.out
        unfold val4; rw [h2, Nat.mul_add_div hv0, Nat.div_eq_of_lt hrv, Nat.add_zero]
      exact ⟨_, _, _, by rw [hmod]; rfl, hr1', by rw [hdiv]; exact hres, by rw [← HG.out]; exact hown, by rw [← HG.out]; exact hbe⟩
    · obtain ⟨j, rfl⟩ : ∃ j, k = j + 1 := ⟨k - 1, by omega⟩
      obtain ⟨b1, off1, x, rfl, hx, hxB, hcx⟩ := (hr.ext (by rw [← HG.out]; exact hbe)).at (show j < n by omega)
      have hx' : x < 10000 := hxB
      have Hx := hid hx; clear hx hxB
      have hcell := hb.cell j (by rw [ints_length, HOL.out]; omega)
      have hfree := hb.free j
      obtain ⟨s, hs⟩ : ∃ s : Nat, s = r * 10000 + x := ⟨_, rfl⟩
      have hsI : (r : Int) * 10000 + (x : Int) = (s : Int) := by omega
      have hqB : s / v < 10000 := by
        rw [Nat.div_lt_iff_lt_mul hv0, hs]
        have := Nat.mul_le_mul_right 10000 (show r + 1 ≤ v from hrv)
        rw [Nat.add_mul, Nat.mul_comm v] at this
        omega
      obtain ⟨q, hq⟩ : ∃ q : Nat, q = s / v := ⟨_, rfl⟩
      obtain ⟨t, ht⟩ : ∃ t : Nat, t = s % v := ⟨_, rfl⟩
      have htv : t < v := by rw [ht]; exact Nat.mod_lt _ hv0
      have hqv : v * q + t = s := by rw [hq, ht]; exact Nat.div_add_mod s v
      have hq' : (s : Int) / (v : Int) = (q : Int) := by rw [hq]; rfl
      have ht' : (s : Int) % (v : Int) = (t : Int) := by rw [ht]; rfl
      rw [← hq] at hqB
      have HS := hid hs; have HQV := hid hqv; clear hs hqv hq ht
      go_wp2
      go_roundw
      case rel =>
        have hv := hb.set j (.int .i64 (q : Int))
        rw [ints_set] at hv
        refine ⟨j, t, os.set j q, by omega, by go_num, ?_, htv, by rw [List.length_set]; exact HOL.out, mem_set_lt hoB hqB j, ?_, hbe.setCell (Nat.le_refl _) _, small_step (by rw [HOL.out]; omega) Hx.out HV.out HS.out HQV.out⟩
        · first | rfl | (rw [ht'])
        · exact hv
      case measure => simp [intOf]; try omega

set_option maxHeartbeats 1000000 in
/-- ToN: a number as limbs. -/
theorem toN_own (ao : Option Addr) (n c N : Nat) (w : World) (hn : n ≤ 1000000000) (hr : Rw .i64 B4 w ao n c (digs4 N)) :
    Calls Try.prog 93 #[.slice ao n c] w fun e w' => ∃ ro k c', e = .returned (.slice ro k c') ∧ Rw .u32 B32 w' ro k c' (limbs N) ∧ k ≤ n ∧ Own w.heap.size w' ro c' ∧ Below w.heap.size w w' := by
  go_enter Try.func93, Try.ntmps93
  obtain ⟨v0, hv0⟩ : ∃ v, v = Value.slice none 0 0 := ⟨_, rfl⟩
  go_wp2_with fail
  go_loopw [0, 3] (fun s0 s3 wr => ∃ (V k m c' : Nat) (ao : Option Addr) (os : List Nat), s0 = .slice ao m c' ∧ Rw .i64 B4 wr ao m c' (digs4 V) ∧ m + k ≤ n ∧ os.length = k ∧ (∀ o ∈ os, o < B32) ∧ wr.ownsRow w.heap.size 55 1 s3 k (ints .u32 os) ∧
      Below w.heap.size w wr ∧ os ++ limbs V = limbs N) (fun s0 _ _ => match s0 with | .slice _ m _ => m | _ => 0)
  case atStart => exact ⟨N, 0, n, c, ao, [], rfl, hr, by omega, rfl, by simp, World.ownsRow_nil _ _ _ _, Below.refl _ _, rfl⟩
  case round =>
    obtain ⟨V, k, m, c', ao, os, rfl, hrow, hmk, hol, hoB, hown, hb, hv⟩ := hrel
    have hlen := hrow.len
    have HLEN := hid hlen; have HOL := hid hol; have HV := hid hv; clear hlen hol hv
    have hbs := hb.size
    by_cases hm0 : m = 0
    · subst hm0
      obtain ⟨ao', c1, rfl, h1, h2⟩ := own_of_ownsRow (k := .u32) (B := B32) (by rw [HOL.out]; exact hown) hoB
      rw [HOL.out] at h1
      go_wp2
      go_ret
      have hV0 : V = 0 := digs4_eq_nil.1 (List.eq_nil_of_length_eq_zero HLEN.out)
      have h3 := HV.out
      rw [hV0, limbs_zero, List.append_nil] at h3
      rw [h3] at h1
      exact ⟨_, _, _, by rw [HOL.out]; rfl, h1, by omega, h2, hb⟩
    · have hVne : V ≠ 0 := by
        rintro rfl
        exact hm0 (by rw [← HLEN.out]; rfl)
      have HVN := hid hVne; clear hVne
      go_wp2_with fail
      refine (small_any _ _ _ _ 65536 _ (by omega) (by omega) (by omega) hrow).mono ?_
      rintro e w1 ⟨r1, k1, c1, rfl, hk1, hrow1, _, hb1⟩
      rw [val4_digs4] at hrow1 ⊢
      obtain ⟨lo, hlo⟩ : ∃ lo, lo = V % 65536 := ⟨_, rfl⟩
      have hloB : lo < 65536 := by omega
      rw [← hlo]
      have HLO := hid hlo; clear hlo
      go_wp2_with fail
      refine (small_any _ _ _ _ 65536 _ (by omega) (by omega) (by omega) hrow1).mono ?_
      rintro e w2 ⟨r2, k2, c2, rfl, hk2, hrow2, hown2r, hb2⟩
      rw [val4_digs4] at hrow2 ⊢
      obtain ⟨hi, hhi⟩ : ∃ hi, hi = V / 65536 % 65536 := ⟨_, rfl⟩
      have hhiB : hi < 65536 := by omega
      rw [← hhi]
      have HHI := hid hhi; clear hhi
      have hb12 := ext_trans hb1 hb2
      have hb02 : Below w.heap.size w w2 := hb.trans (hb12.mono hbs)
      have hbs2 := hb02.size
      have hown2 : w2.ownsRow w.heap.size 55 1 u3 k (ints .u32 os) := by
        refine hown.kept (row := none) ⟨hb12.os, hb12.tape, hb12.output, hb12.size, fun j hj _ => hb12.block j hj⟩ ?_
        cases h5 : u3.ownBlock <;> simp
      have hklt : k2 < m := by
        have h1 := hrow2.len
        have h2 : V / 65536 / 65536 < V := by have := HVN.out; omega
        have h3 : digs4 V = V % B4 :: digs4 (V / B4) := digs4_pos HVN.out
        have h4 : (digs4 (V / 65536 / 65536)).length ≤ (digs4 (V / B4)).length := digs4_mono (by unfold B4; omega)
        have h5 := HLEN.out
        rw [h3, List.length_cons] at h5
        omega
      have hlimb : V % B32 = hi * 65536 + lo := by rw [HLO.out, HHI.out]; unfold B32; omega
      have hlimb2 : V / B32 = V / 65536 / 65536 := by unfold B32; omega
      have hcast : (hi : Int) * 65536 + (lo : Int) = ((hi * 65536 + lo : Nat) : Int) := by omega
      have hstep : (os ++ [hi * 65536 + lo]) ++ limbs (V / 65536 / 65536) = limbs N := by
        rw [← HV.out, limbs_pos HVN.out, hlimb, hlimb2, List.append_assoc]; rfl
      have HST := hid hstep; have HC := hid hcast
      clear hlimb hlimb2 hcast hstep
      go_wp2_with (at_builtin; refine Hid.out ?_)
      refine hid ?_
      refine wpList_app _ rfl _ _ 34 rfl w.heap.size 55 (.int .u32 0) 1 4 Try.underlying34 Try.infoU32 rfl (by decide) u3 k (ints .u32 os) rfl (hown2.alloc _) (some ⟨w2.heap.size, 0, none⟩) 1 1 [Value.int .u32 ((hi : Int) * 65536 + (lo : Int))] rfl rfl (fun e => nomatch e) (Nat.le_refl _) (cells_new1 _ _ _) (one_int _ _) (by unfold maxLen; omega) (by omega) (by rw [World.size_alloc]; omega) fun v' w3 hown' hgrow3 hb3 => ?_
      have hbA : Below w2.heap.size w2 (w2.alloc (.cells #[.int .u32 ((hi : Int) * 65536 + (lo : Int))] 55)) := (Below.refl _ _).alloc (Nat.le_refl _) _
      have hb4 : Below w.heap.size w w3 := (hb02.trans (hbA.mono hbs2)).trans hb3
      have hlim : hi * 65536 + lo < B32 := by unfold B32; omega
      rw [HC.out, ints_snoc] at hown'
      have hrow3 : Rw .i64 B4 w3 r2 k2 c2 (digs4 (V / 65536 / 65536)) := (hrow2.ext hbA).grown (hown2r.ext hbA) hgrow3 (fun j hj => by
        have h6 := (hown.lt j hj).2
        have h7 := hb1.size
        omega)
      clear hgrow3 hbA hrow2 hown2r hown2 hown hrow1 hrow
      go_wp2
      go_roundw
      case rel => exact ⟨V / 65536 / 65536, k + 1, k2, c2, r2, os ++ [hi * 65536 + lo], rfl, hrow3, by omega, by rw [List.length_append, HOL.out]; rfl, mem_snoc_lt hoB hlim, hown', hb4, HST.out⟩
      case measure => exact hklt

theorem toN_any (ao : Option Addr) (n c N : Nat) (w : World) (hn : n ≤ 1000000000) (hr : Rw .i64 B4 w ao n c (digs4 N)) :
    Calls Try.prog 93 #[.slice ao n c] w fun e w' => ∃ ro k c', e = .returned (.slice ro k c') ∧ Rw .u32 B32 w' ro k c' (limbs N) ∧ k ≤ n ∧ Below w.heap.size w w' :=
  (toN_own ao n c N w hn hr).mono fun e w' ⟨ro, k, c', he, h1, hk, _, h2⟩ => ⟨ro, k, c', he, h1, hk, h2⟩

set_option maxHeartbeats 1000000 in
/-- CmpN: -1, 0, 1, as the numbers are. -/
theorem cmpN_any (ao bo : Option Addr) (n c m d M N : Nat) (w : World) (hn : n ≤ 1073741824) (hm : m ≤ 1073741824) (hr : Rw .i64 B4 w ao n c (digs4 M)) (hs : Rw .i64 B4 w bo m d (digs4 N)) :
    Calls Try.prog 77 #[.slice ao n c, .slice bo m d] w fun e w' => e = .returned (.int .i64 (cmpZ M N)) ∧ Below w.heap.size w w' := by
  have hl1 := hr.len
  have hl2 := hs.len
  generalize hA : digs4 M = A at *
  generalize hB : digs4 N = B at *
  have hvx : M = val4 A := by rw [← hA, val4_digs4]
  have hvy : N = val4 B := by rw [← hB, val4_digs4]
  have HA := hid hA; have HB := hid hB; have HL1 := hid hl1; have HL2 := hid hl2; have HVX := hid hvx; have HVY := hid hvy
  clear hA hB hl1 hl2 hvx hvy
  go_enter Try.func77, Try.ntmps77
  by_cases hne : n = m
  · subst hne
    go_wp2_with fail
    go_loopw [5] (fun i wr => ∃ k : Nat, k ≤ n ∧ i = .int .i64 ((k : Int) - 1) ∧ A.drop k = B.drop k ∧ Below w.heap.size w wr) (fun i _ => (intOf i + 1).toNat)
    case atStart => exact ⟨n, Nat.le_refl _, rfl, by rw [List.drop_of_length_le (Nat.le_of_eq HL1.out), List.drop_of_length_le (Nat.le_of_eq HL2.out)], Below.refl _ _⟩
    case round =>
      obtain ⟨k, hk, rfl, hd, hb⟩ := hrel
      have Hd := hid hd; clear hd
      by_cases h0 : k = 0
      · subst h0
        go_wp2
        go_ret
        exact ⟨ret_int (by have := Hd.out; simp only [List.drop_zero] at this; rw [HVX.out, HVY.out, this]; simp [cmpZ]), hb⟩
      · obtain ⟨j, rfl⟩ : ∃ j, k = j + 1 := ⟨k - 1, by omega⟩
        obtain ⟨b1, off1, x, rfl, hx, hxB, hcx⟩ := (hr.ext hb).at (show j < n by omega)
        obtain ⟨b2, off2, y, rfl, hy, hyB, hcy⟩ := (hs.ext hb).at (show j < n by omega)
        have Hx := hid hx; have Hy := hid hy; clear hx hy
        by_cases hxy : x = y
        · subst hxy
          go_wp2
          go_quiet (fail)
          go_wp2
          go_roundw
          case rel =>
            refine ⟨j, by omega, by go_num, ?_, ext_drewN hb _⟩
            obtain ⟨h1, e1⟩ := List.getElem?_eq_some_iff.1 Hx.out
            obtain ⟨h2, e2⟩ := List.getElem?_eq_some_iff.1 Hy.out
            rw [List.drop_eq_getElem_cons h1, List.drop_eq_getElem_cons h2, e1, e2, Hd.out]
          case measure => simp [intOf]
        · have e1 : ((x : Int) != (y : Int)) = true := by rw [bne_iff_ne]; omega
          by_cases hlt : x < y
          · have e2 : decide (x < y) = true := by simpa using hlt
            go_wp2
            go_quiet (fail)
            go_wp2
            go_quiet (fail)
            go_wp2
            go_ret
            refine ⟨ret_int ?_, by first | exact ext_drewN hb _ | exact ext_drewN (ext_drewN hb _) _⟩
            have hA : A.length = B.length := by rw [HL1.out, HL2.out]
            have := cmp_digit (B := B4) hr.lt hA (k := j) (by rw [HL1.out]; omega) Hd.out (by
              obtain ⟨_, e1⟩ := List.getElem?_eq_some_iff.1 Hx.out
              obtain ⟨_, e2⟩ := List.getElem?_eq_some_iff.1 Hy.out
              rw [e1, e2]; exact hlt)
            rw [HVX.out, HVY.out]; unfold val4; rw [cmpZ, if_pos (by omega)]
          · have e2 : decide (x < y) = false := by simpa using hlt
            go_wp2
            go_quiet (fail)
            go_wp2
            go_quiet (fail)
            go_wp2
            go_ret
            refine ⟨ret_int ?_, by first | exact ext_drewN hb _ | exact ext_drewN (ext_drewN hb _) _⟩
            have hA : B.length = A.length := by rw [HL1.out, HL2.out]
            have := cmp_digit (B := B4) hs.lt hA (k := j) (by rw [HL2.out]; omega) Hd.out.symm (by
              obtain ⟨_, e1⟩ := List.getElem?_eq_some_iff.1 Hx.out
              obtain ⟨_, e2⟩ := List.getElem?_eq_some_iff.1 Hy.out
              rw [e1, e2]; omega)
            rw [HVX.out, HVY.out]; unfold val4; rw [cmpZ, if_neg (by omega), if_neg (by omega)]
  · by_cases hlt : n < m
    · go_wp2
      go_ret
      exact ⟨ret_int (by have := digs4_shorter (m := M) (n := N) (by rw [HA.out, HB.out, HL1.out, HL2.out]; exact hlt); rw [cmpZ, if_pos (by omega)]), Below.refl _ _⟩
    · go_wp2
      go_ret
      exact ⟨ret_int (by have := digs4_shorter (m := N) (n := M) (by rw [HA.out, HB.out, HL1.out, HL2.out]; omega); rw [cmpZ, if_neg (by omega), if_neg (by omega)]), Below.refl _ _⟩

set_option maxHeartbeats 1000000 in
/-- SubN: the difference, which is not below 0. -/
theorem subN_own (ao bo : Option Addr) (n c m d M N : Nat) (w : World) (hn : n ≤ 1073741824) (hm : m ≤ 1073741824) (hle : N ≤ M) (hr : Rw .i64 B4 w ao n c (digs4 M)) (hs : Rw .i64 B4 w bo m d (digs4 N)) :
    Calls Try.prog 78 #[.slice ao n c, .slice bo m d] w fun e w' => ∃ ro k c', e = .returned (.slice ro k c') ∧ Rw .i64 B4 w' ro k c' (digs4 (M - N)) ∧ k ≤ n ∧ Own w.heap.size w' ro c' ∧ Below w.heap.size w w' := by
  have hmn := digs4_mono hle
  rw [hr.len, hs.len] at hmn
  have hpl := hr.len
  have hql := hs.len
  have HPL := hid hpl; have HQL := hid hql; have HLE := hid hle; clear hpl hql hle
  go_enter Try.func78, Try.ntmps78
  go_wp2_with (at_make; refine Hid.out ?_)
  refine hid ?_
  refine wpList_mk _ rfl _ _ 40 rfl 3 (.int .i64 0) 8 Try.underlying40 Try.infoInt rfl .i64 .i64 _ _ n rfl rfl (by omega) (by omega) (by omega) (by unfold maxLen; omega) fun w2 hblk hbelow hlt => ?_
  obtain ⟨G, hG⟩ : ∃ G, G = w.heap.size := ⟨_, rfl⟩
  rw [← hG] at hblk hlt hbelow ⊢
  have HG := hid hG; clear hG
  rw [← ints_replicate] at hblk
  go_wp2_with fail
  go_loopw [6, 14] (fun s6 s14 wr => ∃ (k cy : Nat) (os : List Nat), k ≤ n ∧ s14 = .int .i64 k ∧ s6 = .int .i64 cy ∧ cy ≤ 1 ∧ os.length = n ∧ (∀ o ∈ os, o < B4) ∧ Blk wr G 3 (ints .i64 os) ∧ Below G w wr ∧
      valB B4 (os.take k) + valB B4 ((digs4 N).take k) = valB B4 ((digs4 M).take k) + B4 ^ k * cy) (fun _ s14 _ => n - (intOf s14).toNat)
  case atStart => exact ⟨0, 0, List.replicate n 0, Nat.zero_le _, rfl, rfl, by omega, by simp, (fun o ho => by have := (List.mem_replicate.1 ho).2; subst this; decide), hblk, hbelow, by simp [valB]⟩
  case round =>
    obtain ⟨k, cy, os, hk, rfl, rfl, hcy, hol, hoB, hb, hbe, hv⟩ := hrel
    have HV := hid hv; have HOL := hid hol; clear hv hol hblk hbelow
    have hb0 := hb.lt
    by_cases hkn : k < n
    · obtain ⟨b1, off1, x, rfl, hx, hxB, hcx⟩ := (hr.ext (by rw [← HG.out]; exact hbe)).at hkn
      have hcell := hb.cell k (by rw [ints_length, HOL.out]; omega)
      have hfree := hb.free k
      have hx' : x < 10000 := hxB
      have Hx := hid hx; clear hx hxB
      have key : ∀ y : Nat, y < 10000 → valB B4 ((digs4 N).take (k + 1)) = valB B4 ((digs4 N).take k) + B4 ^ k * y → ∃ d1 b : Nat, d1 < B4 ∧ b ≤ 1 ∧ (d1 : Int) = (if (x : Int) - cy - y < 0 then (x : Int) - cy - y + 10000 else (x : Int) - cy - y) ∧ (b : Int) = (if (x : Int) - cy - y < 0 then 1 else 0) ∧
          valB B4 ((os.set k d1).take (k + 1)) + valB B4 ((digs4 N).take (k + 1)) = valB B4 ((digs4 M).take (k + 1)) + B4 ^ (k + 1) * b := by
        intro y hy hQ
        by_cases h : cy + y ≤ x
        · exact ⟨x - cy - y, 0, by unfold B4; omega, by omega, by rw [if_neg (by omega)]; omega, by rw [if_neg (by omega)]; rfl, sub_step (by rw [HOL.out]; omega) HV.out (valB_take_some _ Hx.out) hQ (by unfold B4; omega)⟩
        · exact ⟨x + 10000 - cy - y, 1, by unfold B4; omega, by omega, by rw [if_pos (by omega)]; omega, by rw [if_pos (by omega)]; rfl, sub_step (by rw [HOL.out]; omega) HV.out (valB_take_some _ Hx.out) hQ (by unfold B4; omega)⟩
      by_cases hkq : k < m
      · obtain ⟨b2, off2, y, rfl, hy, hyB, hcy2⟩ := (hs.ext (by rw [← HG.out]; exact hbe)).at hkq
        have hy' : y < 10000 := hyB
        obtain ⟨d1, b, hd1, hb1, e1, e2, e3⟩ := key y hy' (valB_take_some _ hy)
        have E1 := hid e1; have E2 := hid e2; have E3 := hid e3
        clear key hy hyB e1 e2 e3
        by_cases hneg : (x : Int) - cy - y < 0
        · go_wp2
          go_roundw
          case rel =>
            have hv := hb.set k (.int .i64 (d1 : Int))
            rw [ints_set, E1.out, if_pos hneg] at hv
            exact ⟨k + 1, b, os.set k d1, by omega, by go_num, by rw [E2.out, if_pos hneg], hb1, by rw [List.length_set]; exact HOL.out, mem_set_lt hoB hd1 k, hv, hbe.setCell (Nat.le_refl _) _, E3.out⟩
          case measure => simp [intOf]; omega
        · go_wp2
          go_roundw
          case rel =>
            have hv := hb.set k (.int .i64 (d1 : Int))
            rw [ints_set, E1.out, if_neg (by omega)] at hv
            exact ⟨k + 1, b, os.set k d1, by omega, by go_num, by rw [E2.out, if_neg (by omega)], hb1, by rw [List.length_set]; exact HOL.out, mem_set_lt hoB hd1 k, hv, hbe.setCell (Nat.le_refl _) _, E3.out⟩
          case measure => simp [intOf]; omega
      · obtain ⟨d1, b, hd1, hb1, e1, e2, e3⟩ := key 0 (by omega) (by rw [valB_take_none _ (by rw [HQL.out]; omega)]; simp)
        have E1 := hid e1; have E2 := hid e2; have E3 := hid e3
        clear key e1 e2 e3
        by_cases hneg : (x : Int) - cy < 0
        · go_wp2
          go_roundw
          case rel =>
            have hv := hb.set k (.int .i64 (d1 : Int))
            rw [ints_set, E1.out, if_pos (by omega)] at hv
            refine ⟨k + 1, b, os.set k d1, by omega, by go_num, by rw [E2.out, if_pos (by omega)], hb1, by rw [List.length_set]; exact HOL.out, mem_set_lt hoB hd1 k, ?_, hbe.setCell (Nat.le_refl _) _, E3.out⟩
            rw [show (x : Int) - cy + 10000 = (x : Int) - cy - ((0 : Nat) : Int) + 10000 by omega]; exact hv
          case measure => simp [intOf]; omega
        · go_wp2
          go_roundw
          case rel =>
            have hv := hb.set k (.int .i64 (d1 : Int))
            rw [ints_set, E1.out, if_neg (by omega)] at hv
            refine ⟨k + 1, b, os.set k d1, by omega, by go_num, by rw [E2.out, if_neg (by omega)], hb1, by rw [List.length_set]; exact HOL.out, mem_set_lt hoB hd1 k, ?_, hbe.setCell (Nat.le_refl _) _, E3.out⟩
            rw [show (x : Int) - cy = (x : Int) - cy - ((0 : Nat) : Int) by omega]; exact hv
          case measure => simp [intOf]; omega
    · obtain rfl : k = n := by omega
      go_wp2_with fail
      have hrow := hb.rw hoB
      rw [HOL.out] at hrow
      refine (rcut_any _ _ _ _ _ (by omega) hrow).mono ?_
      rintro e w' ⟨r1, rfl, hr1', hres, rfl⟩
      go_wp2
      go_ret
      refine ⟨_, _, _, rfl, ?_, hr1', by rw [← HG.out]; exact hb.own (Nat.le_refl _) (by rw [ints_length, HOL.out]; exact Nat.le_refl _), by rw [← HG.out]; exact hbe⟩
      have hval : val4 os = M - N := by
        have h2 := HV.out
        rw [valB_take_all _ HPL.out, List.take_of_length_le (l := digs4 N) (by rw [HQL.out]; exact hmn), valB_take_all _ HOL.out] at h2
        have h3 := val4_lt hoB
        rw [HOL.out] at h3
        change val4 os + val4 (digs4 N) = val4 (digs4 M) + _ at h2
        rw [val4_digs4, val4_digs4] at h2
        have h4 := HLE.out
        have : cy = 0 ∨ cy = 1 := by omega
        rcases this with rfl | rfl
        · omega
        · rw [Nat.mul_one] at h2; omega
      rw [← hval]; exact hres

theorem subN_any (ao bo : Option Addr) (n c m d M N : Nat) (w : World) (hn : n ≤ 1073741824) (hm : m ≤ 1073741824) (hle : N ≤ M) (hr : Rw .i64 B4 w ao n c (digs4 M)) (hs : Rw .i64 B4 w bo m d (digs4 N)) :
    Calls Try.prog 78 #[.slice ao n c, .slice bo m d] w fun e w' => ∃ ro k c', e = .returned (.slice ro k c') ∧ Rw .i64 B4 w' ro k c' (digs4 (M - N)) ∧ k ≤ n ∧ Below w.heap.size w w' :=
  (subN_own ao bo n c m d M N w hn hm hle hr hs).mono fun e w' ⟨ro, k, c', he, h1, hk, _, h2⟩ => ⟨ro, k, c', he, h1, hk, h2⟩

end Go.Proofs.Ytlkdlicbhhackaa

/-
  WALKS: the document's division: DivN. What it returns, as numbers; nothing that was there turns.
-/
set_option linter.unusedVariables false
set_option linter.unusedSimpArgs false
namespace Go.Proofs.Ytlkdlicbhhackaa
open Go.RowKit

theorem lit_own (w : World) (base : Nat) (k : IntKind) (x : Nat) (t : TypeId) (hb : base ≤ w.heap.size) :
    (w.alloc (.cells #[.int k (x : Int)] t)).ownsRow base t 1 (.slice (some ⟨w.heap.size, 0, none⟩) 1 1) 1 (ints k [x]) :=
  ⟨rfl, .inr ⟨w.heap.size, 1, _, rfl, hb, heap_alloc_new w _, Nat.le_refl _, by decide, rfl, rfl⟩⟩

theorem cmpZ_le {a b : Int} : cmpZ a b ≤ 0 ↔ a ≤ b := by
  unfold cmpZ
  split
  · omega
  · split <;> omega

set_option maxHeartbeats 2000000 in
/-- DivN: quotient and remainder; the divisor is not 0. -/
theorem divN_own (ao bo : Option Addr) (n c m d M N : Nat) (w : World) (hn : n ≤ 100000000) (hm : m ≤ 100000000) (hN : 0 < N) (hr : Rw .i64 B4 w ao n c (digs4 M)) (hs : Rw .i64 B4 w bo m d (digs4 N)) :
    Calls Try.prog 108 #[.slice ao n c, .slice bo m d] w fun e w' => ∃ qo qn qc ro rn rc, e = .returned (.tuple #[.slice qo qn qc, .slice ro rn rc]) ∧ Rw .i64 B4 w' qo qn qc (digs4 (M / N)) ∧ qn ≤ n ∧ Rw .i64 B4 w' ro rn rc (digs4 (M % N)) ∧ rn ≤ m ∧ Own w.heap.size w' qo qc ∧ Own w.heap.size w' ro rc ∧ Below w.heap.size w w' := by
  have hpl := hr.len
  have hql := hs.len
  have HPL := hid hpl; have HQL := hid hql; clear hpl hql
  go_enter Try.func108, Try.ntmps108
  go_wp2_with (at_make; refine Hid.out ?_)
  refine hid ?_
  refine wpList_mk _ rfl _ _ 40 rfl 3 (.int .i64 0) 8 Try.underlying40 Try.infoInt rfl .i64 .i64 _ _ n rfl rfl (by omega) (by omega) (by omega) (by unfold maxLen; omega) fun w2 hblk hbelow hlt => ?_
  obtain ⟨G, hG⟩ : ∃ G, G = w.heap.size := ⟨_, rfl⟩
  rw [← hG] at hblk hlt hbelow ⊢
  have HG := hid hG; clear hG
  rw [← ints_replicate] at hblk
  go_wp2_with fail
  go_loopw [7, 8] (fun s7 s8 wr => ∃ (k R rn rc : Nat) (ro : Option Addr) (qs : List Nat), k ≤ n ∧ s8 = .int .i64 ((k : Int) - 1) ∧ s7 = .slice ro rn rc ∧ Rw .i64 B4 wr ro rn rc (digs4 R) ∧ Own G wr ro rc ∧ R < N ∧ qs.length = n ∧ (∀ o ∈ qs, o < B4) ∧ Blk wr G 3 (ints .i64 qs) ∧ Below G w wr ∧
      valB B4 ((digs4 M).drop k) = N * valB B4 (qs.drop k) + R) (fun _ s8 _ => (intOf s8 + 1).toNat)
  case atStart => exact ⟨n, 0, 0, 0, none, List.replicate n 0, Nat.le_refl _, rfl, rfl, Rw.nil _ _ _, Own.nil _ _ _, hN, by simp, (fun o ho => by have := (List.mem_replicate.1 ho).2; subst this; decide), hblk, hbelow, by rw [List.drop_of_length_le (Nat.le_of_eq HPL.out), List.drop_of_length_le (by simp)]; rfl⟩
  case round =>
    obtain ⟨k, R, rn, rc, ro, qs, hk, rfl, rfl, hrow, hrown, hRN, hol, hoB, hb, hbe, hv⟩ := hrel
    have HV := hid hv; have HOL := hid hol; clear hv hol hblk hbelow
    have hb0 := hb.lt
    have hrnm : rn ≤ m := by
      have := digs4_mono (Nat.le_of_lt hRN)
      rw [hrow.len, HQL.out] at this; exact this
    by_cases h0 : k = 0
    · subst h0
      have hv := HV.out
      rw [List.drop_zero, List.drop_zero] at hv
      have HV2 := hid hv; clear hv HV
      go_wp2_with fail
      have hqrow := hb.rw hoB
      rw [HOL.out] at hqrow
      refine (rcut_any _ _ _ _ _ (by omega) hqrow).mono ?_
      rintro e w' ⟨r1, rfl, hr1', hres, rfl⟩
      go_wp2
      go_ret2
      have hmod : M % N = R := by
        have h2 := HV2.out
        change val4 (digs4 M) = _ at h2
        rw [val4_digs4] at h2
        rw [h2, Nat.mul_add_mod, Nat.mod_eq_of_lt hRN]
      have hdiv : M / N = val4 qs := by
        have h2 := HV2.out
        change val4 (digs4 M) = _ at h2
        rw [val4_digs4] at h2
        rw [h2, Nat.mul_add_div hN, Nat.div_eq_of_lt hRN, Nat.add_zero]; rfl
      exact ⟨_, _, _, _, _, _, rfl, by rw [hdiv]; exact hres, hr1', by rw [hmod]; exact hrow, hrnm, by rw [← HG.out]; exact hb.own (Nat.le_refl _) (by rw [ints_length, HOL.out]; exact Nat.le_refl _), by rw [← HG.out]; exact hrown, by rw [← HG.out]; exact hbe⟩
    · obtain ⟨j, rfl⟩ : ∃ j, k = j + 1 := ⟨k - 1, by omega⟩
      obtain ⟨b1, off1, x, rfl, hx, hxB, hcx⟩ := (hr.ext (by rw [← HG.out]; exact hbe)).at (show j < n by omega)
      have hx' : x < 10000 := hxB
      have Hx := hid hx; clear hx hxB
      have hrlen := hrow.len
      have HRL := hid hrlen; clear hrlen
      go_wp2_with (at_builtin; refine Hid.out ?_)
      refine hid ?_
      have hbA : Below wr.heap.size wr (wr.alloc (.cells #[.int .i64 (x : Int)] 3)) := (Below.refl _ _).alloc (Nat.le_refl _) _
      refine wpList_app _ rfl _ _ 40 rfl wr.heap.size 3 (.int .i64 0) 1 8 Try.underlying40 Try.infoInt rfl (by decide) _ 1 (ints .i64 [x]) rfl (lit_own wr _ .i64 x 3 (Nat.le_refl _)) ro rn rc (ints .i64 (digs4 R)) rfl (by rw [ints_length, HRL.out]; omega) hrow.2.2.1 hrow.le (hrow.cells.ext hbA) (ints_one _ _) (by unfold maxLen; omega) (by omega) (by rw [World.size_alloc]; omega) fun v' w3 hown' _ hb3 => ?_
      have hb13 : Below wr.heap.size wr w3 := hbA.trans hb3
      have hcat : ints .i64 [x] ++ ints .i64 (digs4 R) = ints .i64 (x :: digs4 R) := by simp [ints]
      rw [hcat] at hown'
      have hxR : ∀ o ∈ (x :: digs4 R), o < B4 := by
        intro o ho
        rcases List.mem_cons.1 ho with rfl | ho
        · exact hx'
        · exact digs4_lt R o ho
      obtain ⟨ao', c', rfl, h1, hown1⟩ := own_of_ownsRow (k := .i64) (B := B4) (xs := x :: digs4 R) (by rw [List.length_cons, HRL.out, Nat.add_comm]; exact hown') hxR
      rw [List.length_cons, HRL.out] at h1 ⊢
      clear hown' hcat hxR hbA hb3
      go_wp2_with fail
      refine (rcut_any _ _ _ _ _ (by omega) h1).mono ?_
      rintro e w' ⟨r1, rfl, hr1', hres, rfl⟩
      have hval : val4 (x :: digs4 R) = x + 10000 * R := by
        unfold val4; rw [valB_cons]
        have := val4_digs4 R
        unfold val4 at this; rw [this]
      rw [hval] at hres
      have hR2 : x + 10000 * R < 10000 * N := by omega
      obtain ⟨R2, hR2e⟩ : ∃ R2, R2 = x + 10000 * R := ⟨_, rfl⟩
      rw [← hR2e] at hres hR2
      have HR2 := hid hR2e; clear hR2e hval
      have hb3 := hb.ext hb13
      have hbe3 : Below G w w3 := hbe.trans (hb13.mono (by omega))
      clear h1 hrow hrown hb hbe
      have hr1m : r1 ≤ m + 1 := by omega
      have hs3 : Rw .i64 B4 w3 bo m d (digs4 N) := hs.ext (by rw [← HG.out]; exact hbe3)
      have hNle : N ≤ N * 65536 := Nat.le_mul_of_pos_right _ (by omega)
      go_wp2_with fail
      go_loopw [9, 10] (fun s9 s10 wi => ∃ lo hi : Nat, s9 = .int .i64 lo ∧ s10 = .int .i64 hi ∧ lo ≤ hi ∧ hi ≤ 9999 ∧ lo * N ≤ R2 ∧ R2 < (hi + 1) * N ∧ Below w3.heap.size w3 wi) (fun s9 s10 _ => (intOf s10 - intOf s9).toNat)
      case atStart => exact ⟨0, 9999, rfl, rfl, by omega, by omega, by omega, hR2, Below.refl _ _⟩
      case round =>
        obtain ⟨lo, hi, rfl, rfl, hlh, hhi, hlo2, hhi2, hbi⟩ := hrel
        have HLO := hid hlo2; have HHI := hid hhi2; clear hlo2 hhi2
        have hsi := hs3.ext hbi
        have hresi := hres.ext hbi
        by_cases hlt : lo < hi
        · obtain ⟨mm, hmm⟩ : ∃ mm, mm = (lo + hi + 1) / 2 := ⟨_, rfl⟩
          have hmi : ((lo : Int) + (hi : Int) + 1) / 2 = (mm : Int) := by omega
          have hm1 : lo < mm := by omega
          have hm2 : mm ≤ hi := by omega
          clear hmm
          go_wp2_with fail
          refine (mulAdd_any _ m d mm 0 _ _ (by omega) (by omega) (by omega) hsi).mono ?_
          rintro e w4 ⟨r4, k4, c4, rfl, hrow4, hb4⟩
          rw [val4_digs4, Nat.add_zero] at hrow4
          have hk4 : k4 ≤ m + 2 := by
            have h1 := digs4_lt N
            have h2 : N * mm < B4 ^ (m + 2) := by
              have h3 := val4_lt (digs4_lt N)
              rw [val4_digs4, HQL.out] at h3
              have h4 : N * mm ≤ N * 9999 := Nat.mul_le_mul_left _ (by omega)
              have h5 : N * 9999 < B4 ^ m * B4 := by unfold B4 at *; omega
              rw [Nat.pow_succ, Nat.pow_succ]
              have : B4 ^ m * B4 ≤ B4 ^ m * B4 * B4 := Nat.le_mul_of_pos_right _ (by decide)
              omega
            have h6 := digs4_le h2
            rw [hrow4.len] at h6; exact h6
          have hres4 := hresi.ext hb4
          go_wp2_with fail
          refine (cmpN_any _ _ _ _ _ _ (N * mm) R2 _ (by omega) (by omega) hrow4 hres4).mono ?_
          rintro e w5 ⟨rfl, hb5⟩
          obtain ⟨z, hz⟩ : ∃ z, z = cmpZ ((N * mm : Nat) : Int) (R2 : Int) := ⟨_, rfl⟩
          rw [← hz]
          have hbi5 : Below w3.heap.size w3 w5 := hbi.trans ((ext_trans hb4 hb5).mono hbi.size)
          by_cases hle : N * mm ≤ R2
          · have hz0 : z ≤ 0 := by rw [hz, cmpZ_le]; omega
            have hdz : decide (z ≤ 0) = true := by simpa using hz0
            have hlo' : mm * N ≤ R2 := by rw [Nat.mul_comm]; exact hle
            have HLO' := hid hlo'
            clear hz hlo' hle
            go_wp2_with fail
            go_roundw
            case rel => exact ⟨mm, hi, rfl, rfl, hm2, hhi, HLO'.out, HHI.out, hbi5⟩
            case measure => simp [intOf]; omega
          · have hz0 : 0 < z := by
              have : ¬ z ≤ 0 := by rw [hz, cmpZ_le]; omega
              omega
            have hdz : decide (z ≤ 0) = false := by rw [decide_eq_false_iff_not]; omega
            have hhi' : R2 < ((mm - 1) + 1) * N := by rw [Nat.sub_add_cancel (by omega), Nat.mul_comm]; omega
            have HHI' := hid hhi'
            clear hz hhi' hle
            go_wp2_with fail
            go_roundw
            case rel => exact ⟨lo, mm - 1, rfl, by go_num, by omega, by omega, HLO.out, HHI'.out, hbi5⟩
            case measure => simp [intOf]; omega
        · obtain rfl : lo = hi := by omega
          have hb6 := hb3.ext hbi
          have hbe6 : Below G w wr := hbe3.trans (hbi.mono (by have := hb3.lt; omega))
          have hcell := hb6.cell j (by rw [ints_length, HOL.out]; omega)
          have hfree := hb6.free j
          have hlt6 := hb6.lt
          have hloB : lo < 10000 := by omega
          have hb7 := hb6.set j (.int .i64 (lo : Int))
          rw [ints_set] at hb7
          have hbe7 : Below G w (wr.setCell ⟨G, j, none⟩ (.int .i64 (lo : Int))) := hbe6.setCell (Nat.le_refl _) _
          have hs7 : Rw .i64 B4 (wr.setCell ⟨G, j, none⟩ (.int .i64 (lo : Int))) bo m d (digs4 N) := hs.ext (by rw [← HG.out]; exact hbe7)
          have hres7 : Rw .i64 B4 (wr.setCell ⟨G, j, none⟩ (.int .i64 (lo : Int))) ao' r1 c' (digs4 R2) := hresi.setElder (hown1.ext hbi) hb0
          go_wp2_with fail
          generalize wr.setCell ⟨G, j, none⟩ (.int .i64 (lo : Int)) = wx at *
          refine (mulAdd_any _ m d lo 0 _ _ (by omega) (by omega) (by omega) hs7).mono ?_
          rintro e w4 ⟨r4, k4, c4, rfl, hrow4, hb4⟩
          rw [val4_digs4, Nat.add_zero] at hrow4
          have hk4 : k4 ≤ m + 2 := by
            have h2 : N * lo < B4 ^ (m + 2) := by
              have h3 := val4_lt (digs4_lt N)
              rw [val4_digs4, HQL.out] at h3
              have h4 : N * lo ≤ N * 9999 := Nat.mul_le_mul_left _ (by omega)
              have h5 : N * 9999 < B4 ^ m * B4 := by unfold B4 at *; omega
              rw [Nat.pow_succ, Nat.pow_succ]
              have : B4 ^ m * B4 ≤ B4 ^ m * B4 * B4 := Nat.le_mul_of_pos_right _ (by decide)
              omega
            have h6 := digs4_le h2
            rw [hrow4.len] at h6; exact h6
          have hres8 := hres7.ext hb4
          have hle8 : N * lo ≤ R2 := by rw [Nat.mul_comm]; exact HLO.out
          go_wp2_with fail
          refine (subN_own _ _ _ _ _ _ R2 (N * lo) _ (by omega) (by omega) hle8 hres8 hrow4).mono ?_
          rintro e w5 ⟨r5, k5, c5, rfl, hrow5, hk5, hown5, hb5⟩
          have hown6 : Own G w5 r5 c5 := hown5.mono (by have := hb4.size; have := hb7.lt; omega)
          clear hown5
          have hb45 := ext_trans hb4 hb5
          have hb9 := hb7.ext hb45
          have hbe9 : Below G w w5 := hbe7.trans (hb45.mono (by have := hb7.lt; omega))
          have HLE8 := hid hle8; clear hle8
          go_wp2
          go_roundw
          case rel =>
            refine ⟨j, R2 - N * lo, k5, c5, r5, qs.set j lo, by omega, by go_num, rfl, hrow5, hown6, ?_, by rw [List.length_set]; exact HOL.out, mem_set_lt hoB hloB j, hb9, hbe9, ?_⟩
            · have h1 := HHI.out
              rw [Nat.add_mul, Nat.one_mul, Nat.mul_comm lo] at h1
              have := HLE8.out
              omega
            · refine small_step (r := R) (x := x) (s := R2) (by rw [HOL.out]; omega) Hx.out HV.out ?_ ?_
              · rw [HR2.out]; unfold B4; omega
              · have := HLE8.out; omega
          case measure => simp [intOf]; try omega

theorem divN_any (ao bo : Option Addr) (n c m d M N : Nat) (w : World) (hn : n ≤ 100000000) (hm : m ≤ 100000000) (hN : 0 < N) (hr : Rw .i64 B4 w ao n c (digs4 M)) (hs : Rw .i64 B4 w bo m d (digs4 N)) :
    Calls Try.prog 108 #[.slice ao n c, .slice bo m d] w fun e w' => ∃ qo qn qc ro rn rc, e = .returned (.tuple #[.slice qo qn qc, .slice ro rn rc]) ∧ Rw .i64 B4 w' qo qn qc (digs4 (M / N)) ∧ qn ≤ n ∧ Rw .i64 B4 w' ro rn rc (digs4 (M % N)) ∧ rn ≤ m ∧ Below w.heap.size w w' :=
  (divN_own ao bo n c m d M N w hn hm hN hr hs).mono fun e w' ⟨qo, qn, qc, ro, rn, rc, he, h1, h2, h3, h4, _, _, h5⟩ => ⟨qo, qn, qc, ro, rn, rc, he, h1, h2, h3, h4, h5⟩

end Go.Proofs.Ytlkdlicbhhackaa

/-
  WALKS: the plain reckoning: AddN, PowN.
-/
set_option linter.unusedVariables false
set_option linter.unusedSimpArgs false
namespace Go.Proofs.Ytlkdlicbhhackaa
open Go.RowKit

theorem addN_step {B k c x y P Q P' Q' : Nat} {os : List Nat} (hl : os.length = k) (hv : valB B os + B ^ k * c = P + Q) (hx : P' = P + B ^ k * x) (hy : Q' = Q + B ^ k * y) :
    valB B (os ++ [(c + x + y) % B]) + B ^ (k + 1) * ((c + x + y) / B) = P' + Q' := by
  have h2 := pow_step B k (c + x + y)
  rw [valB_snoc, hl, hx, hy]
  rw [Nat.mul_add, Nat.mul_add] at h2
  omega

/-- Digits as many as the number's own are the number's own. -/
theorem digs4_full {os : List Nat} {V : Nat} (h : ∀ x ∈ os, x < B4) (hv : valB B4 os = V) (hl : os.length ≤ (digs4 V).length) : os = digs4 V := by
  have h1 := cut_digs4 os h
  have h2 : cutN os os.length = (digs4 (val4 os)).length := cutN_length B4_two os h
  have h3 : val4 os = V := hv
  rw [h3] at h1 h2
  rw [List.take_of_length_le (by rw [h2]; exact hl)] at h1
  exact h1

theorem digs4_long {n k : Nat} (h : B4 ^ k ≤ n) : k + 1 ≤ (digs4 n).length := digs_length_ge B4_two h

set_option maxHeartbeats 2000000 in
/-- AddN: the sum. -/
theorem addN_own (ao bo : Option Addr) (n cp m d M N : Nat) (w : World) (hn : n ≤ 1073741824) (hm : m ≤ 1073741824) (hr : Rw .i64 B4 w ao n cp (digs4 M)) (hs : Rw .i64 B4 w bo m d (digs4 N)) :
    Calls Try.prog 76 #[.slice ao n cp, .slice bo m d] w fun e w' => ∃ ro k c', e = .returned (.slice ro k c') ∧ Rw .i64 B4 w' ro k c' (digs4 (M + N)) ∧ Own w.heap.size w' ro c' ∧ k ≤ n + m + 1 ∧ Below w.heap.size w w' := by
  obtain ⟨xs, hxs⟩ : ∃ xs, xs = digs4 M := ⟨_, rfl⟩
  obtain ⟨ys, hys⟩ : ∃ ys, ys = digs4 N := ⟨_, rfl⟩
  rw [← hxs] at hr
  rw [← hys] at hs
  have hl1 := hr.len
  have hl2 := hs.len
  have HX := hid hxs; have HY := hid hys; have HL1 := hid hl1; have HL2 := hid hl2
  clear hxs hys hl1 hl2
  obtain ⟨mx, hmx⟩ : ∃ mx, mx = max n m := ⟨_, rfl⟩
  have hmx1 : n ≤ mx := by omega
  have hmx2 : m ≤ mx := by omega
  have hmx3 : mx ≤ n + m := by omega
  have HMX := hid hmx; clear hmx
  go_enter Try.func76, Try.ntmps76
  go_wp2_with fail
  go_loopw [5, 6, 7] (fun s5 s6 s7 wr => ∃ (k c : Nat) (os : List Nat), s7 = .int .i64 k ∧ s6 = .int .i64 c ∧ c ≤ 1 ∧ k + c ≤ mx + 1 ∧ os.length = k ∧ (∀ o ∈ os, o < B4) ∧ wr.ownsRow w.heap.size 3 1 s5 k (ints .i64 os) ∧ Below w.heap.size w wr ∧
      valB B4 os + B4 ^ k * c = valB B4 (xs.take k) + valB B4 (ys.take k) ∧ (k = mx + 1 → B4 ^ (k - 1) ≤ valB B4 os)) (fun _ _ s7 _ => mx + 1 - (intOf s7).toNat)
  case atStart => exact ⟨0, 0, [], rfl, rfl, by omega, by omega, rfl, by simp, World.ownsRow_nil _ _ _ _, Below.refl _ _, by simp [valB], fun h => by omega⟩
  case round =>
    obtain ⟨k, c, os, rfl, rfl, hcB, hkc, hol, hoB, hown, hb, hv, htop⟩ := hrel
    have HV := hid hv; have HOL := hid hol; have HT := hid htop; clear hv hol htop
    have hbs := hb.size
    by_cases hkn : k < n
    · obtain ⟨b1, off1, x, rfl, hx, hxB, hcx⟩ := (hr.ext hb).at hkn
      have hx' : x ≤ 9999 := by have : x < 10000 := hxB; omega
      have Hx := hid hx; clear hx hxB
      by_cases hkm : k < m
      · obtain ⟨b2, off2, y, rfl, hy, hyB, hcy⟩ := (hs.ext hb).at hkm
        have hy' : y ≤ 9999 := by have : y < 10000 := hyB; omega
        have Hy := hid hy; clear hy hyB
        go_wp2_with (at_builtin; refine Hid.out ?_)
        refine hid ?_
        refine wpList_app _ rfl _ _ 40 rfl w.heap.size 3 (.int .i64 0) 1 8 Try.underlying40 Try.infoInt rfl (by decide) u5 k (ints .i64 os) rfl (hown.alloc _) (some ⟨wr.heap.size, 0, none⟩) 1 1 [Value.int .i64 (((c : Int) + (x : Int) + (y : Int)) % 10000)] rfl rfl (fun e => nomatch e) (Nat.le_refl _) (cells_new1 _ _ _) (one_int _ _) (by unfold maxLen; omega) (by omega) (by rw [World.size_alloc]; omega) fun v' w2 hown' _ hb2 => ?_
        have hb3 : Below w.heap.size w w2 := (hb.alloc hbs _).trans hb2
        have e0 : ((c + x + y : Nat) : Int) = ((c : Int) + (x : Int) + (y : Int)) := by simp
        have e1 : ((c : Int) + (x : Int) + (y : Int)) % 10000 = (((c + x + y) % 10000 : Nat) : Int) := by rw [← e0]; rfl
        rw [e1, ints_snoc] at hown'
        have E0 := hid e0; clear e0 e1 hown
        go_wp2
        go_roundw
        case rel =>
          refine ⟨k + 1, (c + x + y) / 10000, os ++ [(c + x + y) % 10000], by go_num, by rw [← E0.out]; rfl, by omega, by omega, by rw [List.length_append, HOL.out]; rfl, mem_snoc_lt hoB (Nat.mod_lt _ (by decide)), hown', hb3, ?_, ?_⟩
          · exact addN_step HOL.out HV.out (valB_take_some _ Hx.out) (valB_take_some _ Hy.out)
          · intro h; exact absurd h (by omega)
        case measure => simp only [intOf]; omega
      · have hny : valB B4 (ys.take (k + 1)) = valB B4 (ys.take k) := valB_take_none _ (by rw [HL2.out]; omega)
        have HNY := hid hny; clear hny
        go_wp2_with (at_builtin; refine Hid.out ?_)
        refine hid ?_
        refine wpList_app _ rfl _ _ 40 rfl w.heap.size 3 (.int .i64 0) 1 8 Try.underlying40 Try.infoInt rfl (by decide) u5 k (ints .i64 os) rfl (hown.alloc _) (some ⟨wr.heap.size, 0, none⟩) 1 1 [Value.int .i64 (((c : Int) + (x : Int)) % 10000)] rfl rfl (fun e => nomatch e) (Nat.le_refl _) (cells_new1 _ _ _) (one_int _ _) (by unfold maxLen; omega) (by omega) (by rw [World.size_alloc]; omega) fun v' w2 hown' _ hb2 => ?_
        have hb3 : Below w.heap.size w w2 := (hb.alloc hbs _).trans hb2
        have e0 : ((c + x + 0 : Nat) : Int) = ((c : Int) + (x : Int)) := by simp
        have e1 : ((c : Int) + (x : Int)) % 10000 = (((c + x + 0) % 10000 : Nat) : Int) := by rw [← e0]; rfl
        rw [e1, ints_snoc] at hown'
        have E0 := hid e0; clear e0 e1 hown
        go_wp2
        go_roundw
        case rel =>
          refine ⟨k + 1, (c + x + 0) / 10000, os ++ [(c + x + 0) % 10000], by go_num, by rw [← E0.out]; rfl, by omega, by omega, by rw [List.length_append, HOL.out]; rfl, mem_snoc_lt hoB (Nat.mod_lt _ (by decide)), hown', hb3, ?_, ?_⟩
          · exact addN_step HOL.out HV.out (valB_take_some _ Hx.out) (by rw [HNY.out]; simp)
          · intro h; exact absurd h (by omega)
        case measure => simp only [intOf]; omega
    · have hnx : valB B4 (xs.take (k + 1)) = valB B4 (xs.take k) := valB_take_none _ (by rw [HL1.out]; omega)
      have HNX := hid hnx; clear hnx
      by_cases hkm : k < m
      · obtain ⟨b2, off2, y, rfl, hy, hyB, hcy⟩ := (hs.ext hb).at hkm
        have hy' : y ≤ 9999 := by have : y < 10000 := hyB; omega
        have Hy := hid hy; clear hy hyB
        go_wp2_with (at_builtin; refine Hid.out ?_)
        refine hid ?_
        refine wpList_app _ rfl _ _ 40 rfl w.heap.size 3 (.int .i64 0) 1 8 Try.underlying40 Try.infoInt rfl (by decide) u5 k (ints .i64 os) rfl (hown.alloc _) (some ⟨wr.heap.size, 0, none⟩) 1 1 [Value.int .i64 (((c : Int) + (y : Int)) % 10000)] rfl rfl (fun e => nomatch e) (Nat.le_refl _) (cells_new1 _ _ _) (one_int _ _) (by unfold maxLen; omega) (by omega) (by rw [World.size_alloc]; omega) fun v' w2 hown' _ hb2 => ?_
        have hb3 : Below w.heap.size w w2 := (hb.alloc hbs _).trans hb2
        have e0 : ((c + 0 + y : Nat) : Int) = ((c : Int) + (y : Int)) := by simp
        have e1 : ((c : Int) + (y : Int)) % 10000 = (((c + 0 + y) % 10000 : Nat) : Int) := by rw [← e0]; rfl
        rw [e1, ints_snoc] at hown'
        have E0 := hid e0; clear e0 e1 hown
        go_wp2
        go_roundw
        case rel =>
          refine ⟨k + 1, (c + 0 + y) / 10000, os ++ [(c + 0 + y) % 10000], by go_num, by rw [← E0.out]; rfl, by omega, by omega, by rw [List.length_append, HOL.out]; rfl, mem_snoc_lt hoB (Nat.mod_lt _ (by decide)), hown', hb3, ?_, ?_⟩
          · exact addN_step HOL.out HV.out (by rw [HNX.out]; simp) (valB_take_some _ Hy.out)
          · intro h; exact absurd h (by omega)
        case measure => simp only [intOf]; omega
      · have hny : valB B4 (ys.take (k + 1)) = valB B4 (ys.take k) := valB_take_none _ (by rw [HL2.out]; omega)
        have HNY := hid hny; clear hny
        by_cases hc0 : 0 < c
        · have hdn : decide (k < n) = false := by rw [decide_eq_false_iff_not]; omega
          have hdm : decide (k < m) = false := by rw [decide_eq_false_iff_not]; omega
          go_wp2_with (at_builtin; refine Hid.out ?_)
          refine hid ?_
          refine wpList_app _ rfl _ _ 40 rfl w.heap.size 3 (.int .i64 0) 1 8 Try.underlying40 Try.infoInt rfl (by decide) u5 k (ints .i64 os) rfl (hown.alloc _) (some ⟨wr.heap.size, 0, none⟩) 1 1 [Value.int .i64 ((c : Int) % 10000)] rfl rfl (fun e => nomatch e) (Nat.le_refl _) (cells_new1 _ _ _) (one_int _ _) (by unfold maxLen; omega) (by omega) (by rw [World.size_alloc]; omega) fun v' w2 hown' _ hb2 => ?_
          have hb3 : Below w.heap.size w w2 := (hb.alloc hbs _).trans hb2
          have e0 : ((c + 0 + 0 : Nat) : Int) = (c : Int) := by simp
          have e1 : (c : Int) % 10000 = (((c + 0 + 0) % 10000 : Nat) : Int) := by rw [← e0]; rfl
          rw [e1, ints_snoc] at hown'
          have E0 := hid e0; clear e0 e1 hown
          go_wp2
          go_roundw
          case rel =>
            refine ⟨k + 1, (c + 0 + 0) / 10000, os ++ [(c + 0 + 0) % 10000], by go_num, by rw [← E0.out]; rfl, by omega, by omega, by rw [List.length_append, HOL.out]; rfl, mem_snoc_lt hoB (Nat.mod_lt _ (by decide)), hown', hb3, ?_, ?_⟩
            · exact addN_step HOL.out HV.out (by rw [HNX.out]; simp) (by rw [HNY.out]; simp)
            · intro h; rw [valB_snoc, HOL.out]; rw [show c + 0 + 0 = c from rfl, Nat.mod_eq_of_lt (show c < 10000 by omega)]; have := Nat.mul_le_mul_left (B4 ^ k) (show 1 ≤ c by omega); rw [Nat.mul_one] at this; simp only [Nat.add_sub_cancel]; omega
          case measure => simp only [intOf]; omega
        · obtain rfl : c = 0 := by omega
          have hmxk : mx ≤ k := by have := HMX.out; omega
          have hval : valB B4 os = M + N := by
            have h := HV.out
            rw [List.take_of_length_le (l := xs) (by rw [HL1.out]; omega), List.take_of_length_le (l := ys) (by rw [HL2.out]; omega), HX.out, HY.out] at h
            have h1 := val4_digs4 M
            have h2 := val4_digs4 N
            unfold val4 at h1 h2
            omega
          have hfull : os = digs4 (M + N) := by
            refine digs4_full hoB hval ?_
            rw [HOL.out]
            by_cases hk1 : k = mx + 1
            · have h1 := HT.out hk1
              rw [hval] at h1
              have := digs4_long h1
              omega
            · have h1 := digs4_mono (show M ≤ M + N by omega)
              have h2 := digs4_mono (show N ≤ M + N by omega)
              rw [← HX.out, HL1.out] at h1
              rw [← HY.out, HL2.out] at h2
              have := HMX.out
              omega
          obtain ⟨ao', c', hu, h1, h2⟩ := own_of_ownsRow (k := .i64) (B := B4) (by rw [HOL.out]; exact hown) hoB
          rw [HOL.out] at h1 hu
          rw [hfull] at h1
          subst hu
          clear hval hfull
          go_wp2
          go_ret
          exact ⟨_, _, _, rfl, h1, h2, by omega, hb⟩

theorem addN_any (ao bo : Option Addr) (n cp m d M N : Nat) (w : World) (hn : n ≤ 1073741824) (hm : m ≤ 1073741824) (hr : Rw .i64 B4 w ao n cp (digs4 M)) (hs : Rw .i64 B4 w bo m d (digs4 N)) :
    Calls Try.prog 76 #[.slice ao n cp, .slice bo m d] w fun e w' => ∃ ro k c', e = .returned (.slice ro k c') ∧ Rw .i64 B4 w' ro k c' (digs4 (M + N)) ∧ k ≤ n + m + 1 ∧ Below w.heap.size w w' :=
  (addN_own ao bo n cp m d M N w hn hm hr hs).mono fun e w' ⟨ro, k, c', he, h1, _, h3, h4⟩ => ⟨ro, k, c', he, h1, h3, h4⟩

set_option maxHeartbeats 1000000 in
/-- PowN: a power of two. -/
theorem powN_own (n : Nat) (w : World) (hn : n ≤ 1000000) :
    Calls Try.prog 96 #[.int .i64 (n : Int)] w fun e w' => ∃ ro k c', e = .returned (.slice ro k c') ∧ Rw .i64 B4 w' ro k c' (digs4 (2 ^ n)) ∧ k ≤ n + 1 ∧ Own w.heap.size w' ro c' ∧ Below w.heap.size w w' := by
  go_enter Try.func96, Try.ntmps96
  go_wp2_with fail
  have hstart := (Blk.new w 3 (ints .i64 [1])).rw (B := B4) (by intro y hy; rw [List.mem_singleton.1 hy]; decide)
  have hstown := (Blk.new w 3 (ints .i64 [1])).own (base := w.heap.size) (n := 1) (Nat.le_refl _) (by simp [ints])
  go_loopw [3, 4] (fun s3 s4 wr => ∃ (k rn rc : Nat) (ro : Option Addr), k ≤ n ∧ s4 = .int .i64 k ∧ s3 = .slice ro rn rc ∧ Rw .i64 B4 wr ro rn rc (digs4 (2 ^ k)) ∧ Own w.heap.size wr ro rc ∧ Below w.heap.size w wr) (fun _ s4 _ => n - (intOf s4).toNat)
  case atStart => exact ⟨0, 1, 1, _, Nat.zero_le _, rfl, rfl, hstart, hstown, (Below.refl _ _).alloc (Nat.le_refl _) _⟩
  case round =>
    obtain ⟨k, rn, rc, ro, hk, rfl, rfl, hrow, hown, hb⟩ := hrel
    clear hstart hstown
    have hlen : rn ≤ k + 1 := by
      have h := digs4_le (k := k + 1) (Nat.lt_of_lt_of_le (Nat.pow_lt_pow_right (by decide) (Nat.lt_succ_self k)) (Nat.pow_le_pow_left (show 2 ≤ B4 by decide) (k + 1)))
      rw [hrow.len] at h; exact h
    by_cases hkn : k < n
    · go_wp2_with fail
      refine (mulAdd_own _ _ _ 2 0 _ _ (by omega) (by omega) (by omega) hrow).mono ?_
      rintro e w1 ⟨ro2, k2, c2, rfl, h2, hown2, hb2⟩
      have hown3 := hown2.mono hb.size
      have e2 : val4 (digs4 (2 ^ k)) * 2 + 0 = 2 ^ (k + 1) := by rw [val4_digs4, Nat.pow_succ]; rfl
      rw [e2] at h2
      have hb3 := ext_trans hb hb2
      clear e2 hb2 hrow hown hown2
      go_wp2
      go_roundw
      case rel => exact ⟨k + 1, k2, c2, ro2, by omega, by go_num, rfl, h2, hown3, hb3⟩
      case measure => simp [intOf]; omega
    · obtain rfl : k = n := by omega
      go_wp2
      go_ret
      exact ⟨_, _, _, rfl, hrow, hlen, hown, hb⟩

theorem powN_any (n : Nat) (w : World) (hn : n ≤ 1000000) :
    Calls Try.prog 96 #[.int .i64 (n : Int)] w fun e w' => ∃ ro k c', e = .returned (.slice ro k c') ∧ Rw .i64 B4 w' ro k c' (digs4 (2 ^ n)) ∧ k ≤ n + 1 ∧ Below w.heap.size w w' :=
  (powN_own n w hn).mono fun e w' ⟨ro, k, c', he, h1, hk, _, h2⟩ => ⟨ro, k, c', he, h1, hk, h2⟩

end Go.Proofs.Ytlkdlicbhhackaa

/-
  WALKS: limb.Add, limb.Sub: what they return, as numbers; nothing that was there turns.
-/
set_option linter.unusedVariables false
set_option linter.unusedSimpArgs false
namespace Go.Proofs.Ytlkdlicbhhackaa
open Go.RowKit

set_option maxHeartbeats 1000000 in
/-- Add: the sum. -/
theorem add_any (ao bo : Option Addr) (n c m d : Nat) (xs ys : List Nat) (w : World) (hn : n ≤ 1073741824) (hm : m ≤ 1073741824) (hr : Rw .u32 B32 w ao n c xs) (hs : Rw .u32 B32 w bo m d ys) :
    Calls Try.prog 72 #[.slice ao n c, .slice bo m d] w fun e w' => ∃ ro k c', e = .returned (.slice ro k c') ∧ Rw .u32 B32 w' ro k c' (limbs (val xs + val ys)) ∧ Own w.heap.size w' ro c' ∧ Below w.heap.size w w' := by
  go_enter Try.func72, Try.ntmps72
  go_wp2_with fail
  refine (cut_any ao n c xs _ (by omega) hr).mono ?_
  rintro e w' ⟨n1, rfl, hn1, hr1, rfl⟩
  go_wp2_with fail
  refine (cut_any bo m d ys _ (by omega) hs).mono ?_
  rintro e w' ⟨m1, rfl, hm1, hs1, rfl⟩
  go_upto_if 18 with (fail)
  go_cut [0, 1] (fun s0 s1 wx => ∃ po pn pc PL qo qn qc QL, s0 = .slice po pn pc ∧ s1 = .slice qo qn qc ∧ qn ≤ pn ∧ pn ≤ 1073741824 ∧ Rw .u32 B32 w po pn pc PL ∧ Rw .u32 B32 w qo qn qc QL ∧ val PL + val QL = val xs + val ys ∧ wx = w)
  case first =>
    have h1 := val_limbs (val xs)
    have h2 := val_limbs (val ys)
    by_cases hlt : n1 < m1
    · go_wp2_with fail
      go_meet
      exact ⟨_, _, _, _, _, _, _, _, rfl, rfl, by omega, by omega, hs1, hr1, by omega, rfl⟩
    · go_wp2_with fail
      go_meet
      exact ⟨_, _, _, _, _, _, _, _, rfl, rfl, by omega, by omega, hr1, hs1, by omega, rfl⟩
  case rest =>
    obtain ⟨po, pn, pc, PL, qo, qn, qc, QL, rfl, rfl, hle, hbig, hp, hq, hval, rfl⟩ := hcut
    have Hval := hid hval
    clear hval hr hs hr1 hs1 hn1 hm1
    go_wp2_with (at_make; refine Hid.out ?_)
    refine hid ?_
    refine wpList_mk _ rfl _ _ 34 rfl 55 (.int .u32 0) 4 Try.underlying34 Try.infoU32 rfl .i64 .i64 _ _ (pn + 1) rfl rfl (by omega) (by omega) (by omega) (by unfold maxLen; omega) fun w1 hblk hbelow hlt => ?_
    obtain ⟨G, hG⟩ : ∃ G, G = wc.heap.size := ⟨_, rfl⟩
    rw [← hG] at hblk hlt hbelow ⊢
    have HG := hid hG; clear hG
    rw [← ints_replicate] at hblk
    go_wp2_with fail
    go_loopw [6, 27] (fun s6 s27 wr => ∃ (k cy : Nat) (os : List Nat), k ≤ pn ∧ s27 = .int .i64 k ∧ s6 = .int .u64 cy ∧ cy ≤ 1 ∧ os.length = pn + 1 ∧ (∀ o ∈ os, o < B32) ∧ Blk wr G 55 (ints .u32 os) ∧ Below G wc wr ∧
        valB B32 (os.take k) + B32 ^ k * cy = valB B32 (PL.take k) + valB B32 (QL.take k)) (fun _ s27 _ => pn - (intOf s27).toNat)
    case atStart => exact ⟨0, 0, List.replicate (pn + 1) 0, Nat.zero_le _, rfl, rfl, by omega, by simp, (fun o ho => by simp at ho; subst ho; decide), hblk, hbelow, by simp [valB]⟩
    case round =>
      obtain ⟨k, cy, os, hk, rfl, rfl, hcy, hol, hoB, hb, hbe, hv⟩ := hrel
      have HV := hid hv; have HOL := hid hol; clear hv hol hblk hbelow
      have hb0 := hb.lt
      by_cases hkn : k < pn
      · obtain ⟨b1, off1, x, rfl, hx, hxB, hcx⟩ := (hp.ext (by rw [← HG.out]; exact hbe)).at hkn
        have hcell := hb.cell k (by rw [ints_length, HOL.out]; omega)
        have hfree := hb.free k
        have hx' : x < 4294967296 := hxB
        have Hx := hid hx; clear hx hxB
        by_cases hkq : k < qn
        · obtain ⟨b2, off2, y, rfl, hy, hyB, hcy2⟩ := (hq.ext (by rw [← HG.out]; exact hbe)).at hkq
          have hy' : y < 4294967296 := hyB
          have Hy := hid hy; clear hy hyB
          go_wp2
          go_roundw
          case rel =>
            have hv := hb.set k (.int .u32 (((x + cy + y) % 4294967296 : Nat) : Int))
            rw [ints_set] at hv
            refine ⟨k + 1, (x + cy + y) / 4294967296, os.set k ((x + cy + y) % 4294967296), by omega, by go_num, by go_num, by omega, by rw [List.length_set]; exact HOL.out, mem_set_lt hoB (Nat.mod_lt _ (by decide)) k, ?_, ?_, ?_⟩
            · have e : ((x : Int) + cy + y) % 4294967296 = (((x + cy + y) % 4294967296 : Nat) : Int) := by omega
              rw [e]; exact hv
            · exact hbe.setCell (Nat.le_refl _) _
            · exact add_step (by rw [HOL.out]; omega) HV.out (valB_take_some _ Hx.out) (valB_take_some _ Hy.out)
          case measure => simp [intOf]; omega
        · have hql := hq.len
          have HQL := hid hql; clear hql
          go_wp2
          go_roundw
          case rel =>
            have hv := hb.set k (.int .u32 (((x + cy + 0) % 4294967296 : Nat) : Int))
            rw [ints_set] at hv
            refine ⟨k + 1, (x + cy + 0) / 4294967296, os.set k ((x + cy + 0) % 4294967296), by omega, by go_num, by go_num, by omega, by rw [List.length_set]; exact HOL.out, mem_set_lt hoB (Nat.mod_lt _ (by decide)) k, ?_, ?_, ?_⟩
            · have e : ((x : Int) + cy) % 4294967296 = (((x + cy + 0) % 4294967296 : Nat) : Int) := by omega
              rw [e]; exact hv
            · exact hbe.setCell (Nat.le_refl _) _
            · exact add_step (by rw [HOL.out]; omega) HV.out (valB_take_some _ Hx.out) (by rw [valB_take_none _ (by rw [HQL.out]; omega)]; simp)
          case measure => simp [intOf]; omega
      · obtain rfl : k = pn := by omega
        have hcell := hb.cell k (by rw [ints_length, HOL.out]; omega)
        have hfree := hb.free k
        go_wp2_with fail
        have hv := hb.set k (.int .u32 (cy : Int))
        rw [ints_set] at hv
        have hlt : ∀ x ∈ os.set k cy, x < B32 := mem_set_lt hoB (by show cy < 4294967296; omega) k
        have hrow := hv.rw hlt
        rw [List.length_set, HOL.out] at hrow
        refine (cut_any _ _ _ _ _ (by omega) hrow).mono ?_
        rintro e w' ⟨r1, rfl, hr1, hres, rfl⟩
        have hown := hv.own (base := G) (n := k + 1) (Nat.le_refl _) (by rw [ints_length, List.length_set, HOL.out]; exact Nat.le_refl _)
        go_wp2
        go_ret
        refine ⟨_, _, _, rfl, ?_, by rw [← HG.out]; exact hown, by rw [← HG.out]; exact hbe.setCell (Nat.le_refl _) _⟩
        have hval : val (os.set k cy) = val xs + val ys := by
          have h1 := valB_take_set B32 os k cy (by rw [HOL.out]; omega)
          rw [valB_take_all _ (by rw [List.length_set, HOL.out])] at h1
          have h2 := HV.out
          rw [valB_take_all _ hp.len, List.take_of_length_le (l := QL) (by rw [hq.len]; exact hle)] at h2
          rw [← Hval.out]; unfold val; omega
        rw [← hval]; exact hres

set_option maxHeartbeats 1000000 in
/-- Sub: the difference; nil where it is below 0. -/
theorem sub_any (ao bo : Option Addr) (n c m d : Nat) (xs ys : List Nat) (w : World) (hn : n ≤ 1073741824) (hm : m ≤ 1073741824) (hr : Rw .u32 B32 w ao n c xs) (hs : Rw .u32 B32 w bo m d ys) :
    Calls Try.prog 73 #[.slice ao n c, .slice bo m d] w fun e w' => ∃ ro k c', e = .returned (.tuple #[.slice ro k c', .bool (decide (val ys ≤ val xs))]) ∧ Rw .u32 B32 w' ro k c' (limbs (val xs - val ys)) ∧ Own w.heap.size w' ro c' ∧ Below w.heap.size w w' := by
  go_enter Try.func73, Try.ntmps73
  go_wp2_with fail
  refine (cut_any ao n c xs _ (by omega) hr).mono ?_
  rintro e w' ⟨n1, rfl, hn1, hr1, rfl⟩
  go_wp2_with fail
  refine (cut_any bo m d ys _ (by omega) hs).mono ?_
  rintro e w' ⟨m1, rfl, hm1, hs1, rfl⟩
  go_wp2_with fail
  refine (cmp_any _ _ _ _ _ _ _ _ _ (by omega) (by omega) hr1 hs1).mono ?_
  rintro e w1 ⟨rfl, hw1⟩
  rw [val_limbs, val_limbs]
  obtain ⟨z, hz⟩ : ∃ z, z = cmpZ (val xs) (val ys) := ⟨_, rfl⟩
  rw [← hz]
  by_cases hlt : val xs < val ys
  · have hz0 : z < 0 := by rw [hz, cmpZ, if_pos (by omega)]; decide
    clear hz
    have hdec : decide (val ys ≤ val xs) = false := by simpa using hlt
    have HD := hid hdec; clear hdec
    have hsub : val xs - val ys = 0 := by omega
    have HS := hid hsub; clear hsub
    go_wp2
    go_ret2
    exact ⟨_, _, _, by rw [HD.out]; rfl, by rw [HS.out]; exact Rw.nil _ _ _, Own.nil _ _ _, hw1⟩
  · have hz0 : 0 ≤ z := by rw [hz, cmpZ, if_neg (by omega)]; split <;> decide
    clear hz
    have hdec : decide (val ys ≤ val xs) = true := by simpa using Nat.le_of_not_lt hlt
    have HD := hid hdec; clear hdec
    have hle := Nat.le_of_not_lt hlt; clear hlt
    have hmn := limbs_mono hle
    rw [hr1.len, hs1.len] at hmn
    have hp := hr1.ext hw1
    have hq := hs1.ext hw1
    go_wp2_with (at_make; refine Hid.out ?_)
    refine hid ?_
    refine wpList_mk _ rfl _ _ 34 rfl 55 (.int .u32 0) 4 Try.underlying34 Try.infoU32 rfl .i64 .i64 _ _ n1 rfl rfl (by omega) (by omega) (by omega) (by unfold maxLen; omega) fun w2 hblk hbelow hlt => ?_
    obtain ⟨G, hG⟩ : ∃ G, G = w1.heap.size := ⟨_, rfl⟩
    rw [← hG] at hblk hlt hbelow ⊢
    have HG := hid hG; clear hG
    rw [← ints_replicate] at hblk
    go_wp2_with fail
    go_loopw [7, 24] (fun s7 s24 wr => ∃ (k cy : Nat) (os : List Nat), k ≤ n1 ∧ s24 = .int .i64 k ∧ s7 = .int .u64 cy ∧ cy ≤ 1 ∧ os.length = n1 ∧ (∀ o ∈ os, o < B32) ∧ Blk wr G 55 (ints .u32 os) ∧ Below G w1 wr ∧
        valB B32 (os.take k) + valB B32 ((limbs (val ys)).take k) = valB B32 ((limbs (val xs)).take k) + B32 ^ k * cy) (fun _ s24 _ => n1 - (intOf s24).toNat)
    case atStart => exact ⟨0, 0, List.replicate n1 0, Nat.zero_le _, rfl, rfl, by omega, by simp, (fun o ho => by have := (List.mem_replicate.1 ho).2; subst this; decide), hblk, hbelow, by simp [valB]⟩
    case round =>
      obtain ⟨k, cy, os, hk, rfl, rfl, hcy, hol, hoB, hb, hbe, hv⟩ := hrel
      have HV := hid hv; have HOL := hid hol; clear hv hol hblk hbelow
      have hb0 := hb.lt
      by_cases hkn : k < n1
      · obtain ⟨b1, off1, x, rfl, hx, hxB, hcx⟩ := (hp.ext (by rw [← HG.out]; exact hbe)).at hkn
        have hcell := hb.cell k (by rw [ints_length, HOL.out]; omega)
        have hfree := hb.free k
        have hx' : x < 4294967296 := hxB
        have Hx := hid hx; clear hx hxB
        by_cases hkq : k < m1
        · obtain ⟨b2, off2, y, rfl, hy, hyB, hcy2⟩ := (hq.ext (by rw [← HG.out]; exact hbe)).at hkq
          have hy' : y < 4294967296 := hyB
          have Hy := hid hy; clear hy hyB
          obtain ⟨d1, b, hd1, hb1, e1, e2, e3⟩ := sub_wrap x cy y hx' hcy hy'
          have E1 := hid e1; have E2 := hid e2; have E3 := hid e3; clear e1 e2 e3
          go_wp2
          rw [E1.out, E2.out]
          go_roundw
          case rel =>
            have hv := hb.set k (.int .u32 (d1 : Int))
            rw [ints_set] at hv
            exact ⟨k + 1, b, os.set k d1, by omega, by go_num, rfl, hb1, by rw [List.length_set]; exact HOL.out, mem_set_lt hoB hd1 k, hv, hbe.setCell (Nat.le_refl _) _, sub_step (by rw [HOL.out]; omega) HV.out (valB_take_some _ Hx.out) (valB_take_some _ Hy.out) E3.out⟩
          case measure => simp [intOf]; omega
        · have hql := hq.len
          have HQL := hid hql; clear hql
          obtain ⟨d1, b, hd1, hb1, e1, e2, e3⟩ := sub_wrap0 x cy hx' hcy
          have E1 := hid e1; have E2 := hid e2; have E3 := hid e3; clear e1 e2 e3
          go_wp2
          rw [E1.out, E2.out]
          go_roundw
          case rel =>
            have hv := hb.set k (.int .u32 (d1 : Int))
            rw [ints_set] at hv
            exact ⟨k + 1, b, os.set k d1, by omega, by go_num, rfl, hb1, by rw [List.length_set]; exact HOL.out, mem_set_lt hoB hd1 k, hv, hbe.setCell (Nat.le_refl _) _, sub_step (by rw [HOL.out]; omega) HV.out (valB_take_some _ Hx.out) (by rw [valB_take_none _ (by rw [HQL.out]; omega)]; simp) E3.out⟩
          case measure => simp [intOf]; omega
      · obtain rfl : k = n1 := by omega
        go_wp2_with fail
        have hrow := hb.rw hoB
        rw [HOL.out] at hrow
        refine (cut_any _ _ _ _ _ (by omega) hrow).mono ?_
        rintro e w' ⟨r1, rfl, hr1', hres, rfl⟩
        have hown := hb.own (base := G) (n := k) (Nat.le_refl _) (by rw [ints_length, HOL.out]; exact Nat.le_refl _)
        go_wp2
        go_ret2
        refine ⟨_, _, _, by rw [HD.out]; rfl, ?_, (hown.mono (by rw [HG.out]; exact hw1.size)), hw1.trans (hbe.mono (by rw [HG.out]; exact hw1.size))⟩
        have hval : val os = val xs - val ys := by
          have h2 := HV.out
          rw [valB_take_all _ hp.len, List.take_of_length_le (l := limbs (val ys)) (by rw [hq.len]; exact hmn), valB_take_all _ HOL.out] at h2
          have h3 := val_lt hoB
          rw [HOL.out] at h3
          change val os + val (limbs (val ys)) = val (limbs (val xs)) + _ at h2
          rw [val_limbs, val_limbs] at h2
          have : cy = 0 ∨ cy = 1 := by omega
          rcases this with rfl | rfl
          · omega
          · rw [Nat.mul_one] at h2; omega
        rw [← hval]; exact hres

end Go.Proofs.Ytlkdlicbhhackaa

/-
  WALKS: limb.Mul, limb.one: what they return, as numbers; nothing that was there turns.
-/
set_option linter.unusedVariables false
set_option linter.unusedSimpArgs false
namespace Go.Proofs.Ytlkdlicbhhackaa
open Go.RowKit

/-- One digit of a row's product. -/
theorem mul_step {B k j cy x y o R V : Nat} {ps Q : List Nat} (ho : ps[k + j]? = some o) (hv : valB B ps + B ^ (k + j) * cy = R + B ^ k * (x * V))
    (hQ : valB B (Q.take (j + 1)) = V + B ^ j * y) :
    valB B (ps.set (k + j) ((x * y + o + cy) % B)) + B ^ (k + (j + 1)) * ((x * y + o + cy) / B) = R + B ^ k * (x * valB B (Q.take (j + 1))) := by
  have h1 := valB_set B ho ((x * y + o + cy) % B)
  have h2 := pow_step B (k + j) (x * y + o + cy)
  rw [Nat.mul_add, Nat.mul_add] at h2
  have h3 : B ^ k * (x * (V + B ^ j * y)) = B ^ k * (x * V) + B ^ (k + j) * (x * y) := by rw [Nat.pow_add]; grind
  rw [hQ, h3, ← Nat.add_assoc]
  omega

theorem mul_boundZ (x y : Nat) (hx : x < 4294967296) (hy : y < 4294967296) : (x : Int) * (y : Int) ≤ 18446744065119617025 ∧ (0 : Int) ≤ (x : Int) * (y : Int) := by
  have h := Nat.mul_le_mul (show x ≤ 4294967295 by omega) (show y ≤ 4294967295 by omega)
  rw [← Int.natCast_mul]
  omega

theorem mul_bound (x y o c : Nat) (hx : x < 4294967296) (hy : y < 4294967296) (ho : o < 4294967296) (hc : c < 4294967296) : x * y + o + c < 4294967296 * 4294967296 ∧ x * y ≤ 18446744065119617025 := by
  have h := Nat.mul_le_mul (show x ≤ 4294967295 by omega) (show y ≤ 4294967295 by omega)
  omega

set_option maxHeartbeats 1000000 in
/-- Mul: the product. -/
theorem mul_any (ao bo : Option Addr) (n c m d : Nat) (xs ys : List Nat) (w : World) (hn : n ≤ 1073741824) (hm : m ≤ 1073741824) (hr : Rw .u32 B32 w ao n c xs) (hs : Rw .u32 B32 w bo m d ys) :
    Calls Try.prog 80 #[.slice ao n c, .slice bo m d] w fun e w' => ∃ ro k c', e = .returned (.slice ro k c') ∧ Rw .u32 B32 w' ro k c' (limbs (val xs * val ys)) ∧ Own w.heap.size w' ro c' ∧ Below w.heap.size w w' := by
  go_enter Try.func80, Try.ntmps80
  go_wp2_with fail
  refine (cut_any ao n c xs _ (by omega) hr).mono ?_
  rintro e w' ⟨n1, rfl, hn1, hp, rfl⟩
  go_wp2_with fail
  refine (cut_any bo m d ys _ (by omega) hs).mono ?_
  rintro e w' ⟨m1, rfl, hm1, hq, rfl⟩
  go_wp2_with (at_make; refine Hid.out ?_)
  refine hid ?_
  refine wpList_mk _ rfl _ _ 34 rfl 55 (.int .u32 0) 4 Try.underlying34 Try.infoU32 rfl .i64 .i64 _ _ (n1 + m1) rfl rfl (by omega) (by omega) (by omega) (by unfold maxLen; omega) fun w2 hblk hbelow hlt => ?_
  obtain ⟨G, hG⟩ : ∃ G, G = w.heap.size := ⟨_, rfl⟩
  rw [← hG] at hblk hlt hbelow ⊢
  have HG := hid hG; clear hG
  rw [← ints_replicate] at hblk
  generalize hA : limbs (val xs) = P at *
  generalize hB : limbs (val ys) = Q at *
  have HA := hid hA; have HB := hid hB; clear hA hB
  have hpl := hp.len
  have hql := hq.len
  have HPL := hid hpl; have HQL := hid hql; clear hpl hql hr hs
  go_wp2_with fail
  go_loopw [24] (fun s24 wr => ∃ (k : Nat) (os : List Nat), k ≤ n1 ∧ s24 = .int .i64 k ∧ os.length = n1 + m1 ∧ (∀ o ∈ os, o < B32) ∧ (∀ j, k + m1 ≤ j → j < n1 + m1 → os[j]? = some 0) ∧ Blk wr G 55 (ints .u32 os) ∧ Below G w wr ∧
      valB B32 os = valB B32 (P.take k) * valB B32 Q) (fun s24 _ => n1 - (intOf s24).toNat)
  case atStart => exact ⟨0, List.replicate (n1 + m1) 0, Nat.zero_le _, rfl, by simp, (fun o ho => by have := (List.mem_replicate.1 ho).2; subst this; decide), (fun j _ hj => by simp [hj]), hblk, hbelow, by simp [valB, valB_replicate_zero]⟩
  case round =>
    obtain ⟨k, os, hk, rfl, hol, hoB, hz, hb, hbe, hv⟩ := hrel
    have HV := hid hv; have HOL := hid hol; have HZ := hid hz; clear hv hol hblk hbelow hz
    have hb0 := hb.lt
    by_cases hkn : k < n1
    · obtain ⟨b1, off1, x, rfl, hx, hxB, hcx⟩ := (hp.ext (by rw [← HG.out]; exact hbe)).at hkn
      have hx' : x < 4294967296 := hxB
      have Hx := hid hx; clear hx hxB
      go_wp2_with fail
      obtain ⟨wo, rfl⟩ : ∃ wo : World, wo = wr := ⟨_, rfl⟩
      go_loopw [8, 31] (fun s8 s31 wr => ∃ (j cy : Nat) (ps : List Nat), j ≤ m1 ∧ s31 = .int .i64 j ∧ s8 = .int .u64 cy ∧ cy < 4294967296 ∧ ps.length = n1 + m1 ∧ (∀ o ∈ ps, o < B32) ∧ (∀ i, k + m1 ≤ i → i < n1 + m1 → ps[i]? = some 0) ∧ Blk wr G 55 (ints .u32 ps) ∧ Below G w wr ∧
          valB B32 ps + B32 ^ (k + j) * cy = valB B32 os + B32 ^ k * (x * valB B32 (Q.take j))) (fun _ s31 _ => m1 - (intOf s31).toNat)
      case atStart => exact ⟨0, 0, os, Nat.zero_le _, rfl, rfl, by omega, HOL.out, hoB, HZ.out, hb, hbe, by simp [valB]⟩
      case round =>
        obtain ⟨j, cy, ps, hj, rfl, rfl, hcy, hpl, hpB, hpz, hb, hbe, hv⟩ := hrel
        have HV2 := hid hv; have HPL2 := hid hpl; have HPZ := hid hpz; clear hv hpl hpz
        by_cases hjm : j < m1
        · obtain ⟨b2, off2, y, rfl, hy, hyB, hcy2⟩ := (hq.ext (by rw [← HG.out]; exact hbe)).at hjm
          have hy' : y < 4294967296 := hyB
          have Hy := hid hy; clear hy hyB
          have hrow := hb.rw hpB
          rw [HPL2.out] at hrow
          obtain ⟨o, ho, hoB', hco⟩ := hrow.cell (j := k + j) (by omega)
          have ho' : o < 4294967296 := hoB'
          rw [Nat.zero_add] at hco
          have Ho := hid ho; clear ho hoB' hrow
          have hfree := hb.free (k + j)
          have hmb := mul_bound x y o cy hx' hy' ho' hcy
          obtain ⟨hm1', hm2⟩ := mul_boundZ x y hx' hy'
          have HMB := hid hmb; clear hmb
          go_wp2
          go_roundw
          case rel =>
            have hv := hb.set (k + j) (.int .u32 (((x * y + o + cy) % 4294967296 : Nat) : Int))
            rw [ints_set] at hv
            have e0 : ((x * y + o + cy : Nat) : Int) = (x : Int) * y + o + cy := by simp
            refine ⟨j + 1, (x * y + o + cy) / 4294967296, ps.set (k + j) ((x * y + o + cy) % 4294967296), by omega, by go_num, ?_, ?_, by rw [List.length_set]; exact HPL2.out, mem_set_lt hpB (Nat.mod_lt _ (by decide)) _, ?_, ?_, ?_, ?_⟩
            · rw [← e0]; rfl
            · have := HMB.out.1; exact Nat.div_lt_of_lt_mul this
            · intro i h1 h2
              rw [List.getElem?_set_ne (by omega)]
              exact HPZ.out i h1 h2
            · have e1 : ((x : Int) * y + o + cy) % 4294967296 = (((x * y + o + cy) % 4294967296 : Nat) : Int) := by rw [← e0]; rfl
              rw [e1]; exact hv
            · exact hbe.setCell (Nat.le_refl _) _
            · exact mul_step Ho.out HV2.out (valB_take_some _ Hy.out)
          case measure => simp [intOf]; omega
        · obtain rfl : j = m1 := by omega
          have hv2 := HV2.out
          rw [valB_take_all B32 HQL.out] at hv2
          have HV3 := hid hv2; clear hv2
          by_cases h0 : j = 0
          · subst h0
            have hq0 : valB B32 Q = 0 := by rw [List.eq_nil_of_length_eq_zero HQL.out]; rfl
            have HQ0 := hid hq0; clear hq0
            go_wp2
            go_roundw
            case rel =>
              refine ⟨k + 1, ps, by omega, by go_num, HPL2.out, hpB, fun i h1 h2 => HPZ.out i (by omega) h2, hb, hbe, ?_⟩
              have h2 := HV3.out
              rw [HV.out, HQ0.out] at h2
              rw [HQ0.out]
              omega
            case measure => simp [intOf]; omega
          · have hrow := hb.rw hpB
            rw [HPL2.out] at hrow
            have h00 := HPZ.out (k + j) (Nat.le_refl _) (by omega)
            have H00 := hid h00; clear h00
            have hcell := hb.cell (k + j) (by rw [ints_length, HPL2.out]; omega)
            have hfree := hb.free (k + j)
            go_wp2
            go_roundw
            case rel =>
              have hv := hb.set (k + j) (.int .u32 ((cy : Nat) : Int))
              rw [ints_set] at hv
              refine ⟨k + 1, ps.set (k + j) cy, by omega, by go_num, by rw [List.length_set]; exact HPL2.out, mem_set_lt hpB hcy _, ?_, hv, hbe.setCell (Nat.le_refl _) _, ?_⟩
              · intro i h1 h2
                rw [List.getElem?_set_ne (by omega)]
                exact HPZ.out i (by omega) h2
              · have h1 := valB_set B32 H00.out cy
                have h2 := HV3.out
                have h3 := valB_take_some B32 Hx.out
                rw [h3, HV.out] at *
                grind
            case measure => simp [intOf]; omega
    · obtain rfl : k = n1 := by omega
      go_wp2_with fail
      have hrow := hb.rw hoB
      rw [HOL.out] at hrow
      refine (cut_any _ _ _ _ _ (by omega) hrow).mono ?_
      rintro e w' ⟨r1, rfl, hr1', hres, rfl⟩
      have hown := hb.own (base := G) (n := k + m1) (Nat.le_refl _) (by rw [ints_length, HOL.out]; exact Nat.le_refl _)
      go_wp2
      go_ret
      refine ⟨_, _, _, rfl, ?_, by rw [← HG.out]; exact hown, by rw [← HG.out]; exact hbe⟩
      have hval : val os = val xs * val ys := by
        have h2 := HV.out
        rw [valB_take_all _ HPL.out, ← HA.out, ← HB.out] at h2
        change val os = val (limbs (val xs)) * val (limbs (val ys)) at h2
        rw [val_limbs, val_limbs] at h2
        exact h2
      rw [← hval]; exact hres

set_option maxHeartbeats 1000000 in
/-- one: a row over a limb above 0. -/
theorem one_any (ao : Option Addr) (n c : Nat) (xs : List Nat) (v : Nat) (w : World) (hn : n ≤ 1073741824) (hv0 : 0 < v) (hvB : v < 4294967296) (hr : Rw .u32 B32 w ao n c xs) :
    Calls Try.prog 97 #[.slice ao n c, .int .u32 v] w fun e w' => ∃ ro k c', e = .returned (.tuple #[.slice ro k c', .int .u32 ((val xs % v : Nat) : Int)]) ∧ Rw .u32 B32 w' ro k c' (limbs (val xs / v)) ∧ Own w.heap.size w' ro c' ∧ Below w.heap.size w w' := by
  have hvne : ((v : Int) == 0) = false := by rw [beq_eq_false_iff_ne]; omega
  go_enter Try.func97, Try.ntmps97
  go_wp2_with (at_make; refine Hid.out ?_)
  refine hid ?_
  refine wpList_mk _ rfl _ _ 34 rfl 55 (.int .u32 0) 4 Try.underlying34 Try.infoU32 rfl .i64 .i64 _ _ n rfl rfl (by omega) (by omega) (by omega) (by unfold maxLen; omega) fun w2 hblk hbelow hlt => ?_
  obtain ⟨G, hG⟩ : ∃ G, G = w.heap.size := ⟨_, rfl⟩
  rw [← hG] at hblk hlt hbelow ⊢
  have HG := hid hG; clear hG
  rw [← ints_replicate] at hblk
  have hpl := hr.len
  have HPL := hid hpl; clear hpl
  go_wp2_with fail
  go_loopw [7, 8] (fun s7 s8 wr => ∃ (k r : Nat) (os : List Nat), k ≤ n ∧ s8 = .int .i64 ((k : Int) - 1) ∧ s7 = .int .u64 r ∧ r < v ∧ os.length = n ∧ (∀ o ∈ os, o < B32) ∧ Blk wr G 55 (ints .u32 os) ∧ Below G w wr ∧
      valB B32 (xs.drop k) = v * valB B32 (os.drop k) + r) (fun _ s8 _ => (intOf s8 + 1).toNat)
  case atStart => exact ⟨n, 0, List.replicate n 0, Nat.le_refl _, rfl, rfl, hv0, by simp, (fun o ho => by have := (List.mem_replicate.1 ho).2; subst this; decide), hblk, hbelow, by rw [List.drop_of_length_le (Nat.le_of_eq HPL.out), List.drop_of_length_le (by simp)]; rfl⟩
  case round =>
    obtain ⟨k, r, os, hk, rfl, rfl, hrv, hol, hoB, hb, hbe, hv⟩ := hrel
    have HV := hid hv; have HOL := hid hol; clear hv hol hblk hbelow
    have hb0 := hb.lt
    by_cases h0 : k = 0
    · subst h0
      have hv := HV.out
      rw [List.drop_zero, List.drop_zero] at hv
      have HV2 := hid hv; clear hv HV
      go_wp2_with fail
      have hrow := hb.rw hoB
      rw [HOL.out] at hrow
      refine (cut_any _ _ _ _ _ (by omega) hrow).mono ?_
      rintro e w' ⟨r1, rfl, hr1', hres, rfl⟩
      have hown := hb.own (base := G) (n := n) (Nat.le_refl _) (by rw [ints_length, HOL.out]; exact Nat.le_refl _)
      have hr4 : r < 4294967296 := by omega
      go_wp2
      go_ret2
      have hmod : val xs % v = r := by
        have h2 := HV2.out
        unfold val; rw [h2, Nat.mul_add_mod, Nat.mod_eq_of_lt hrv]
      have hdiv : val xs / v = val os := by
        have h2 := HV2.out
        unfold val; rw [h2, Nat.mul_add_div hv0, Nat.div_eq_of_lt hrv, Nat.add_zero]
      exact ⟨_, _, _, by rw [hmod]; rfl, by rw [hdiv]; exact hres, by rw [← HG.out]; exact hown, by rw [← HG.out]; exact hbe⟩
    · obtain ⟨j, rfl⟩ : ∃ j, k = j + 1 := ⟨k - 1, by omega⟩
      obtain ⟨b1, off1, x, rfl, hx, hxB, hcx⟩ := (hr.ext (by rw [← HG.out]; exact hbe)).at (show j < n by omega)
      have hx' : x < 4294967296 := hxB
      have hr' : r < 4294967296 := by omega
      have Hx := hid hx; clear hx hxB
      have hcell := hb.cell j (by rw [ints_length, HOL.out]; omega)
      have hfree := hb.free j
      obtain ⟨s, hs⟩ : ∃ s : Nat, s = r * 4294967296 + x := ⟨_, rfl⟩
      have hor := or_join r x hr' hx'
      rw [← hs] at hor
      have hqB : s / v < 4294967296 := by
        rw [Nat.div_lt_iff_lt_mul hv0, hs]
        have := Nat.mul_le_mul_right 4294967296 (show r + 1 ≤ v from hrv)
        rw [Nat.add_mul, Nat.mul_comm v] at this
        omega
      obtain ⟨q, hq⟩ : ∃ q : Nat, q = s / v := ⟨_, rfl⟩
      obtain ⟨t, ht⟩ : ∃ t : Nat, t = s % v := ⟨_, rfl⟩
      have htv : t < v := by rw [ht]; exact Nat.mod_lt _ hv0
      have hqv : v * q + t = s := by rw [hq, ht]; exact Nat.div_add_mod s v
      have hq' : (s : Int) / (v : Int) = (q : Int) := by rw [hq]; rfl
      have ht' : (s : Int) % (v : Int) = (t : Int) := by rw [ht]; rfl
      rw [← hq] at hqB
      have HS := hid hs; have HQV := hid hqv; clear hs hqv hq ht
      go_wp2
      go_region
      go_wp2
      rw [ht']
      go_roundw
      case rel =>
        have hv := hb.set j (.int .u32 (q : Int))
        rw [ints_set] at hv
        exact ⟨j, t, os.set j q, by omega, rfl, rfl, htv, by rw [List.length_set]; exact HOL.out, mem_set_lt hoB hqB j, hv.drew, (hbe.setCell (Nat.le_refl _) _).drew, small_step (by rw [HOL.out]; omega) Hx.out HV.out HS.out HQV.out⟩
      case measure => simp [intOf]

end Go.Proofs.Ytlkdlicbhhackaa

/-
  WALKS: limb.Shl, limb.Shr, limb.Bits, limb.wide: what they return, as numbers; nothing that was there turns.
-/
set_option linter.unusedVariables false
set_option linter.unusedSimpArgs false
namespace Go.Proofs.Ytlkdlicbhhackaa
open Go.RowKit

/-- A shift's number: from 0 to 65536. -/
def clampN (n : Int) : Nat := (max 0 (min n 65536)).toNat

set_option maxHeartbeats 1000000 in
/-- Shl: times 2 to the n. -/
theorem shl_any (ao : Option Addr) (n c : Nat) (xs : List Nat) (z : Int) (w : World) (hn : n ≤ 1073741824) (hr : Rw .u32 B32 w ao n c xs) :
    Calls Try.prog 107 #[.slice ao n c, .int .i64 z] w fun e w' => ∃ ro k c', e = .returned (.slice ro k c') ∧ Rw .u32 B32 w' ro k c' (limbs (val xs * 2 ^ clampN z)) ∧ Own w.heap.size w' ro c' ∧ Below w.heap.size w w' := by
  go_enter Try.func107, Try.ntmps107
  go_wp2_with fail
  refine (cut_any ao n c xs _ (by omega) hr).mono ?_
  rintro e w' ⟨n1, rfl, hn1, hp, rfl⟩
  go_upto_region 2 with (fail)
  go_cut [1] (fun s1 wx => s1 = .int .i64 (clampN z : Nat) ∧ wx = w)
  case first =>
    by_cases hz0 : z ≤ 0
    · go_wp2_with fail
      go_meet
      exact ⟨by rw [show clampN z = 0 by unfold clampN; omega]; rfl, rfl⟩
    · by_cases hz1 : 65536 < z
      · go_wp2_with fail
        go_meet
        exact ⟨by rw [show clampN z = 65536 by unfold clampN; omega]; rfl, rfl⟩
      · go_wp2_with fail
        go_meet
        exact ⟨by rw [show ((clampN z : Nat) : Int) = z by unfold clampN; omega], rfl⟩
  case rest =>
    obtain ⟨rfl, rfl⟩ := hcut
    have hzB : clampN z ≤ 65536 := by unfold clampN; omega
    obtain ⟨zn, hzn⟩ : ∃ zn, zn = clampN z := ⟨_, rfl⟩
    rw [← hzn] at hzB ⊢
    have HZN := hid hzn; clear hzn
    obtain ⟨kk, hkk⟩ : ∃ kk, kk = zn / 32 := ⟨_, rfl⟩
    obtain ⟨ss, hss⟩ : ∃ ss, ss = zn % 32 := ⟨_, rfl⟩
    have hkkB : kk ≤ 2048 := by omega
    have hssB : ss < 32 := by omega
    have hzks : zn = 32 * kk + ss := by omega
    have hd1 : (zn : Int) / 32 = (kk : Int) := by omega
    have hd2 : (zn : Int) % 32 = (ss : Int) := by omega
    have HZ := hid hzks; clear hkk hss hzks
    by_cases h0 : n1 = 0
    · subst h0
      go_wp2
      go_ret
      have hx0 : val xs = 0 := limbs_eq_nil.1 (List.eq_nil_of_length_eq_zero hp.len)
      exact ⟨_, _, _, rfl, by rw [hx0, Nat.zero_mul]; exact Rw.nil _ _ _, Own.nil _ _ _, Below.refl _ _⟩
    · have hn0 : ((n1 : Int) == 0) = false := by rw [beq_eq_false_iff_ne]; omega
      go_wp2_with (at_make; refine Hid.out ?_)
      refine hid ?_
      refine wpList_mk _ rfl _ _ 34 rfl 55 (.int .u32 0) 4 Try.underlying34 Try.infoU32 rfl .i64 .i64 _ _ (n1 + kk + 1) rfl rfl (by omega) (by omega) (by omega) (by unfold maxLen; omega) fun w2 hblk hbelow hlt => ?_
      obtain ⟨G, hG⟩ : ∃ G, G = wc.heap.size := ⟨_, rfl⟩
      rw [← hG] at hblk hlt hbelow ⊢
      have HG := hid hG; clear hG
      rw [← ints_replicate] at hblk
      generalize hA : limbs (val xs) = P at *
      have HA := hid hA; clear hA hr hd1 hd2
      have hpl := hp.len
      have HPL := hid hpl; clear hpl
      go_wp2_with fail
      go_loopw [32] (fun s32 wr => ∃ (k : Nat) (os : List Nat), k ≤ n1 ∧ s32 = .int .i64 k ∧ os.length = n1 + kk + 1 ∧ (∀ o ∈ os, o < B32) ∧ (∃ o, os[k + kk]? = some o ∧ o < 2 ^ ss) ∧ (∀ j, k + kk < j → j < n1 + kk + 1 → os[j]? = some 0) ∧ Blk wr G 55 (ints .u32 os) ∧ Below G wc wr ∧
          valB B32 os = B32 ^ kk * (2 ^ ss * valB B32 (P.take k))) (fun s32 _ => n1 - (intOf s32).toNat)
      case atStart => exact ⟨0, List.replicate (n1 + kk + 1) 0, Nat.zero_le _, rfl, by simp, (fun o ho => by have := (List.mem_replicate.1 ho).2; subst this; decide), ⟨0, by rw [List.getElem?_replicate, if_pos (by omega)], Nat.two_pow_pos _⟩, (fun j _ hj => by simp [hj]), hblk, hbelow, by simp [valB, valB_replicate_zero]⟩
      case round =>
        obtain ⟨k, os, hk, rfl, hol, hoB, ⟨o, ho, hoS⟩, hz, hb, hbe, hv⟩ := hrel
        have HV := hid hv; have HOL := hid hol; have HZ0 := hid hz; have Ho := hid ho; have HoS := hid hoS; clear hv hol hblk hbelow hz ho hoS
        have hb0 := hb.lt
        by_cases hkn : k < n1
        · obtain ⟨b1, off1, x, rfl, hx, hxB, hcx⟩ := (hp.ext (by rw [← HG.out]; exact hbe)).at hkn
          have hx' : x < 4294967296 := hxB
          have Hx := hid hx; clear hx hxB
          have hcell := hb.cell (k + kk) (by rw [ints_length, HOL.out]; omega)
          have hg : (ints .u32 os)[k + kk]'(by rw [ints_length, HOL.out]; omega) = .int .u32 (o : Int) := by
            obtain ⟨h1, h2⟩ := List.getElem?_eq_some_iff.1 Ho.out
            rw [ints_get, h2]
          rw [hg] at hcell
          clear hg
          have hfree := hb.free (k + kk)
          have hcell2 := hb.cell (k + kk + 1) (by rw [ints_length, HOL.out]; omega)
          have hfree2 := hb.free (k + kk + 1)
          obtain ⟨v, t, hi, e1, e2, e3, ht, hhi, hhiS, hvB, e4⟩ := shl_parts x ss o hx' hssB HoS.out
          have E4 := hid e4; have HHS := hid hhiS; clear e4 hhiS
          go_wp2
          go_roundw
          case rel =>
            have hv1 := (hb.set (k + kk) (.int .u32 (t : Int))).set (k + kk + 1) (.int .u32 (hi : Int))
            rw [ints_set, ints_set] at hv1
            refine ⟨k + 1, (os.set (k + kk) t).set (k + kk + 1) hi, by omega, by go_num, by rw [List.length_set, List.length_set]; exact HOL.out, mem_set_lt (mem_set_lt hoB ht _) hhi _, ⟨hi, ?_, HHS.out⟩, ?_, hv1, (hbe.setCell (Nat.le_refl _) _).setCell (Nat.le_refl _) _, ?_⟩
            · rw [show k + 1 + kk = k + kk + 1 by omega, List.getElem?_set_self (by rw [List.length_set, HOL.out]; omega)]
            · intro j h1 h2
              rw [List.getElem?_set_ne (by omega), List.getElem?_set_ne (by omega)]
              exact HZ0.out j (by omega) h2
            · exact shl_step Ho.out (HZ0.out _ (by omega) (by omega)) HV.out Hx.out E4.out
          case measure => simp [intOf]; omega
        · obtain rfl : k = n1 := by omega
          go_wp2_with fail
          have hrow := hb.rw hoB
          rw [HOL.out] at hrow
          refine (cut_any _ _ _ _ _ (by omega) hrow).mono ?_
          rintro e w' ⟨r1, rfl, hr1', hres, rfl⟩
          have hown := hb.own (base := G) (n := k + kk + 1) (Nat.le_refl _) (by rw [ints_length, HOL.out]; exact Nat.le_refl _)
          go_wp2
          go_ret
          refine ⟨_, _, _, rfl, ?_, by rw [← HG.out]; exact hown, by rw [← HG.out]; exact hbe⟩
          have hval : val os = val xs * 2 ^ zn := by
            have h2 := HV.out
            rw [valB_take_all _ HPL.out, ← HA.out] at h2
            change val os = _ * (_ * val (limbs (val xs))) at h2
            rw [val_limbs] at h2
            rw [h2, HZ.out, Nat.pow_add, Nat.pow_mul, show (2 : Nat) ^ 32 = B32 from rfl]
            grind
          rw [← HZN.out, ← hval]; exact hres

set_option maxHeartbeats 1000000 in
/-- Shr: over 2 to the n, rounded down. -/
theorem shr_any (ao : Option Addr) (n c : Nat) (xs : List Nat) (z : Int) (w : World) (hn : n ≤ 1073741824) (hr : Rw .u32 B32 w ao n c xs) :
    Calls Try.prog 101 #[.slice ao n c, .int .i64 z] w fun e w' => ∃ ro k c', e = .returned (.slice ro k c') ∧ Rw .u32 B32 w' ro k c' (limbs (val xs / 2 ^ clampN z)) ∧ Own w.heap.size w' ro c' ∧ Below w.heap.size w w' := by
  go_enter Try.func101, Try.ntmps101
  go_wp2_with fail
  refine (cut_any ao n c xs _ (by omega) hr).mono ?_
  rintro e w' ⟨n1, rfl, hn1, hp, rfl⟩
  go_upto_region 2 with (fail)
  go_cut [1] (fun s1 wx => s1 = .int .i64 (clampN z : Nat) ∧ wx = w)
  case first =>
    by_cases hz0 : z ≤ 0
    · go_wp2_with fail
      go_meet
      exact ⟨by rw [show clampN z = 0 by unfold clampN; omega]; rfl, rfl⟩
    · by_cases hz1 : 65536 < z
      · go_wp2_with fail
        go_meet
        exact ⟨by rw [show clampN z = 65536 by unfold clampN; omega]; rfl, rfl⟩
      · go_wp2_with fail
        go_meet
        exact ⟨by rw [show ((clampN z : Nat) : Int) = z by unfold clampN; omega], rfl⟩
  case rest =>
    obtain ⟨rfl, rfl⟩ := hcut
    have hzB : clampN z ≤ 65536 := by unfold clampN; omega
    obtain ⟨zn, hzn⟩ : ∃ zn, zn = clampN z := ⟨_, rfl⟩
    rw [← hzn] at hzB ⊢
    have HZN := hid hzn; clear hzn
    obtain ⟨kk, hkk⟩ : ∃ kk, kk = zn / 32 := ⟨_, rfl⟩
    obtain ⟨ss, hss⟩ : ∃ ss, ss = zn % 32 := ⟨_, rfl⟩
    have hkkB : kk ≤ 2048 := by omega
    have hssB : ss < 32 := by omega
    have hzks : zn = 32 * kk + ss := by omega
    have hd1 : (zn : Int) / 32 = (kk : Int) := by omega
    have hd2 : (zn : Int) % 32 = (ss : Int) := by omega
    have HZ := hid hzks; clear hkk hss hzks
    by_cases h0 : n1 ≤ kk
    · go_wp2
      go_ret
      have hx0 : val xs / 2 ^ clampN z = 0 := by
        rw [← HZN.out, HZ.out, Nat.pow_add, Nat.pow_mul]
        have h1 := val_lt hp.lt
        rw [val_limbs, hp.len] at h1
        have h2 : B32 ^ n1 ≤ B32 ^ kk := Nat.pow_le_pow_right (by decide) h0
        have h3 : B32 ^ kk * 1 ≤ B32 ^ kk * 2 ^ ss := Nat.mul_le_mul_left _ (Nat.two_pow_pos ss)
        exact Nat.div_eq_of_lt (by show val xs < B32 ^ kk * 2 ^ ss; omega)
      exact ⟨_, _, _, rfl, by rw [hx0]; exact Rw.nil _ _ _, Own.nil _ _ _, Below.refl _ _⟩
    · obtain ⟨l, hl⟩ : ∃ l, n1 = kk + l := ⟨n1 - kk, by omega⟩
      have hl0 : 0 < l := by omega
      subst hl
      go_wp2_with (at_make; refine Hid.out ?_)
      refine hid ?_
      refine wpList_mk _ rfl _ _ 34 rfl 55 (.int .u32 0) 4 Try.underlying34 Try.infoU32 rfl .i64 .i64 _ _ l rfl rfl (by omega) (by omega) (by omega) (by unfold maxLen; omega) fun w2 hblk hbelow hlt => ?_
      obtain ⟨G, hG⟩ : ∃ G, G = wc.heap.size := ⟨_, rfl⟩
      rw [← hG] at hblk hlt hbelow ⊢
      have HG := hid hG; clear hG
      rw [← ints_replicate] at hblk
      generalize hA : limbs (val xs) = P at *
      have HA := hid hA; clear hA hr hd1 hd2
      have hpl := hp.len
      have HPL := hid hpl; clear hpl
      go_wp2_with fail
      go_loopw [31] (fun s31 wr => ∃ (k : Nat) (os : List Nat), k ≤ l ∧ s31 = .int .i64 k ∧ os.length = l ∧ (∀ o ∈ os, o < B32) ∧ Blk wr G 55 (ints .u32 os) ∧ Below G wc wr ∧
          2 ^ ss * valB B32 (os.take k) + (P.drop kk).getD 0 0 % 2 ^ ss = valB B32 ((P.drop kk).take k) + B32 ^ k * ((P.drop kk).getD k 0 % 2 ^ ss)) (fun s31 _ => l - (intOf s31).toNat)
      case atStart => exact ⟨0, List.replicate l 0, Nat.zero_le _, rfl, by simp, (fun o ho => by have := (List.mem_replicate.1 ho).2; subst this; decide), hblk, hbelow, by simp [valB]⟩
      case round =>
        obtain ⟨k, os, hk, rfl, hol, hoB, hb, hbe, hv⟩ := hrel
        have HV := hid hv; have HOL := hid hol; clear hv hol hblk hbelow
        have hb0 := hb.lt
        by_cases hkn : k < l
        · obtain ⟨b1, off1, x, rfl, hx, hxB, hcx⟩ := (hp.ext (by rw [← HG.out]; exact hbe)).at (show k + kk < kk + l by omega)
          have hx' : x < 4294967296 := hxB
          have Hx := hid hx; clear hx hxB
          have hcell := hb.cell k (by rw [ints_length, HOL.out]; omega)
          have hfree := hb.free k
          by_cases hk1 : k + 1 < l
          · obtain ⟨y, hy, hyB, hcy⟩ := (hp.ext (by rw [← HG.out]; exact hbe)).cell (show k + kk + 1 < kk + l by omega)
            have hy' : y < 4294967296 := hyB
            have Hy := hid hy; clear hy hyB
            obtain ⟨q, e1, hq, e2⟩ := shr_parts x y ss hx' hy' hssB
            have E1 := hid e1; have E2 := hid e2; clear e1 e2
            go_wp2
            rw [E1.out]
            go_roundw
            case rel =>
              have hv := hb.set k (.int .u32 (q : Int))
              rw [ints_set] at hv
              refine ⟨k + 1, os.set k q, by omega, by go_num, by rw [List.length_set]; exact HOL.out, mem_set_lt hoB hq k, hv, hbe.setCell (Nat.le_refl _) _, ?_⟩
              refine shr_step (by rw [HOL.out]; omega) HV.out (x := x) (y := y) ?_ ?_ E2.out
              · rw [List.getElem?_drop, Nat.add_comm]; exact Hx.out
              · rw [List.getD_eq_getElem?_getD, List.getElem?_drop, show kk + (k + 1) = k + kk + 1 by omega, Hy.out]; rfl
            case measure => simp [intOf]; omega
          · obtain ⟨q, e1, hq, e2⟩ := shr_parts0 x ss hx'
            have E1 := hid e1; have E2 := hid e2; clear e1 e2
            go_wp2
            rw [E1.out]
            go_roundw
            case rel =>
              have hv := hb.set k (.int .u32 (q : Int))
              rw [ints_set] at hv
              refine ⟨k + 1, os.set k q, by omega, by go_num, by rw [List.length_set]; exact HOL.out, mem_set_lt hoB hq k, hv, hbe.setCell (Nat.le_refl _) _, ?_⟩
              refine shr_step (by rw [HOL.out]; omega) HV.out (x := x) (y := 0) ?_ ?_ E2.out
              · rw [List.getElem?_drop, Nat.add_comm]; exact Hx.out
              · rw [List.getD_eq_getElem?_getD, List.getElem?_drop, List.getElem?_eq_none (by rw [HPL.out]; omega)]; rfl
            case measure => simp [intOf]; omega
        · obtain rfl : k = l := by omega
          go_wp2_with fail
          have hrow := hb.rw hoB
          rw [HOL.out] at hrow
          refine (cut_any _ _ _ _ _ (by omega) hrow).mono ?_
          rintro e w' ⟨r1, rfl, hr1', hres, rfl⟩
          have hown := hb.own (base := G) (n := k) (Nat.le_refl _) (by rw [ints_length, HOL.out]; exact Nat.le_refl _)
          go_wp2
          go_ret
          refine ⟨_, _, _, rfl, ?_, by rw [← HG.out]; exact hown, by rw [← HG.out]; exact hbe⟩
          have hval : val os = val xs / 2 ^ zn := by
            have h2 := HV.out
            have hdl : (P.drop kk).length = k := by rw [List.length_drop, HPL.out]; omega
            rw [valB_take_all _ HOL.out, valB_take_all _ hdl, List.getD_eq_getElem?_getD (i := k), List.getElem?_eq_none (by omega)] at h2
            simp only [Option.getD_none, Nat.zero_mod, Nat.mul_zero, Nat.add_zero] at h2
            have h3 := valB_drop B32 P kk (by rw [HPL.out]; omega)
            have h4 : val P = val xs := by rw [← HA.out, val_limbs]
            have h5 : valB B32 (P.take kk) < B32 ^ kk := by
              have := valB_lt (B := B32) (xs := P.take kk) (fun x h => hp.lt x (List.mem_of_mem_take h))
              rwa [List.length_take, Nat.min_eq_left (by rw [HPL.out]; omega)] at this
            have h6 : (P.drop kk).getD 0 0 % 2 ^ ss < 2 ^ ss := Nat.mod_lt _ (Nat.two_pow_pos ss)
            rw [HZ.out, Nat.pow_add, Nat.pow_mul, show (2 : Nat) ^ 32 = B32 from rfl, ← Nat.div_div_eq_div_mul, ← h4]
            change val P = _ at h3
            rw [h3, Nat.add_mul_div_left _ _ (Nat.pow_pos (by decide)), Nat.div_eq_of_lt h5, Nat.zero_add, ← h2, Nat.mul_add_div (Nat.two_pow_pos ss), Nat.div_eq_of_lt h6]
            rfl
          rw [← HZN.out, ← hval]; exact hres

end Go.Proofs.Ytlkdlicbhhackaa

/-
  WALKS: math/bits.Len32, LeadingZeros32, limb.Bits: how many binary digits.
-/
set_option linter.unusedVariables false
set_option linter.unusedSimpArgs false
namespace Go.Proofs.Ytlkdlicbhhackaa
open Go.RowKit

/-- How many binary digits a number has. -/
def nbits (n : Nat) : Nat := if n = 0 then 0 else n.log2 + 1

theorem nbits_unique {n k : Nat} (h0 : 2 ^ k ≤ n) (h1 : n < 2 ^ (k + 1)) : nbits n = k + 1 := by
  have hp := Nat.two_pow_pos k
  have hn : n ≠ 0 := by omega
  rw [nbits, if_neg hn]
  have h2 : n.log2 < k + 1 := (Nat.log2_lt hn).2 h1
  have h3 : k ≤ n.log2 := (Nat.le_log2 hn).2 h0
  omega

theorem nbits_zero : nbits 0 = 0 := rfl

theorem nbits_lt (n : Nat) : n < 2 ^ nbits n := by
  rw [nbits]
  split
  · rename_i h; subst h; decide
  · exact Nat.lt_log2_self

theorem nbits_le {n : Nat} (h : n ≠ 0) : 2 ^ (nbits n - 1) ≤ n := by
  rw [nbits, if_neg h]; exact Nat.log2_self_le h

theorem nbits_pos {n : Nat} (h : n ≠ 0) : 0 < nbits n := by rw [nbits, if_neg h]; omega

/-- A number over a base of 2 to the s: its digits are s and those of the upper part. -/
theorem nbits_split {n s y l : Nat} (hl : l < 2 ^ s) (hy : y ≠ 0) (hn : n = l + 2 ^ s * y) : nbits n = s + nbits y := by
  have h1 := nbits_lt y
  have h2 := nbits_le hy
  have h3 := nbits_pos hy
  obtain ⟨b, hb⟩ : ∃ b, nbits y = b + 1 := ⟨nbits y - 1, by omega⟩
  rw [hb] at h1 h2 ⊢
  rw [Nat.add_sub_cancel] at h2
  refine nbits_unique (k := s + b) ?_ ?_
  · rw [Nat.pow_add]
    have := Nat.mul_le_mul_left (2 ^ s) h2
    omega
  · rw [Nat.add_assoc, Nat.pow_add]
    have := Nat.mul_le_mul_left (2 ^ s) (show y + 1 ≤ 2 ^ (b + 1) from h1)
    rw [Nat.mul_add] at this
    omega

theorem nbits_le_of_lt {n k : Nat} (h : n < 2 ^ k) : nbits n ≤ k := by
  by_cases h0 : n = 0
  · subst h0; simp [nbits]
  · have h1 := nbits_le h0
    have h2 : 2 ^ (nbits n - 1) < 2 ^ k := Nat.lt_of_le_of_lt h1 h
    have := (Nat.pow_lt_pow_iff_right (by decide)).1 h2
    omega

/-- A table of the digits' counts: the first 256 bytes of a string. -/
def tabOk (s : ByteArray) : Bool := (List.range 256).all fun y => (s.data[y]?).map (fun b => b.toNat) == some (nbits y)

theorem tab_at {s : ByteArray} (h : tabOk s = true) {y : Nat} (hy : y < 256) : ∃ b : UInt8, s[y]? = some b ∧ b.toNat = nbits y := by
  have h1 := List.all_eq_true.1 h y (by simpa using hy)
  simp only [beq_iff_eq, Option.map_eq_some_iff] at h1
  obtain ⟨b, h2, h3⟩ := h1
  exact ⟨b, h2, h3⟩

/-- An index into a constant string. -/
theorem wpList_tab {P : Program} (w : World) {ops : Array Oper} {rest : List Oper} {o : Oper} {a : Act} {Q : Exit → Act → World → Prop} (hgd : o.guard = none) (t : TypeId) (s : ByteArray) (x : Operand)
    (hop : o.op = .index t (.const (.string s)) x) (ht : P.underlying t = some .string) (k : IntKind) (y : Nat) (hx : a.eval x = .int k (y : Int)) (hy : y < 256) (htab : tabOk s = true)
    (h : wpList P ops Q rest (a.put o.dst (.int .u8 (nbits y : Nat))) w) : wpList P ops Q (o :: rest) a w := by
  obtain ⟨b, hb, hn⟩ := tab_at htab hy
  refine wpList_plain hgd fun K hK => ?_
  have hrun : (Instr.index t (.string s) (.int k (y : Int))).run P w = .ok (.int .u8 (nbits y : Nat)) w := by
    unfold Instr.index
    simp [run_underlying ht, asIntOf, hb, hn]
  unfold Oper.wp
  have he : a.eval (.const (.string s)) = .string s := rfl
  simp [execOp, hop, hx, he, hrun, Result.andThen]
  exact hK _ _ h

set_option maxRecDepth 100000 in
theorem len32_any (x : Nat) (w : World) (hx : x < 4294967296) :
    Calls Try.prog 106 #[.int .u32 (x : Int)] w fun e w' => e = .returned (.int .i64 (nbits x : Nat)) ∧ w' = w := by
  by_cases h1 : 65536 ≤ x
  · obtain ⟨y, hy⟩ : ∃ y : Nat, y = x / 65536 := ⟨_, rfl⟩
    have hyB : y < 65536 := by omega
    have hq : (x : Int) / 65536 = (y : Int) := by omega
    have HY := hid hy; clear hy
    have hb1 : decide ((65536 : Int) ≤ (x : Int)) = true := by rw [decide_eq_true_eq]; omega
    by_cases h2 : 256 ≤ y
    · obtain ⟨z, hz⟩ : ∃ z : Nat, z = y / 256 := ⟨_, rfl⟩
      have hzB : z < 256 := by omega
      have hq2 : (y : Int) / 256 = (z : Int) := by omega
      have HZ := hid hz; clear hz
      have hbits : nbits x = nbits z + 24 := by
        have := nbits_split (n := x) (s := 24) (y := z) (l := x % 16777216) (Nat.mod_lt _ (by decide)) (by have := HZ.out; omega) (by have h3 := HZ.out; have h4 := HY.out; show x = x % 16777216 + 16777216 * z; omega)
        omega
      have HB := hid hbits; clear hbits
      have hn9 : nbits z ≤ 8 := nbits_le_of_lt hzB
      go_enter Try.func106, Try.ntmps106
      go_wp2_with (with_reducible refine Hid.out (p := wpList _ _ _ ({ dst := some 16, op := _, type := _, pos := _, after := _, guard := _ } :: _) _ _) ?_)
      refine hid ?_
      refine wpList_tab _ rfl 9 _ _ rfl Try.underlying9 .u8 z rfl hzB (by decide +kernel) ?_
      go_wp2
      go_ret
      exact ⟨ret_int (by rw [HB.out]; simp; omega), rfl⟩
    · have hyB2 : y < 256 := by omega
      have hy0 : 0 < y := by omega
      have hb2 : decide ((256 : Int) ≤ (y : Int)) = false := by rw [decide_eq_false_iff_not]; omega
      have hbits : nbits x = nbits y + 16 := by
        have := nbits_split (n := x) (s := 16) (y := y) (l := x % 65536) (Nat.mod_lt _ (by decide)) (by omega) (by have h4 := HY.out; show x = x % 65536 + 65536 * y; omega)
        omega
      have HB := hid hbits; clear hbits
      have hn9 : nbits y ≤ 8 := nbits_le_of_lt hyB2
      go_enter Try.func106, Try.ntmps106
      go_wp2_with (with_reducible refine Hid.out (p := wpList _ _ _ ({ dst := some 16, op := _, type := _, pos := _, after := _, guard := _ } :: _) _ _) ?_)
      refine hid ?_
      refine wpList_tab _ rfl 9 _ _ rfl Try.underlying9 .u8 y rfl hyB2 (by decide +kernel) ?_
      go_wp2
      go_ret
      exact ⟨ret_int (by rw [HB.out]; simp; omega), rfl⟩
  · have hb1 : decide ((65536 : Int) ≤ (x : Int)) = false := by rw [decide_eq_false_iff_not]; omega
    by_cases h2 : 256 ≤ x
    · obtain ⟨z, hz⟩ : ∃ z : Nat, z = x / 256 := ⟨_, rfl⟩
      have hzB : z < 256 := by omega
      have hq2 : (x : Int) / 256 = (z : Int) := by omega
      have HZ := hid hz; clear hz
      have hb2 : decide ((256 : Int) ≤ (x : Int)) = true := by rw [decide_eq_true_eq]; omega
      have hbits : nbits x = nbits z + 8 := by
        have := nbits_split (n := x) (s := 8) (y := z) (l := x % 256) (Nat.mod_lt _ (by decide)) (by have := HZ.out; omega) (by have h3 := HZ.out; show x = x % 256 + 256 * z; omega)
        omega
      have HB := hid hbits; clear hbits
      have hn9 : nbits z ≤ 8 := nbits_le_of_lt hzB
      go_enter Try.func106, Try.ntmps106
      go_wp2_with (with_reducible refine Hid.out (p := wpList _ _ _ ({ dst := some 16, op := _, type := _, pos := _, after := _, guard := _ } :: _) _ _) ?_)
      refine hid ?_
      refine wpList_tab _ rfl 9 _ _ rfl Try.underlying9 .u8 z rfl hzB (by decide +kernel) ?_
      go_wp2
      go_ret
      exact ⟨ret_int (by rw [HB.out]; simp; omega), rfl⟩
    · have hxB : x < 256 := by omega
      have hb2 : decide ((256 : Int) ≤ (x : Int)) = false := by rw [decide_eq_false_iff_not]; omega
      have hn9 : nbits x ≤ 8 := nbits_le_of_lt hxB
      go_enter Try.func106, Try.ntmps106
      go_wp2_with (with_reducible refine Hid.out (p := wpList _ _ _ ({ dst := some 16, op := _, type := _, pos := _, after := _, guard := _ } :: _) _ _) ?_)
      refine hid ?_
      refine wpList_tab _ rfl 9 _ _ rfl Try.underlying9 .u8 x rfl hxB (by decide +kernel) ?_
      go_wp2
      go_ret
      exact ⟨rfl, rfl⟩

theorem lz32_any (x : Nat) (w : World) (hx : x < 4294967296) :
    Calls Try.prog 98 #[.int .u32 (x : Int)] w fun e w' => e = .returned (.int .i64 ((32 - nbits x : Nat) : Int)) ∧ w = w' := by
  have hn := nbits_le_of_lt (n := x) (k := 32) hx
  go_enter Try.func98, Try.ntmps98
  go_wp2_with fail
  refine (len32_any x _ hx).mono ?_
  rintro e w' ⟨rfl, rfl⟩
  go_wp2
  go_ret
  exact ⟨ret_int (by omega), rfl⟩

/-- Bits: how many binary digits. -/
theorem bits_any (ao : Option Addr) (n c : Nat) (xs : List Nat) (w : World) (hn : n ≤ 1073741824) (hr : Rw .u32 B32 w ao n c xs) :
    Calls Try.prog 95 #[.slice ao n c] w fun e w' => e = .returned (.int .i64 (nbits (val xs) : Nat)) ∧ w = w' := by
  go_enter Try.func95, Try.ntmps95
  go_wp2_with fail
  refine (cut_any ao n c xs _ (by omega) hr).mono ?_
  rintro e w' ⟨n1, rfl, hn1, hp, rfl⟩
  by_cases h0 : n1 = 0
  · subst h0
    have hx0 : val xs = 0 := limbs_eq_nil.1 (List.eq_nil_of_length_eq_zero hp.len)
    have HX := hid hx0; clear hx0
    go_wp2
    go_ret
    exact ⟨by rw [HX.out]; rfl, rfl⟩
  · obtain ⟨j, rfl⟩ : ∃ j, n1 = j + 1 := ⟨n1 - 1, by omega⟩
    obtain ⟨b1, off1, x, rfl, hx, hxB, hcx⟩ := hp.at (show j < j + 1 by omega)
    have hx' : x < 4294967296 := hxB
    have hx0 : x ≠ 0 := by
      rintro rfl
      have h1 := (digs_nrm B32_two (val xs)).2
      rw [List.getLast?_eq_getElem?] at h1
      change (limbs (val xs))[(limbs (val xs)).length - 1]? ≠ some 0 at h1
      rw [hp.len, Nat.add_sub_cancel] at h1
      exact h1 hx
    have hbits : nbits (val xs) = 32 * j + nbits x := by
      have h1 := val_limbs (val xs)
      have h2 := valB_take_some B32 hx
      rw [valB_take_all _ hp.len] at h2
      change val (limbs (val xs)) = _ at h2
      rw [h1] at h2
      refine nbits_split (l := valB B32 ((limbs (val xs)).take j)) ?_ hx0 ?_
      · have := valB_lt (B := B32) (xs := (limbs (val xs)).take j) (fun x h => limbs_lt _ x (List.mem_of_mem_take h))
        rw [List.length_take, hp.len, Nat.min_eq_left (by omega)] at this
        rw [Nat.pow_mul]; exact this
      · rw [Nat.pow_mul]; exact h2
    have HB := hid hbits; clear hbits
    have hnb := nbits_le_of_lt (n := x) (k := 32) hx'
    clear hx hxB hx0
    go_wp2_with fail
    refine (len32_any x _ hx').mono ?_
    rintro e w' ⟨rfl, rfl⟩
    go_wp2
    go_ret
    exact ⟨ret_int (by rw [HB.out]; simp; try omega), rfl⟩

end Go.Proofs.Ytlkdlicbhhackaa

/-
  WALKS: the plain reckoning: MulN, BitsN.
-/
set_option linter.unusedVariables false
set_option linter.unusedSimpArgs false
namespace Go.Proofs.Ytlkdlicbhhackaa
open Go.RowKit

theorem mulN_step {B k j cy x y o R V V' : Nat} {ps : List Nat} (ho : ps[k + j]? = some o) (hv : valB B ps + B ^ (k + j) * cy = R + B ^ k * (x * V))
    (hQ : V' = V + B ^ j * y) :
    valB B (ps.set (k + j) ((o + cy + x * y) % B)) + B ^ (k + (j + 1)) * ((o + cy + x * y) / B) = R + B ^ k * (x * V') := by
  have h1 := valB_set B ho ((o + cy + x * y) % B)
  have h2 := pow_step B (k + j) (o + cy + x * y)
  rw [Nat.mul_add, Nat.mul_add] at h2
  have h3 : B ^ k * (x * (V + B ^ j * y)) = B ^ k * (x * V) + B ^ (k + j) * (x * y) := by rw [Nat.pow_add]; grind
  rw [hQ, h3, ← Nat.add_assoc]
  omega

theorem mulN_boundZ (x y : Nat) (hx : x ≤ 9999) (hy : y ≤ 9999) : (x : Int) * (y : Int) ≤ 99980001 ∧ (0 : Int) ≤ (x : Int) * (y : Int) := by
  have h := Nat.mul_le_mul hx hy
  rw [← Int.natCast_mul]
  omega

set_option maxHeartbeats 2000000 in
/-- MulN: the product. -/
theorem mulN_own (ao bo : Option Addr) (n cp m d M N : Nat) (w : World) (hn : n ≤ 1073741824) (hm : m ≤ 1073741824) (hr : Rw .i64 B4 w ao n cp (digs4 M)) (hs : Rw .i64 B4 w bo m d (digs4 N)) :
    Calls Try.prog 79 #[.slice ao n cp, .slice bo m d] w fun e w' => ∃ ro k c', e = .returned (.slice ro k c') ∧ Rw .i64 B4 w' ro k c' (digs4 (M * N)) ∧ k ≤ n + m ∧ Own w.heap.size w' ro c' ∧ Below w.heap.size w w' := by
  obtain ⟨P, hxs⟩ : ∃ xs, xs = digs4 M := ⟨_, rfl⟩
  obtain ⟨Q, hys⟩ : ∃ ys, ys = digs4 N := ⟨_, rfl⟩
  rw [← hxs] at hr
  rw [← hys] at hs
  have hl1 := hr.len
  have hl2 := hs.len
  have HA := hid hxs; have HB := hid hys; have HPL := hid hl1; have HQL := hid hl2
  clear hxs hys hl1 hl2
  go_enter Try.func79, Try.ntmps79
  go_wp2_with (at_make; refine Hid.out ?_)
  refine hid ?_
  refine wpList_mk _ rfl _ _ 40 rfl 3 (.int .i64 0) 8 Try.underlying40 Try.infoInt rfl .i64 .i64 _ _ (n + m) rfl rfl (by omega) (by omega) (by omega) (by unfold maxLen; omega) fun w2 hblk hbelow hlt => ?_
  obtain ⟨G, hG⟩ : ∃ G, G = w.heap.size := ⟨_, rfl⟩
  rw [← hG] at hblk hlt hbelow ⊢
  have HG := hid hG; clear hG
  rw [← ints_replicate] at hblk
  go_wp2_with fail
  go_loopw [18] (fun s18 wr => ∃ (k : Nat) (os : List Nat), k ≤ n ∧ s18 = .int .i64 k ∧ os.length = n + m ∧ (∀ o ∈ os, o < B4) ∧ (∀ j, k + m ≤ j → j < n + m → os[j]? = some 0) ∧ Blk wr G 3 (ints .i64 os) ∧ Below G w wr ∧
      valB B4 os = valB B4 (P.take k) * valB B4 Q) (fun s18 _ => n - (intOf s18).toNat)
  case atStart => exact ⟨0, List.replicate (n + m) 0, Nat.zero_le _, rfl, by simp, (fun o ho => by have := (List.mem_replicate.1 ho).2; subst this; decide), (fun j _ hj => by simp [hj]), hblk, hbelow, by simp [valB, valB_replicate_zero]⟩
  case round =>
    obtain ⟨k, os, hk, rfl, hol, hoB, hz, hb, hbe, hv⟩ := hrel
    have HV := hid hv; have HOL := hid hol; have HZ := hid hz; clear hv hol hblk hbelow hz
    have hb0 := hb.lt
    by_cases hkn : k < n
    · obtain ⟨b1, off1, x, rfl, hx, hxB, hcx⟩ := (hr.ext (by rw [← HG.out]; exact hbe)).at hkn
      have hx' : x ≤ 9999 := by have : x < 10000 := hxB; omega
      have Hx := hid hx; clear hx hxB
      have hp0 : Rw .i64 B4 wr (some ⟨b1, off1, none⟩) n cp P := hr.ext (by rw [← HG.out]; exact hbe)
      clear hcx
      go_wp2_with fail
      obtain ⟨wo, rfl⟩ : ∃ wo : World, wo = wr := ⟨_, rfl⟩
      go_loopw [7, 8] (fun s7 s8 wr => ∃ (j cy : Nat) (ps : List Nat), j ≤ m + 1 ∧ (j = m + 1 → cy = 0) ∧ s8 = .int .i64 j ∧ s7 = .int .i64 cy ∧ cy ≤ 9999 ∧ ps.length = n + m ∧ (∀ o ∈ ps, o < B4) ∧ (∀ i, k + m ≤ i → k + j ≤ i → i < n + m → ps[i]? = some 0) ∧ Blk wr G 3 (ints .i64 ps) ∧ Below G w wr ∧
          valB B4 ps + B4 ^ (k + j) * cy = valB B4 os + B4 ^ k * (x * valB B4 (Q.take j))) (fun _ s8 _ => m + 1 - (intOf s8).toNat)
      case atStart => exact ⟨0, 0, os, Nat.zero_le _, fun h => rfl, rfl, rfl, by omega, HOL.out, hoB, fun i h1 _ h2 => HZ.out i h1 h2, hb, hbe, by simp [valB]⟩
      case round =>
        obtain ⟨j, cy, ps, hj, hjc, rfl, rfl, hcy, hpl, hpB, hpz, hb, hbe, hv⟩ := hrel
        have HV2 := hid hv; have HPL2 := hid hpl; have HPZ := hid hpz; have HJC := hid hjc; clear hv hpl hpz hjc
        obtain ⟨x2, hx2, _, hcx⟩ := (hr.ext (by rw [← HG.out]; exact hbe)).cell hkn
        obtain rfl : x = x2 := by have h := Hx.out; rw [hx2] at h; exact (Option.some.inj h).symm
        clear hx2
        by_cases hjm : j < m
        · obtain ⟨b2, off2, y, rfl, hy, hyB, hcy2⟩ := (hs.ext (by rw [← HG.out]; exact hbe)).at hjm
          have hy' : y ≤ 9999 := by have : y < 10000 := hyB; omega
          have Hy := hid hy; clear hy hyB
          have hrow := hb.rw hpB
          rw [HPL2.out] at hrow
          obtain ⟨o, ho, hoB', hco⟩ := hrow.cell (j := k + j) (by omega)
          have ho' : o ≤ 9999 := by have : o < 10000 := hoB'; omega
          rw [Nat.zero_add] at hco
          have Ho := hid ho; clear ho hoB' hrow
          have hfree := hb.free (k + j)
          obtain ⟨hm1', hm2⟩ := mulN_boundZ x y hx' hy'
          have hmn := Nat.mul_le_mul hx' hy'
          have HMN := hid hmn; clear hmn
          go_upto_region 11 with (fail)
          go_quiet (fail)
          go_wp2
          go_roundw
          case rel =>
            have hv := (hb.drewN 1).set (k + j) (.int .i64 (((o + cy + x * y) % 10000 : Nat) : Int))
            rw [ints_set] at hv
            have e0 : ((o + cy + x * y : Nat) : Int) = (o : Int) + cy + x * y := by simp
            refine ⟨j + 1, (o + cy + x * y) / 10000, ps.set (k + j) ((o + cy + x * y) % 10000), by omega, fun h => absurd h (by omega), by go_num, ?_, ?_, by rw [List.length_set]; exact HPL2.out, mem_set_lt hpB (Nat.mod_lt _ (by decide)) _, ?_, ?_, ?_, ?_⟩
            · rw [← e0]; rfl
            · have := HMN.out; omega
            · intro i h1 h2 h3
              rw [List.getElem?_set_ne (by omega)]
              exact HPZ.out i h1 (by omega) h3
            · have e1 : ((o : Int) + cy + x * y) % 10000 = (((o + cy + x * y) % 10000 : Nat) : Int) := by rw [← e0]; rfl
              rw [e1]; exact hv
            · exact (ext_drewN hbe _).setCell (Nat.le_refl _) _
            · exact mulN_step Ho.out HV2.out (valB_take_some _ Hy.out)
          case measure => simp [intOf]; omega
        · have hqm : valB B4 (Q.take (j + 1)) = valB B4 (Q.take j) := valB_take_none _ (by rw [HQL.out]; omega)
          have HQM := hid hqm; clear hqm
          by_cases hc0 : 0 < cy
          · obtain rfl : j = m := by
              have h := HJC.out
              have : ¬ j = m + 1 := fun h2 => by have := h h2; omega
              omega
            have hrow := hb.rw hpB
            rw [HPL2.out] at hrow
            obtain ⟨o, ho, hoB', hco⟩ := hrow.cell (j := k + j) (by omega)
            have h00 := HPZ.out (k + j) (Nat.le_refl _) (Nat.le_refl _) (by omega)
            obtain rfl : o = 0 := by rw [h00] at ho; exact (Option.some.inj ho).symm
            rw [Nat.zero_add] at hco
            have Ho := hid ho; clear ho hoB' hrow h00
            have hfree := hb.free (k + j)
            have hd : decide (j < j) = false := by simp
            go_wp2
            go_roundw
            case rel =>
              have hv := hb.set (k + j) (.int .i64 (((0 + cy + x * 0) % 10000 : Nat) : Int))
              rw [ints_set] at hv
              have e2 : (0 + cy + x * 0) % 10000 = cy := by omega
              have e3 : (0 + cy + x * 0) / 10000 = 0 := by omega
              refine ⟨j + 1, (0 + cy + x * 0) / 10000, ps.set (k + j) ((0 + cy + x * 0) % 10000), by omega, fun _ => e3, by go_num, ?_, ?_, by rw [List.length_set]; exact HPL2.out, mem_set_lt hpB (Nat.mod_lt _ (by decide)) _, ?_, ?_, ?_, ?_⟩
              · congr 1; try omega
              · omega
              · intro i h1 h2 h3
                rw [List.getElem?_set_ne (by omega)]
                exact HPZ.out i h1 (by omega) h3
              · rw [e2] at hv ⊢
                have e4 : (cy : Int) % 10000 = (cy : Int) := by omega
                first | exact hv | (rw [e4]; exact hv)
              · exact hbe.setCell (Nat.le_refl _) _
              · exact mulN_step Ho.out HV2.out (by rw [HQM.out]; simp)
            case measure => (simp [intOf])
          · obtain rfl : cy = 0 := by omega
            have hd : decide (j < m) = false := by rw [decide_eq_false_iff_not]; omega
            go_wp2
            go_roundw
            case rel =>
              refine ⟨k + 1, ps, by omega, by go_num, HPL2.out, hpB, fun i h1 h2 => HPZ.out i (by omega) (by omega) h2, hb, hbe, ?_⟩
              have h2 := HV2.out
              rw [List.take_of_length_le (l := Q) (by rw [HQL.out]; omega), HV.out] at h2
              rw [valB_take_some _ Hx.out]
              have h4 : (valB B4 (P.take k) + B4 ^ k * x) * valB B4 Q = valB B4 (P.take k) * valB B4 Q + B4 ^ k * (x * valB B4 Q) := by grind
              omega
            case measure => simp [intOf]; omega
    · obtain rfl : k = n := by omega
      go_wp2_with fail
      have hrow := hb.rw hoB
      rw [HOL.out] at hrow
      refine (rcut_any _ _ _ _ _ (by omega) hrow).mono ?_
      rintro e w' ⟨r1, rfl, hr1', hres, rfl⟩
      go_wp2
      go_ret
      refine ⟨_, _, _, rfl, ?_, hr1', by rw [← HG.out]; exact hb.own (Nat.le_refl _) (by rw [ints_length, HOL.out]; exact Nat.le_refl _), by rw [← HG.out]; exact hbe⟩
      have hval : val4 os = M * N := by
        have h2 := HV.out
        rw [valB_take_all _ HPL.out, HA.out, HB.out] at h2
        change val4 os = val4 (digs4 M) * val4 (digs4 N) at h2
        rw [val4_digs4, val4_digs4] at h2
        exact h2
      rw [← hval]; exact hres

theorem mulN_any (ao bo : Option Addr) (n cp m d M N : Nat) (w : World) (hn : n ≤ 1073741824) (hm : m ≤ 1073741824) (hr : Rw .i64 B4 w ao n cp (digs4 M)) (hs : Rw .i64 B4 w bo m d (digs4 N)) :
    Calls Try.prog 79 #[.slice ao n cp, .slice bo m d] w fun e w' => ∃ ro k c', e = .returned (.slice ro k c') ∧ Rw .i64 B4 w' ro k c' (digs4 (M * N)) ∧ k ≤ n + m ∧ Below w.heap.size w w' :=
  (mulN_own ao bo n cp m d M N w hn hm hr hs).mono fun e w' ⟨ro, k, c', he, h1, hk, _, h2⟩ => ⟨ro, k, c', he, h1, hk, h2⟩

end Go.Proofs.Ytlkdlicbhhackaa

/-
  Row: the first limbs of a row.
-/
set_option linter.unusedVariables false
set_option linter.unusedSimpArgs false
namespace Go.Proofs.Ytlkdlicbhhackaa
open Go.RowKit

/-- Row: the first k limbs at most. -/
theorem row_any (ao : Option Addr) (n c k : Nat) (xs : List Nat) (w : World) (hn : n ≤ 9223372036854775807) (hk : k ≤ 1000000) (hr : Rw .u32 B32 w ao n c xs) :
    Calls Try.prog 90 #[.slice ao n c, .int .i64 (k : Int)] w fun e w' => ∃ m, e = .returned (.slice ao m c) ∧ m ≤ k ∧ m ≤ n ∧ Rw .u32 B32 w ao m c (xs.take k) ∧ w = w' := by
  have hlc := hr.le
  by_cases h : n ≤ k
  · go_enter Try.func90, Try.ntmps90
    go_wp2
    go_ret
    exact ⟨_, rfl, h, Nat.le_refl _, by rw [List.take_of_length_le (by rw [hr.len]; exact h)]; exact hr, rfl⟩
  · have hkc : k ≤ c := by omega
    go_enter Try.func90, Try.ntmps90
    go_wp2
    go_ret
    exact ⟨_, rfl, Nat.le_refl _, by omega, hr.take (by omega), rfl⟩

end Go.Proofs.Ytlkdlicbhhackaa

/-
  Copy and Same of rows of limbs.
-/
set_option linter.unusedVariables false
set_option linter.unusedSimpArgs false
namespace Go.Proofs.Ytlkdlicbhhackaa
open Go.RowKit

/-- Copy: a row in new memory. -/
theorem copy_any (ao : Option Addr) (n c : Nat) (xs : List Nat) (w : World) (hn : n ≤ 1073741824) (hr : Rw .u32 B32 w ao n c xs) :
    Calls Try.prog 41 #[.slice ao n c] w fun e w' => ∃ ao' c', e = .returned (.slice ao' n c') ∧ Rw .u32 B32 w' ao' n c' xs ∧ Own w.heap.size w' ao' c' ∧ Below w.heap.size w w' := by
  have hl := hr.len
  have HL := hid hl; clear hl
  go_enter Try.func41, Try.ntmps41
  go_wp2_with (at_builtin; refine Hid.out ?_)
  refine hid ?_
  refine wpList_app _ rfl _ _ 34 rfl w.heap.size 55 (.int .u32 0) 1 4 Try.underlying34 Try.infoU32 rfl (by decide) (.slice none 0 0) 0 [] rfl (World.ownsRow_nil _ _ _ _) ao n c (ints .u32 xs) rfl (by rw [ints_length, HL.out]; omega) hr.2.2.1 hr.le hr.cells (ints_one _ _) (by unfold maxLen; omega) (by omega) (Nat.le_refl _) fun v' w1 hown _ hb => ?_
  rw [Nat.zero_add, List.nil_append] at hown
  obtain ⟨ao', c', rfl, h1, h2⟩ := own_of_ownsRow (k := .u32) (B := B32) (by rw [HL.out]; exact hown) hr.lt
  rw [HL.out] at h1 ⊢
  go_wp2
  go_ret
  exact ⟨_, _, rfl, h1, h2, hb⟩

set_option maxHeartbeats 1000000 in
/-- Same: are two rows one? -/
theorem same_any (ao bo : Option Addr) (n c m d : Nat) (xs ys : List Nat) (w : World) (hn : n ≤ 1073741824) (hm : m ≤ 1073741824) (hr : Rw .u32 B32 w ao n c xs) (hs : Rw .u32 B32 w bo m d ys) :
    Calls Try.prog 87 #[.slice ao n c, .slice bo m d] w fun e w' => e = .returned (.bool (decide (xs = ys))) ∧ Below w.heap.size w w' := by
  have hl1 := hr.len
  have hl2 := hs.len
  have HL1 := hid hl1; have HL2 := hid hl2; clear hl1 hl2
  by_cases hne : n = m
  · subst hne
    go_enter Try.func87, Try.ntmps87
    go_wp2_with fail
    go_loopw [5] (fun s5 wr => ∃ k : Nat, k ≤ n ∧ s5 = .int .i64 k ∧ xs.take k = ys.take k ∧ Below w.heap.size w wr) (fun s5 _ => n - (intOf s5).toNat)
    case atStart => exact ⟨0, Nat.zero_le _, rfl, rfl, Below.refl _ _⟩
    case round =>
      obtain ⟨k, hk, rfl, ht, hb⟩ := hrel
      have HT := hid ht; clear ht
      by_cases hkn : k < n
      · obtain ⟨b1, off1, x, rfl, hx, hxB, hcx⟩ := (hr.ext hb).at hkn
        obtain ⟨b2, off2, y, rfl, hy, hyB, hcy⟩ := (hs.ext hb).at hkn
        have HX := hid hx; have HY := hid hy; clear hx hy hxB hyB
        by_cases hxy : x = y
        · subst hxy
          go_wp2
          go_quiet (fail)
          go_wp2
          go_roundw
          case rel =>
            refine ⟨k + 1, by omega, by go_num, ?_, ext_drewN hb _⟩
            obtain ⟨h1, e1⟩ := List.getElem?_eq_some_iff.1 HX.out
            obtain ⟨h2, e2⟩ := List.getElem?_eq_some_iff.1 HY.out
            rw [List.take_succ_eq_append_getElem h1, List.take_succ_eq_append_getElem h2, HT.out, e1, e2]
          case measure => simp [intOf]; omega
        · have e1 : ((x : Int) != (y : Int)) = true := by rw [bne_iff_ne]; omega
          have hdec : decide (xs = ys) = false := by
            rw [decide_eq_false_iff_not]
            intro he
            rw [he] at HX
            have := HX.out
            rw [HY.out] at this
            exact hxy (Option.some.inj this).symm
          have HD := hid hdec; clear hdec
          go_wp2
          go_quiet (fail)
          go_wp2
          go_ret
          exact ⟨by rw [HD.out]; rfl, ext_drewN hb _⟩
      · obtain rfl : k = n := by omega
        have hdec : decide (xs = ys) = true := by
          have h := HT.out
          rw [List.take_of_length_le (Nat.le_of_eq HL1.out), List.take_of_length_le (Nat.le_of_eq HL2.out)] at h
          simpa using h
        have HD := hid hdec; clear hdec
        go_wp2
        go_ret
        exact ⟨by rw [HD.out]; rfl, hb⟩
  · have hdec : decide (xs = ys) = false := by
      rw [decide_eq_false_iff_not]
      intro he
      exact hne (by rw [← HL1.out, ← HL2.out, he])
    have HD := hid hdec; clear hdec
    have e1 : ((n : Int) != (m : Int)) = true := by rw [bne_iff_ne]; omega
    go_enter Try.func87, Try.ntmps87
    go_wp2
    go_ret
    exact ⟨by rw [HD.out]; rfl, Below.refl _ _⟩

end Go.Proofs.Ytlkdlicbhhackaa

/-
  Within: any number as one from 0 to n - 1.
-/
set_option linter.unusedVariables false
set_option linter.unusedSimpArgs false
namespace Go.Proofs.Ytlkdlicbhhackaa
open Go.RowKit

/-- Within: any number as one from 0 to n - 1. -/
theorem within_any (v : Int) (n : Nat) (w : World) (hn : 1 ≤ n) (hn2 : n ≤ 1000000) (hv1 : -9223372036854775808 ≤ v) (hv2 : v ≤ 9223372036854775807) :
    Calls Try.prog 42 #[.int .i64 v, .int .i64 (n : Int)] w fun e w' => e = .returned (.int .i64 (v % (n : Int))) ∧ w = w' := by
  have hn0 : ((n : Int) == 0) = false := by rw [beq_eq_false_iff_ne]; omega
  obtain ⟨t, ht⟩ : ∃ t, t = v.tmod (n : Int) := ⟨_, rfl⟩
  have hte : v.tmod (n : Int) = t := ht.symm
  have hb1 : -(n : Int) < t ∧ t < n := by
    have h1 := Int.tmod_lt_of_pos v (show (0 : Int) < n by omega)
    have h2 := Int.lt_tmod_of_pos v (show (0 : Int) < n by omega)
    omega
  have hem : v % (n : Int) = if t < 0 then t + n else t := by
    have hv : v = t + n * (v.tdiv n) := by rw [ht]; exact (Int.tmod_add_mul_tdiv v n).symm
    rw [hv, Int.add_mul_emod_self_left]
    split
    · have h3 : t % (n : Int) = (t + n) % (n : Int) := by simp
      rw [h3, Int.emod_eq_of_lt (by omega) (by omega)]
    · rw [Int.emod_eq_of_lt (by omega) (by omega)]
  have HEM := hid hem; clear hem ht
  obtain ⟨hb1, hb2⟩ := hb1
  by_cases ht0 : t < 0
  · have hd : decide (t < 0) = true := by simpa using ht0
    by_cases hv0 : 0 ≤ v
    · exfalso
      have := Int.tmod_nonneg (n : Int) hv0
      omega
    · go_enter Try.func42, Try.ntmps42
      go_wp2
      go_ret
      exact ⟨ret_int (by rw [HEM.out, if_pos (by omega)]), rfl⟩
  · have hd : decide (t < 0) = false := by simpa using ht0
    by_cases hv0 : 0 ≤ v
    · have hvt : v % (n : Int) = t := by rw [← hte, Int.tmod_eq_emod_of_nonneg hv0]
      clear HEM
      go_enter Try.func42, Try.ntmps42
      go_wp2
      go_ret
      exact ⟨rfl, rfl⟩
    · go_enter Try.func42, Try.ntmps42
      go_wp2
      go_ret
      exact ⟨ret_int (by rw [HEM.out, if_neg (by omega)]), rfl⟩

end Go.Proofs.Ytlkdlicbhhackaa

/-
  PLAIN MATHEMATICS: one digit of a long division, as Knuth guesses it. No program.
-/
set_option linter.unusedVariables false
set_option linter.unusedSimpArgs false
namespace Go.Proofs.Ytlkdlicbhhackaa

section
variable {b M top next Vl head u2 Ul U V g r : Nat}

/-- The first guess is not too small. -/
theorem kn_init (hU : U = (head * b + u2) * M + Ul) (hUl : Ul < M) (hu2 : u2 < b) (hV : V = (top * b + next) * M + Vl) (hh : head = g * top + r) (hr : r < top) : U < (g + 1) * V := by
  have h1 : (head * b + u2 + 1) * M ≤ ((g + 1) * (top * b)) * M := by
    refine Nat.mul_le_mul_right _ ?_
    have h2 : (head + 1) * b ≤ ((g + 1) * top) * b := Nat.mul_le_mul_right _ (by rw [hh, Nat.add_mul]; omega)
    rw [Nat.add_mul] at h2
    rw [← Nat.mul_assoc]
    omega
  have h3 : (g + 1) * V = ((g + 1) * (top * b)) * M + (g + 1) * (next * M + Vl) := by rw [hV]; grind
  have h4 : (head * b + u2 + 1) * M = (head * b + u2) * M + M := by rw [Nat.add_mul, Nat.one_mul]
  omega

/-- Where the test says so the guess is too great. -/
theorem kn_dec (hU : U = (head * b + u2) * M + Ul) (hUl : Ul < M) (hV : V = (top * b + next) * M + Vl) (hh : head = g * top + r) (ht : r * b + u2 < g * next) : U < g * V := by
  have h1 : (head * b + u2 + 1) * M ≤ (g * (top * b) + g * next) * M := by
    refine Nat.mul_le_mul_right _ ?_
    have : head * b = g * (top * b) + r * b := by rw [hh]; grind
    omega
  have h3 : g * V = (g * (top * b) + g * next) * M + g * Vl := by rw [hV]; grind
  have h4 : (head * b + u2 + 1) * M = (head * b + u2) * M + M := by rw [Nat.add_mul, Nat.one_mul]
  omega

/-- Where the test says no the guess is one too great at most. -/
theorem kn_exit (hU : U = (head * b + u2) * M + Ul) (hV : V = (top * b + next) * M + Vl) (hVl : Vl < M) (hh : head = g * top + r) (ht : g * next ≤ r * b + u2) (hg : g < b) (htop : 0 < top) : g * V ≤ U + V := by
  have h1 : (g * (top * b) + g * next) * M ≤ (head * b + u2) * M := by
    refine Nat.mul_le_mul_right _ ?_
    have : head * b = g * (top * b) + r * b := by rw [hh]; grind
    omega
  have h3 : g * V = (g * (top * b) + g * next) * M + g * Vl := by rw [hV]; grind
  have h5 : g * Vl ≤ b * M := Nat.mul_le_mul (Nat.le_of_lt hg) (Nat.le_of_lt hVl)
  have h6 : b * M ≤ V := by
    rw [hV]
    have h7 : (1 * b) * M ≤ (top * b + next) * M := Nat.mul_le_mul_right _ (by have := Nat.mul_le_mul_right b (show 1 ≤ top from htop); omega)
    rw [Nat.one_mul] at h7
    omega
  omega
end

/-- The highest digit of what is divided is no greater than the divisor's. -/
theorem kn_top {b M u0 u1 u2 Ul U top next Vl V : Nat} (hU : U = ((u0 * b + u1) * b + u2) * M + Ul) (hV : V = (top * b + next) * M + Vl) (hVl : Vl < M) (hn : next < b) (h : U < b * V) : u0 ≤ top := by
  rcases Nat.lt_or_ge top u0 with h0 | h0
  · exfalso
    have h1 : ((top + 1) * b) * b * M ≤ (u0 * b) * b * M := Nat.mul_le_mul_right _ (Nat.mul_le_mul_right _ (Nat.mul_le_mul_right _ h0))
    have h2 : (u0 * b) * b * M ≤ U := by
      rw [hU]
      have : (u0 * b) * b * M ≤ ((u0 * b + u1) * b + u2) * M := Nat.mul_le_mul_right _ (by rw [Nat.add_mul (u0 * b)]; omega)
      omega
    have h3 : V + M ≤ ((top + 1) * b) * M + M := by
      have : (top * b + next + 1) * M ≤ ((top + 1) * b) * M := Nat.mul_le_mul_right _ (by rw [Nat.add_mul]; omega)
      rw [Nat.add_mul, Nat.one_mul] at this
      rw [hV]; omega
    have h3' : V ≤ ((top + 1) * b) * M := by omega
    have h4 := Nat.mul_le_mul_left b h3'
    have h5 : b * ((top + 1) * b * M) = ((top + 1) * b) * b * M := by grind
    omega
  · exact h0

/-- A quotient between a guess less one and the guess. -/
theorem div_is {U V q : Nat} (hV : 0 < V) (h1 : q * V ≤ U) (h2 : U < (q + 1) * V) : U / V = q := by
  have h3 : q ≤ U / V := (Nat.le_div_iff_mul_le hV).2 h1
  have h4 : U / V < q + 1 := (Nat.div_lt_iff_lt_mul hV).2 h2
  omega

/-- One digit of a row less a multiple. -/
theorem msub_step {B i x y g cy bw d c1 b1 : Nat} {W U Y : List Nat} (hi : i < W.length) (hv : valB B (W.take i) + g * valB B (Y.take i) = valB B (U.take i) + B ^ i * (cy + bw))
    (hU : U[i]? = some x) (hY : Y[i]? = some y) (hd : d + (g * y + cy) + bw = x + B * (b1 + c1)) :
    valB B ((W.set i d).take (i + 1)) + g * valB B (Y.take (i + 1)) = valB B (U.take (i + 1)) + B ^ (i + 1) * (c1 + b1) := by
  rw [valB_take_set B W i d hi, valB_take_some B hU, valB_take_some B hY, Nat.pow_succ, Nat.mul_assoc]
  have h1 : B ^ i * (d + (g * y + cy) + bw) = B ^ i * (x + B * (b1 + c1)) := by rw [hd]
  rw [Nat.mul_add, Nat.mul_add, Nat.mul_add, Nat.mul_add] at h1
  have h2 : g * (valB B (Y.take i) + B ^ i * y) = g * valB B (Y.take i) + B ^ i * (g * y) := by grind
  rw [h2, Nat.add_comm c1 b1]
  rw [Nat.mul_add] at hv
  omega

/-- The end of a digit whose guess is right. -/
theorem digit_end0 {B n u0 cy bw g t : Nat} {W Wc Y : List Nat} (hWl : W.length = n + 1) (hWc : Wc.length = n + 1) (hYl : Y.length = n) (hu : W[n]? = some u0)
    (hv : valB B (Wc.take n) + g * valB B (Y.take n) = valB B (W.take n) + B ^ n * (cy + bw)) (ht : t + cy + bw = u0) : valB B (Wc.set n t) + g * valB B Y = valB B W := by
  have h1 := valB_take_set B Wc n t (by omega)
  rw [valB_take_all B (by rw [List.length_set]; exact hWc)] at h1
  have h2 := valB_take_some B hu
  rw [valB_take_all B hWl] at h2
  rw [valB_take_all B hYl] at hv
  rw [h1, h2, ← ht, Nat.mul_add, Nat.mul_add]
  rw [Nat.mul_add] at hv
  omega

/-- .. whose guess is one too great: before what is added back. -/
theorem digit_end1 {B n u0 cy bw g t : Nat} {W Wc Y : List Nat} (hWl : W.length = n + 1) (hWc : Wc.length = n + 1) (hYl : Y.length = n) (hu : W[n]? = some u0)
    (hv : valB B (Wc.take n) + g * valB B (Y.take n) = valB B (W.take n) + B ^ n * (cy + bw)) (ht : t + cy + bw = u0 + B) : valB B (Wc.set n t) + g * valB B Y = valB B W + B ^ (n + 1) := by
  have h1 := valB_take_set B Wc n t (by omega)
  rw [valB_take_all B (by rw [List.length_set]; exact hWc)] at h1
  have h2 := valB_take_some B hu
  rw [valB_take_all B hWl] at h2
  rw [valB_take_all B hYl] at hv
  have h3 : B ^ n * (t + cy + bw) = B ^ n * (u0 + B) := by rw [ht]
  rw [h1, h2, Nat.pow_succ]
  rw [Nat.mul_add, Nat.mul_add, Nat.mul_add] at h3
  rw [Nat.mul_add] at hv
  omega

/-- .. behind it. -/
theorem digit_end2 {B n bk g t e x : Nat} {V : Nat} {Wd Wc Y : List Nat} (hWd : Wd.length = n + 1) (hWc : Wc.length = n + 1) (hYl : Y.length = n) (ht : Wc[n]? = some t)
    (hv : valB B (Wd.take n) + B ^ n * bk = valB B (Wc.take n) + valB B (Y.take n)) (hx : x + B * e = t + bk) (he : e ≤ 1)
    (hW : valB B Wc + g * valB B Y = V + B ^ (n + 1)) (hB : valB B (Wd.set n x) < B ^ (n + 1)) (hY : valB B Y < B ^ (n + 1)) (hg : g * valB B Y ≤ V + valB B Y) (hg2 : V < g * valB B Y) :
    valB B (Wd.set n x) + g * valB B Y = V + valB B Y := by
  have h1 := valB_take_set B Wd n x (by omega)
  rw [valB_take_all B (by rw [List.length_set]; exact hWd)] at h1
  have h2 := valB_take_some B ht
  rw [valB_take_all B hWc] at h2
  rw [valB_take_all B hYl] at hv
  have h3 : B ^ n * (x + B * e) = B ^ n * (t + bk) := by rw [hx]
  have hp : B ^ n * (B * e) = B ^ (n + 1) * e := by rw [Nat.pow_succ, Nat.mul_assoc]
  rw [Nat.mul_add, Nat.mul_add, hp] at h3
  have he2 : e = 0 ∨ e = 1 := by omega
  rcases he2 with rfl | rfl
  · rw [Nat.mul_zero] at h3; omega
  · rw [Nat.mul_one] at h3; omega

theorem mod_is {U V q r : Nat} (h : r + q * V = U) (hr : r < V) : U / V = q ∧ U % V = r := by
  have hV : 0 < V := by omega
  have h1 : U / V = q := div_is hV (by omega) (by rw [Nat.add_mul, Nat.one_mul]; omega)
  refine ⟨h1, ?_⟩
  have h2 := Nat.mod_add_div U V
  rw [h1, Nat.mul_comm V q] at h2
  omega

/-- One digit of what is added back. -/
theorem addb_step {B i x y bk d c1 : Nat} {W U Y : List Nat} (hi : i < W.length) (hv : valB B (W.take i) + B ^ i * bk = valB B (U.take i) + valB B (Y.take i))
    (hU : U[i]? = some x) (hY : Y[i]? = some y) (hd : d + B * c1 = x + y + bk) :
    valB B ((W.set i d).take (i + 1)) + B ^ (i + 1) * c1 = valB B (U.take (i + 1)) + valB B (Y.take (i + 1)) := by
  rw [valB_take_set B W i d hi, valB_take_some B hU, valB_take_some B hY, Nat.pow_succ, Nat.mul_assoc]
  have h1 : B ^ i * (d + B * c1) = B ^ i * (x + y + bk) := by rw [hd]
  rw [Nat.mul_add, Nat.mul_add, Nat.mul_add] at h1
  omega

/-- A row of k + 2 digits by its two highest ones. -/
theorem top_two {B k a c : Nat} {Y : List Nat} (hl : Y.length = k + 2) (ha : Y[k + 1]? = some a) (hc : Y[k]? = some c) : valB B Y = (a * B + c) * B ^ k + valB B (Y.take k) := by
  have h1 := valB_take_some B ha
  have h2 := valB_take_some B hc
  rw [valB_take_all B hl, h2, Nat.pow_succ] at h1
  rw [h1]; grind

/-- A row of k + 3 digits by its three highest ones. -/
theorem top_three {B k a c e : Nat} {U : List Nat} (hl : U.length = k + 3) (ha : U[k + 2]? = some a) (hc : U[k + 1]? = some c) (he : U[k]? = some e) :
    valB B U = ((a * B + c) * B + e) * B ^ k + valB B (U.take k) := by
  have h1 := valB_take_some B ha
  have h2 := valB_take_some B hc
  have h3 := valB_take_some B he
  rw [valB_take_all B hl, h2, h3, Nat.pow_succ, Nat.pow_succ] at h1
  rw [h1, Nat.pow_succ]; grind

theorem top_two' {B n a c : Nat} {Y : List Nat} (h2 : 2 ≤ n) (hl : Y.length = n) (ha : Y[n - 1]? = some a) (hc : Y[n - 2]? = some c) : valB B Y = (a * B + c) * B ^ (n - 2) + valB B (Y.take (n - 2)) := by
  obtain ⟨k, rfl⟩ : ∃ k, n = k + 2 := ⟨n - 2, by omega⟩
  exact top_two hl ha hc

theorem top_three' {B n a c e : Nat} {U : List Nat} (h2 : 2 ≤ n) (hl : U.length = n + 1) (ha : U[n]? = some a) (hc : U[n - 1]? = some c) (he : U[n - 2]? = some e) :
    valB B U = ((a * B + c) * B + e) * B ^ (n - 2) + valB B (U.take (n - 2)) := by
  obtain ⟨k, rfl⟩ : ∃ k, n = k + 2 := ⟨n - 2, by omega⟩
  exact top_three hl ha hc he

theorem take_lt {B k : Nat} {Y : List Nat} (hB : ∀ x ∈ Y, x < B) (hk : k ≤ Y.length) : valB B (Y.take k) < B ^ k := by
  have := valB_lt (B := B) (xs := Y.take k) (fun x h => hB x (List.mem_of_mem_take h))
  rwa [List.length_take, Nat.min_eq_left hk] at this

/-- One digit of a long division: what is divided is low enough; what lies above is nothing. -/
theorem div_pre {B n V i : Nat} {A W C : List Nat} (hB : 2 ≤ B) (hi : A.length = i) (hW : W.length = n + 1) (hlt : ∀ x ∈ W, x < B) (hV : V < B ^ n) (h : valB B ((A ++ (W ++ C)).drop (i + 1)) < V) :
    valB B W < B * V ∧ valB B C = 0 := by
  obtain ⟨x, W1, rfl⟩ : ∃ x W1, W = x :: W1 := by
    cases W with
    | nil => simp at hW
    | cons x W1 => exact ⟨x, W1, rfl⟩
  have e : (A ++ (x :: W1 ++ C)).drop (i + 1) = W1 ++ C := by
    subst hi
    rw [← List.drop_drop, List.drop_left]; rfl
  rw [e, valB_append] at h
  have hx : x < B := hlt x List.mem_cons_self
  have hl : W1.length = n := by simpa using hW
  rw [hl] at h
  have h0 : valB B C = 0 := by
    rcases Nat.eq_zero_or_pos (valB B C) with h1 | h1
    · exact h1
    · have := Nat.mul_le_mul_left (B ^ n) h1
      omega
  refine ⟨?_, h0⟩
  rw [h0, Nat.mul_zero, Nat.add_zero] at h
  rw [valB_cons]
  have := Nat.mul_le_mul_left B (show valB B W1 + 1 ≤ V from h)
  rw [Nat.mul_add, Nat.mul_one] at this
  omega

theorem div_step {B n V i q X : Nat} {A W W' C qs : List Nat} (hA : A.length = i) (hC : valB B C = 0) (hW : valB B W' + q * V = valB B W) (hi : i < qs.length)
    (hv : valB B (A ++ (W ++ C)) + B ^ (i + 1) * (valB B (qs.drop (i + 1)) * V) = X) (hW' : W'.length = n + 1) (hWl : W.length = n + 1) :
    valB B (A ++ (W' ++ C)) + B ^ i * (valB B ((qs.set i q).drop i) * V) = X ∧ valB B ((A ++ (W' ++ C)).drop i) = valB B W' := by
  constructor
  · rw [valB_drop_set B qs i q hi]
    rw [valB_append, valB_append, hC, Nat.mul_zero, Nat.add_zero, hA] at hv ⊢
    rw [← hv, ← hW, Nat.pow_succ]
    grind
  · subst hA
    rw [List.drop_left, valB_append, hC, Nat.mul_zero, Nat.add_zero]

theorem unscale {U V S q r : Nat} (hS : 0 < S) (h : r + q * (V * S) = U * S) (hr : r < V * S) : U / V = q ∧ U % V = r / S := by
  have h1 : q * (V * S) = (q * V) * S := by rw [Nat.mul_assoc]
  have hle : q * V ≤ U := by
    refine Nat.le_of_mul_le_mul_right (c := S) ?_ hS
    omega
  have hr2 : r = (U - q * V) * S := by rw [Nat.sub_mul]; omega
  have hrS : r / S = U - q * V := by rw [hr2, Nat.mul_div_cancel _ hS]
  have hlt : U - q * V < V := by
    rw [hr2] at hr
    exact Nat.lt_of_mul_lt_mul_right hr
  have := mod_is (U := U) (V := V) (q := q) (r := U - q * V) (by omega) hlt
  rw [hrS]
  exact this

/-- What the first divisor's digit says of the divisor moved up. -/
theorem scale_facts {B k v low S V : Nat} (hV : V = v * B ^ k + low) (hlow : low < B ^ k) (h1 : (v + 1) * S ≤ B) (h2 : B ≤ 2 * (v * S)) (hS : 0 < S) :
    V * S < B ^ (k + 1) ∧ B * B ^ k ≤ 2 * (V * S) ∧ B ^ k * S ≤ V * S := by
  have hv : 1 ≤ v := by
    rcases Nat.eq_zero_or_pos v with h0 | h0
    · exfalso
      subst h0
      have := Nat.mul_le_mul_left 1 hS
      omega
    · exact h0
  refine ⟨?_, ?_, ?_⟩
  · have h3 : V + 1 ≤ (v + 1) * B ^ k := by rw [Nat.add_mul]; omega
    have h4 : (V + 1) * S ≤ (v + 1) * B ^ k * S := Nat.mul_le_mul_right _ h3
    have h5 : (v + 1) * B ^ k * S = (v + 1) * S * B ^ k := by grind
    have h6 : (v + 1) * S * B ^ k ≤ B * B ^ k := Nat.mul_le_mul_right _ h1
    rw [Nat.pow_succ, Nat.mul_comm _ B]
    rw [Nat.add_mul] at h4
    omega
  · have h3 : B * B ^ k ≤ 2 * (v * S) * B ^ k := Nat.mul_le_mul_right _ h2
    have h4 : 2 * (v * S) * B ^ k = 2 * ((v * B ^ k) * S) := by grind
    have h5 : (v * B ^ k) * S ≤ V * S := Nat.mul_le_mul_right _ (by omega)
    omega
  · refine Nat.mul_le_mul_right _ ?_
    have := Nat.mul_le_mul_right (B ^ k) hv
    omega

/-- What is divided, moved up, is less than the divisor above the quotient's place. -/
theorem start_lt {B k j S U V T D X : Nat} (hU : U < B ^ (j + k)) (hX : X = T + B ^ j * D) (hXU : X = U * S) (hV : B ^ k * S ≤ V) (hB : 0 < B) (hS : 0 < S) : D < V := by
  have h1 : B ^ j * D < B ^ j * (B ^ k * S) := by
    have h2 : U * S < B ^ (j + k) * S := Nat.mul_lt_mul_of_pos_right hU hS
    rw [Nat.pow_add, Nat.mul_assoc] at h2
    omega
  have := Nat.lt_of_mul_lt_mul_left h1
  omega

theorem top_digit {B k y V : Nat} {Y : List Nat} (hB : ∀ x ∈ Y, x < B) (hl : Y.length = k + 1) (hy : Y[k]? = some y) (hV : valB B Y = V) (h : B * B ^ k ≤ 2 * V) : B ≤ 2 * y + 1 := by
  have h1 := valB_take_some B hy
  rw [valB_take_all B hl, hV] at h1
  have h2 := take_lt hB (k := k) (by omega)
  have h3 : B * B ^ k < (2 * y + 2) * B ^ k := by
    rw [Nat.mul_comm] at h1
    rw [Nat.add_mul, Nat.mul_assoc]
    have := Nat.mul_comm (B ^ k) y
    omega
  have := Nat.lt_of_mul_lt_mul_right h3
  omega

end Go.Proofs.Ytlkdlicbhhackaa

/-
  WALKS: limb.digit: one digit of a quotient; what is left stands in the row.
-/
set_option linter.unusedVariables false
set_option linter.unusedSimpArgs false
namespace Go.Proofs.Ytlkdlicbhhackaa
open Go.RowKit

/-- A WINDOW in a block of the call's own: the limbs W behind A, ahead of C. -/
def Win (w : World) (G : Nat) (A W C : List Nat) (off : Nat) : Prop := Blk w G 55 (ints .u32 (A ++ (W ++ C))) ∧ A.length = off

section
variable {w w' : World} {G off : Nat} {A W C : List Nat}
theorem Win.lt (h : Win w G A W C off) : G < w.heap.size := h.1.lt
theorem Win.cell (h : Win w G A W C off) {i x : Nat} (hi : W[i]? = some x) : w.cell? ⟨G, off + i, none⟩ = some (.int .u32 (x : Int)) := by
  obtain ⟨hb, hl⟩ := h
  obtain ⟨hlt, hx⟩ := List.getElem?_eq_some_iff.1 hi
  have hlen : off + i < (ints .u32 (A ++ (W ++ C))).length := by rw [ints_length]; simp; omega
  rw [hb.cell _ hlen, ints_get]
  congr 3
  rw [List.getElem_append_right (by omega), List.getElem_append_left (by omega)]
  simp only [← hl, Nat.add_sub_cancel_left]; exact hx
theorem Win.free (h : Win w G A W C off) (j : Nat) : w.frozen? ⟨G, j, none⟩ = false := h.1.free j
theorem Win.set (h : Win w G A W C off) {i : Nat} (hi : i < W.length) (d : Nat) : Win (w.setCell ⟨G, off + i, none⟩ (.int .u32 (d : Int))) G A (W.set i d) C off := by
  obtain ⟨hb, hl⟩ := h
  refine ⟨?_, hl⟩
  have := hb.set (off + i) (.int .u32 (d : Int))
  rw [ints_set, List.set_append_right (off + i) d (by omega), List.set_append_left (off + i - A.length) d (by omega), show off + i - A.length = i by omega] at this
  exact this
theorem Win.drewN (h : Win w G A W C off) (n : Nat) : Win (w.drewN n) G A W C off := h
end

/-- Nothing has turned but the block G. -/
def OnlyB (G : Nat) (w w' : World) : Prop := w'.os = w.os ∧ w'.tape = w.tape ∧ w'.output = w.output ∧ w'.heap.size = w.heap.size ∧ ∀ k, k ≠ G → w'.heap[k]? = w.heap[k]?

theorem OnlyB.refl (G : Nat) (w : World) : OnlyB G w w := ⟨rfl, rfl, rfl, rfl, fun _ _ => rfl⟩
theorem OnlyB.drewN {G : Nat} {w w' : World} (h : OnlyB G w w') (n : Nat) : OnlyB G w (w'.drewN n) := h
theorem OnlyB.setCell {G : Nat} {w w' : World} (h : OnlyB G w w') (i : Nat) (v : Value) : OnlyB G w (w'.setCell ⟨G, i, none⟩ v) :=
  ⟨h.1, h.2.1, h.2.2.1, by rw [World.size_setCell]; exact h.2.2.2.1, fun k hk => by rw [heap_setCell_other _ _ k _ hk]; exact h.2.2.2.2 k hk⟩
theorem OnlyB.below {G B : Nat} {w w' : World} (h : OnlyB G w w') (hB : B ≤ G) : Below B w w' := ⟨h.1, h.2.1, h.2.2.1, by rw [h.2.2.2.1]; exact Nat.le_refl _, fun k hk => h.2.2.2.2 k (by omega)⟩

set_option maxRecDepth 100000 in
set_option maxHeartbeats 2000000 in
theorem digit_any (G off n c b2 off2 d : Nat) (A W C Y : List Nat) (w : World) (hn : n ≤ 1073741824) (hn2 : 2 ≤ n) (hwin : Win w G A W C off) (hWl : W.length = n + 1) (hWB : ∀ x ∈ W, x < B32) (hc : n + 1 ≤ c)
    (hy : Rw .u32 B32 w (some ⟨b2, off2, none⟩) n d Y) (hne : b2 ≠ G) (top : Nat) (htop : Y[n - 1]? = some top) (htopB : 2147483648 ≤ top) (hlt : val W < B32 * val Y) :
    Calls Try.prog 100 #[.slice (some ⟨G, off, none⟩) (n + 1) c, .slice (some ⟨b2, off2, none⟩) n d] w fun e w' => ∃ W', e = .returned (.int .u32 ((val W / val Y : Nat) : Int)) ∧ Win w' G A W' C off ∧ W'.length = n + 1 ∧
      (∀ x ∈ W', x < B32) ∧ val W' = val W % val Y ∧ OnlyB G w w' := by
  obtain ⟨next, hnext, hnextB, hcn⟩ := hy.cell (show n - 2 < n by omega)
  obtain ⟨top', htop', htopB', hct⟩ := hy.cell (show n - 1 < n by omega)
  rw [htop] at htop'
  obtain rfl := Option.some.inj htop'
  obtain ⟨u0, hu0⟩ : ∃ u, W[n]? = some u := ⟨_, List.getElem?_eq_getElem (by omega)⟩
  obtain ⟨u1, hu1⟩ : ∃ u, W[n - 1]? = some u := ⟨_, List.getElem?_eq_getElem (by omega)⟩
  obtain ⟨u2, hu2⟩ : ∃ u, W[n - 2]? = some u := ⟨_, List.getElem?_eq_getElem (by omega)⟩
  have hu0B : u0 < 4294967296 := hWB _ (List.mem_of_getElem? hu0)
  have hu1B : u1 < 4294967296 := hWB _ (List.mem_of_getElem? hu1)
  have hu2B : u2 < 4294967296 := hWB _ (List.mem_of_getElem? hu2)
  have hc0 := hwin.cell hu0
  have hc1 := hwin.cell hu1
  have hc2 := hwin.cell hu2
  have hnB : next < 4294967296 := hnextB
  have htB : top < 4294967296 := htopB'
  obtain ⟨head, hhead⟩ : ∃ head : Nat, head = u0 * 4294967296 + u1 := ⟨_, rfl⟩
  have hor := or_join u0 u1 hu0B hu1B
  rw [← hhead] at hor
  obtain ⟨g0, hg0⟩ : ∃ g : Nat, g = head / top := ⟨_, rfl⟩
  obtain ⟨r0, hr0⟩ : ∃ g : Nat, g = head % top := ⟨_, rfl⟩
  have hg0' : (head : Int) / (top : Int) = (g0 : Int) := by rw [hg0]; rfl
  have hr0' : (head : Int) % (top : Int) = (r0 : Int) := by rw [hr0]; rfl
  have htne : ((top : Int) == 0) = false := by rw [beq_eq_false_iff_ne]; omega
  have htpos : (1 : Int) ≤ top := by omega
  have hg0B : g0 ≤ 8589934592 := by
    rw [hg0]
    have h1 : head / top < 8589934593 := by
      rw [Nat.div_lt_iff_lt_mul (by omega)]
      have := Nat.mul_le_mul_left 8589934593 htopB
      omega
    omega
  have HG0 := hid hg0; have HR0 := hid hr0; have HH := hid hhead; have HT := hid htop; have HU0 := hid hu0; have HU1 := hid hu1; have HU2 := hid hu2; have HN := hid hnext; have HWL := hid hWl; have HLT := hid hlt
  clear hg0 hr0 hhead htop hu0 hu1 hu2 hnext hWl hlt hnextB htopB'
  go_enter Try.func100, Try.ntmps100
  go_wp2
  go_quiet (fail)
  go_wp2
  go_quiet (fail)
  go_upto_block 0 with (fail)
  rw [hr0']
  clear hr0' hg0' hor
  go_cut [9] (fun s9 wx => ∃ g : Nat, s9 = .int .u64 g ∧ g < 4294967296 ∧ val W < (g + 1) * val Y ∧ g * val Y ≤ val W + val Y ∧ Win wx G A W C off ∧ OnlyB G w wx)
  case first =>
    have h2 := HH.out
    have hUW := top_three' hn2 HWL.out HU0.out HU1.out HU2.out (B := B32)
    have hVY := top_two' hn2 hy.len HT.out HN.out (B := B32)
    have hUl := take_lt hWB (k := n - 2) (by rw [HWL.out]; omega)
    have hVl := take_lt hy.lt (k := n - 2) (by rw [hy.len]; omega)
    have hu0t : u0 ≤ top := kn_top hUW hVY hVl hnB HLT.out
    rw [show u0 * B32 + u1 = head from h2.symm] at hUW
    have hhd : head = g0 * top + r0 := by rw [HG0.out, HR0.out, Nat.mul_comm]; exact (Nat.div_add_mod head top).symm
    have hin : val W < (g0 + 1) * val Y := kn_init hUW hUl hu2B hVY hhd (by rw [HR0.out]; exact Nat.mod_lt _ (by omega))
    have hr0t : r0 < 4294967296 := by rw [HR0.out]; have := Nat.mod_lt head (show 0 < top by omega); omega
    have HUW := hid hUW; have HVY := hid hVY; have HUL := hid hUl; have HVL := hid hVl; have HIN := hid hin; have HHD := hid hhd
    clear h2 hUW hVY hUl hVl hin hhd
    go_wp2_with fail
    go_loop [9, 10] (fun s9 s10 => ∃ g r : Nat, s9 = .int .u64 g ∧ s10 = .int .u64 r ∧ g ≤ 8589934592 ∧ head = g * top + r ∧ r < 4294967296 ∧ val W < (g + 1) * val Y) (fun s9 _ => (intOf s9).toNat)
    case atStart => exact ⟨g0, r0, rfl, rfl, hg0B, HHD.out, hr0t, HIN.out⟩
    case round =>
      obtain ⟨g, r, rfl, rfl, hgU, hgr, hrB, hUg⟩ := hrel
      have HGR := hid hgr; have HUG := hid hUg; clear hgr hUg
      obtain ⟨s2, hs2⟩ : ∃ s2 : Nat, s2 = r * 4294967296 + u2 := ⟨_, rfl⟩
      have hor2 := or_join r u2 hrB hu2B
      rw [← hs2] at hor2
      have HS2 := hid hs2; clear hs2
      by_cases hgB : 4294967296 ≤ g
      · have hg1 : 1 ≤ g := by omega
        have hdg : decide ((4294967296 : Int) ≤ (g : Int)) = true := by rw [decide_eq_true_eq]; omega
        have hUg' : val W < g * val Y := Nat.lt_of_lt_of_le HLT.out (Nat.mul_le_mul_right _ hgB)
        have HUG' := hid hUg'; clear hUg'
        have hgr' : head = (g - 1) * top + (r + top) := by
          have := HGR.out
          have h3 := Nat.mul_le_mul_right top hg1
          rw [Nat.sub_mul, Nat.one_mul]; omega
        have HGR' := hid hgr'; clear hgr'
        have hgc : ((g : Int) - 1) = ((g - 1 : Nat) : Int) := by omega
        have HGC := hid hgc; clear hgc
        by_cases hbr : 4294967296 ≤ r + top
        · have hdb : decide ((4294967296 : Int) ≤ (r : Int) + (top : Int)) = true := by rw [decide_eq_true_eq]; omega
          have hgsB : g - 1 < 4294967296 := by
            have h3 : (g - 1) * top < 4294967296 * top := by
              have := HGR'.out
              have h5 := HH.out
              have h6 := Nat.mul_le_mul_right 4294967296 hu0t
              rw [Nat.mul_comm 4294967296 top]
              omega
            exact Nat.lt_of_mul_lt_mul_right h3
          have hex : (g - 1) * val Y ≤ val W + val Y := by
            refine kn_exit HUW.out HVY.out HVL.out HGR'.out ?_ hgsB (by omega)
            have h3 : (g - 1) * next ≤ 4294967296 * 4294967296 := Nat.mul_le_mul (Nat.le_of_lt hgsB) (Nat.le_of_lt hnB)
            have h4 : 4294967296 * 4294967296 ≤ (r + top) * 4294967296 := Nat.mul_le_mul_right _ hbr
            show (g - 1) * next ≤ (r + top) * 4294967296 + u2
            omega
          have HEX := hid hex; clear hex
          go_wp2_with fail
          go_meet
          exact ⟨g - 1, by rw [HGC.out], hgsB, by rw [Nat.sub_add_cancel hg1]; exact HUG'.out, HEX.out, hwin, OnlyB.refl _ _⟩
        · have hdb : decide ((4294967296 : Int) ≤ (r : Int) + (top : Int)) = false := by rw [decide_eq_false_iff_not]; omega
          go_wp2_with fail
          go_round
          case rel => exact ⟨g - 1, r + top, by rw [HGC.out], by go_num, by omega, HGR'.out, by omega, by rw [Nat.sub_add_cancel hg1]; exact HUG'.out⟩
          case measure => simp [intOf]; omega
      · have hgB' : g < 4294967296 := by omega
        have hdg : decide ((4294967296 : Int) ≤ (g : Int)) = false := by rw [decide_eq_false_iff_not]; omega
        obtain ⟨hm1, hm2⟩ := mul_boundZ g next hgB' hnB
        by_cases ht : s2 < g * next
        · have hdt : decide ((s2 : Int) < (g : Int) * (next : Int)) = true := by rw [decide_eq_true_eq, ← Int.natCast_mul]; omega
          have hg1 : 1 ≤ g := by
            rcases Nat.eq_zero_or_pos g with h0 | h0
            · subst h0; omega
            · exact h0
          have hUg' : val W < g * val Y := kn_dec HUW.out HUL.out HVY.out HGR.out (by rw [← HS2.out]; exact ht)
          have HUG' := hid hUg'; clear hUg'
          have hgr' : head = (g - 1) * top + (r + top) := by
            have := HGR.out
            have h3 := Nat.mul_le_mul_right top hg1
            rw [Nat.sub_mul, Nat.one_mul]; omega
          have HGR' := hid hgr'; clear hgr'
          have hgc : ((g : Int) - 1) = ((g - 1 : Nat) : Int) := by omega
          have HGC := hid hgc; clear hgc
          by_cases hbr : 4294967296 ≤ r + top
          · have hdb : decide ((4294967296 : Int) ≤ (r : Int) + (top : Int)) = true := by rw [decide_eq_true_eq]; omega
            have hgsB : g - 1 < 4294967296 := by
              have h3 : (g - 1) * top < 4294967296 * top := by
                have := HGR'.out
                have h5 := HH.out
                have h6 := Nat.mul_le_mul_right 4294967296 hu0t
                rw [Nat.mul_comm 4294967296 top]
                omega
              exact Nat.lt_of_mul_lt_mul_right h3
            have hex : (g - 1) * val Y ≤ val W + val Y := by
              refine kn_exit HUW.out HVY.out HVL.out HGR'.out ?_ hgsB (by omega)
              have h3 : (g - 1) * next ≤ 4294967296 * 4294967296 := Nat.mul_le_mul (Nat.le_of_lt hgsB) (Nat.le_of_lt hnB)
              have h4 : 4294967296 * 4294967296 ≤ (r + top) * 4294967296 := Nat.mul_le_mul_right _ hbr
              show (g - 1) * next ≤ (r + top) * 4294967296 + u2
              omega
            have HEX := hid hex; clear hex
            go_wp2_with fail
            go_meet
            exact ⟨g - 1, by rw [HGC.out], hgsB, by rw [Nat.sub_add_cancel hg1]; exact HUG'.out, HEX.out, hwin, OnlyB.refl _ _⟩
          · have hdb : decide ((4294967296 : Int) ≤ (r : Int) + (top : Int)) = false := by rw [decide_eq_false_iff_not]; omega
            go_wp2_with fail
            go_round
            case rel => exact ⟨g - 1, r + top, by rw [HGC.out], by go_num, by omega, HGR'.out, by omega, by rw [Nat.sub_add_cancel hg1]; exact HUG'.out⟩
            case measure => simp [intOf]; omega
        · have hdt : decide ((s2 : Int) < (g : Int) * (next : Int)) = false := by rw [decide_eq_false_iff_not, ← Int.natCast_mul]; omega
          have hex : g * val Y ≤ val W + val Y := kn_exit HUW.out HVY.out HVL.out HGR.out (by rw [← HS2.out]; omega) hgB' (by omega)
          have HEX := hid hex; clear hex
          go_wp2_with fail
          go_meet
          exact ⟨g, rfl, hgB', HUG.out, HEX.out, hwin, OnlyB.refl _ _⟩
  case rest =>
    obtain ⟨g, rfl, hgB, hUg, hex, hwin1, honly⟩ := hcut
    have HUG := hid hUg; have HEX := hid hex
    have hyc : Rw .u32 B32 wc (some ⟨b2, off2, none⟩) n d Y := hy.same (honly.2.2.2.2 b2 hne)
    clear hUg hex hc0 hc1 hc2 hcn hct hwin hy htne htpos hg0B htopB htB hnB hu1B hu2B HG0 HR0 HH HT HU1 HU2 HN HLT
    clear htop'
    go_wp2_with fail
    go_loopw [11, 12, 81] (fun s11 s12 s81 wr => ∃ (i cy bw : Nat) (Wc : List Nat), i ≤ n ∧ s81 = .int .i64 i ∧ s11 = .int .u64 cy ∧ s12 = .int .u64 bw ∧ cy < 4294967296 ∧ bw ≤ 1 ∧ Wc.length = n + 1 ∧ (∀ x ∈ Wc, x < B32) ∧ Win wr G A Wc C off ∧ OnlyB G w wr ∧
        (∀ j, i ≤ j → Wc[j]? = W[j]?) ∧ valB B32 (Wc.take i) + g * valB B32 (Y.take i) = valB B32 (W.take i) + B32 ^ i * (cy + bw)) (fun _ _ s81 _ => n - (intOf s81).toNat)
    case atStart => exact ⟨0, 0, 0, W, Nat.zero_le _, rfl, rfl, rfl, by omega, by omega, HWL.out, hWB, hwin1, honly, fun _ _ => rfl, by simp [valB]⟩
    case round =>
      obtain ⟨i, cy, bw, Wc, hi, rfl, rfl, rfl, hcy, hbw, hWcl, hWcB, hwr, hor, hrest, hv⟩ := hrel
      have HV := hid hv; have HWC := hid hWcl; have HRE := hid hrest; clear hv hWcl hrest
      have hyr : Rw .u32 B32 wr (some ⟨b2, off2, none⟩) n d Y := hyc.same (by rw [hor.2.2.2.2 b2 hne, honly.2.2.2.2 b2 hne])
      have hb0 := hwr.lt
      by_cases hin : i < n
      · obtain ⟨y, hy, hyB, hcy2⟩ := hyr.cell hin
        have hy' : y < 4294967296 := hyB
        obtain ⟨x, hx⟩ : ∃ x, Wc[i]? = some x := ⟨_, List.getElem?_eq_getElem (by rw [HWC.out]; omega)⟩
        have hx' : x < 4294967296 := hWcB _ (List.mem_of_getElem? hx)
        have hcx := hwr.cell hx
        have hfree := hwr.free (off + i)
        have HX := hid hx; have HY := hid hy; clear hx hy hyB
        obtain ⟨hm1, hm2⟩ := mul_boundZ g y hgB hy'
        have hmb := mul_bound g y 0 cy hgB hy' (by omega) hcy
        have hpc : (g : Int) * (y : Int) + (cy : Int) = ((g * y + cy : Nat) : Int) := by simp
        obtain ⟨lo, hlo⟩ : ∃ lo : Nat, lo = (g * y + cy) % 4294967296 := ⟨_, rfl⟩
        obtain ⟨hi1, hhi⟩ : ∃ hi1 : Nat, hi1 = (g * y + cy) / 4294967296 := ⟨_, rfl⟩
        have elo : ((g : Int) * (y : Int) + (cy : Int)) % 4294967296 = (lo : Int) := by rw [hpc, hlo]; rfl
        have ehi : ((g : Int) * (y : Int) + (cy : Int)) / 4294967296 = (hi1 : Int) := by rw [hpc, hhi]; rfl
        have hloB : lo < 4294967296 := by omega
        have hhiB : hi1 < 4294967296 := by omega
        have hsum : lo + 4294967296 * hi1 = g * y + cy := by omega
        obtain ⟨d1, b1, hd1, hb1, e1, e2, e3⟩ := sub_wrap2 x lo bw hx' hloB hbw
        have HSUM := hid hsum; have E1 := hid e1; have E2 := hid e2; have E3 := hid e3; have HMB := hid hmb
        clear hsum e1 e2 e3 hpc hlo hhi hmb
        go_wp2
        rw [E1.out, E2.out]
        go_roundw
        case rel =>
          refine ⟨i + 1, hi1, b1, Wc.set i d1, by omega, by go_num, by first | rfl | rw [ehi], rfl, hhiB, hb1, by rw [List.length_set]; exact HWC.out, mem_set_lt hWcB hd1 i, hwr.set (by rw [HWC.out]; omega) d1, hor.setCell _ _, ?_, ?_⟩
          · intro j hj
            rw [List.getElem?_set_ne (by omega)]
            exact HRE.out j (by omega)
          · refine msub_step (by rw [HWC.out]; omega) HV.out (by rw [← HRE.out i (Nat.le_refl _)]; exact HX.out) HY.out ?_
            have h1 := HSUM.out
            have h2 := E3.out
            unfold B32 at h2 ⊢
            omega
        case measure => simp [intOf]; omega
      · obtain rfl : i = n := by omega
        have hcx := hwr.cell (show Wc[i]? = some u0 by rw [HRE.out i (Nat.le_refl _)]; exact HU0.out)
        have hfree := hwr.free (off + i)
        have hW2 := HWC.out
        by_cases hno : cy + bw ≤ u0
        · have et := top_wrap_no u0 cy bw hu0B hno
          obtain ⟨t, htt⟩ : ∃ t, t = u0 - cy - bw := ⟨_, rfl⟩
          rw [← htt] at et
          have htB : t < 4294967296 := by omega
          have hts : t + cy + bw = u0 := by omega
          have HTS := hid hts; clear htt hts hno hW2
          have ed : (t : Int) / 9223372036854775808 = 0 := by omega
          go_wp2
          go_ret
          have hend := digit_end0 (t := t) HWL.out HWC.out hyc.len HU0.out HV.out HTS.out
          have hle : g * val Y ≤ val W := by unfold val; omega
          have hmod := mod_is (U := val W) (V := val Y) (q := g) (r := val (Wc.set i t)) (by unfold val; omega) (by
            have h1 := HUG.out
            rw [Nat.add_mul, Nat.one_mul] at h1
            unfold val at *; omega)
          exact ⟨Wc.set i t, by rw [hmod.1]; rfl, hwr.set (by rw [HWC.out]; omega) t, by rw [List.length_set]; exact HWC.out, mem_set_lt hWcB htB _, hmod.2.symm, hor.setCell _ _⟩
        · obtain ⟨t, tl, et, ed, etl, htlB, hts⟩ := top_wrap_yes u0 cy bw hu0B hcy hbw (by omega)
          have HTS := hid hts; clear hts hno hW2
          have hwin3 : Win (wr.setCell ⟨G, off + i, none⟩ (.int .u32 (tl : Int))) G A (Wc.set i tl) C off := hwr.set (by rw [HWC.out]; omega) tl
          have hor3 : OnlyB G w (wr.setCell ⟨G, off + i, none⟩ (.int .u32 (tl : Int))) := hor.setCell _ _
          have hend := digit_end1 (t := tl) HWL.out HWC.out hyc.len HU0.out HV.out HTS.out
          have hWB3 : ∀ x ∈ Wc.set i tl, x < B32 := mem_set_lt hWcB htlB _
          have hl3 : (Wc.set i tl).length = i + 1 := by rw [List.length_set]; exact HWC.out
          have hti : (Wc.set i tl)[i]? = some tl := by rw [List.getElem?_set_self (by rw [HWC.out]; omega)]
          have hg0 : val W < g * val Y := by
            have h1 := valB_lt hWB3
            rw [hl3] at h1
            unfold val; omega
          have HE := hid hend; have HL3 := hid hl3; have HTI := hid hti; have HG0 := hid hg0
          clear hend hl3 hti hg0
          have hgpos : 1 ≤ g := by
            rcases Nat.eq_zero_or_pos g with h0 | h0
            · have := HG0.out; rw [h0, Nat.zero_mul] at this; omega
            · exact h0
          go_wp2_with fail
          generalize hgen : Wc.set i tl = W3 at *
          clear hgen
          generalize hgenw : wr.setCell ⟨G, off + i, none⟩ (.int .u32 (tl : Int)) = wx at *
          clear hgenw
          go_loopw [18, 134] (fun s18 s134 wr => ∃ (k bk : Nat) (Wd : List Nat), k ≤ i ∧ s134 = .int .i64 k ∧ s18 = .int .u64 bk ∧ bk ≤ 1 ∧ Wd.length = i + 1 ∧ (∀ x ∈ Wd, x < B32) ∧ Win wr G A Wd C off ∧ OnlyB G w wr ∧
              (∀ j, k ≤ j → Wd[j]? = W3[j]?) ∧ valB B32 (Wd.take k) + B32 ^ k * bk = valB B32 (W3.take k) + valB B32 (Y.take k)) (fun _ s134 _ => i - (intOf s134).toNat)
          case atStart => exact ⟨0, 0, W3, Nat.zero_le _, rfl, rfl, by omega, HL3.out, hWB3, hwin3, hor3, fun _ _ => rfl, by simp [valB]⟩
          case round =>
            obtain ⟨k, bk, Wd, hk, rfl, rfl, hbk, hWdl, hWdB, hwd, hod, hrest, hv⟩ := hrel
            have HV4 := hid hv; have HWD := hid hWdl; have HRE4 := hid hrest; clear hv hWdl hrest
            have hyr4 : Rw .u32 B32 wr (some ⟨b2, off2, none⟩) i d Y := hyc.same (by rw [hod.2.2.2.2 b2 hne, honly.2.2.2.2 b2 hne])
            have hb4 := hwd.lt
            by_cases hki : k < i
            · obtain ⟨y, hy, hyB, hcy2⟩ := hyr4.cell hki
              have hy' : y < 4294967296 := hyB
              obtain ⟨x, hx⟩ : ∃ x, Wd[k]? = some x := ⟨_, List.getElem?_eq_getElem (by rw [HWD.out]; omega)⟩
              have hx' : x < 4294967296 := hWdB _ (List.mem_of_getElem? hx)
              have hcx4 := hwd.cell hx
              have hfree4 := hwd.free (off + k)
              have HX := hid hx; have HY := hid hy; clear hx hy hyB
              go_wp2
              go_roundw
              case rel =>
                refine ⟨k + 1, (x + y + bk) / 4294967296, Wd.set k ((x + y + bk) % 4294967296), by omega, by go_num, by go_num, by omega, by rw [List.length_set]; exact HWD.out, mem_set_lt hWdB (Nat.mod_lt _ (by decide)) k, ?_, hod.setCell _ _, ?_, ?_⟩
                · have e : ((x : Int) + y + bk) % 4294967296 = (((x + y + bk) % 4294967296 : Nat) : Int) := by omega
                  rw [e]; exact hwd.set (by rw [HWD.out]; omega) _
                · intro j hj
                  rw [List.getElem?_set_ne (by omega)]
                  exact HRE4.out j (by omega)
                · exact addb_step (by rw [HWD.out]; omega) HV4.out (by rw [← HRE4.out k (Nat.le_refl _)]; exact HX.out) HY.out (Nat.mod_add_div _ _)
              case measure => simp [intOf]; omega
            · obtain rfl : k = i := by omega
              have hcx4 := hwd.cell (show Wd[k]? = some tl by rw [HRE4.out k (Nat.le_refl _)]; exact HTI.out)
              have hfree4 := hwd.free (off + k)
              go_wp2
              go_ret
              have e : ((tl : Int) + bk) % 4294967296 = (((tl + bk) % 4294967296 : Nat) : Int) := by omega
              have hB5 : ∀ x ∈ Wd.set k ((tl + bk) % 4294967296), x < B32 := mem_set_lt hWdB (Nat.mod_lt _ (by decide)) k
              have hl5 : (Wd.set k ((tl + bk) % 4294967296)).length = k + 1 := by rw [List.length_set]; exact HWD.out
              have h5 := valB_lt hB5
              rw [hl5] at h5
              have hYlt : valB B32 Y < B32 ^ (k + 1) := by
                have h1 := valB_lt hyc.lt
                rw [hyc.len] at h1
                exact Nat.lt_of_lt_of_le h1 (Nat.pow_le_pow_right (by decide) (by omega))
              have hend := digit_end2 (V := valB B32 W) (g := g) (x := (tl + bk) % 4294967296) (e := (tl + bk) / 4294967296) HWD.out HL3.out hyc.len HTI.out HV4.out (Nat.mod_add_div _ _) (by omega) HE.out h5 hYlt HEX.out HG0.out
              have hmod := mod_is (U := val W) (V := val Y) (q := g - 1) (r := val (Wd.set k ((tl + bk) % 4294967296))) (by
                have h6 := Nat.mul_le_mul_right (valB B32 Y) hgpos
                rw [Nat.sub_mul, Nat.one_mul]
                unfold val; omega) (by
                have h6 := HG0.out
                unfold val at *; omega)
              refine ⟨Wd.set k ((tl + bk) % 4294967296), ret_int (by rw [hmod.1]; omega), ?_, hl5, hB5, hmod.2.symm, hod.setCell _ _⟩
              rw [e]; exact hwd.set (by rw [HWD.out]; omega) _

end Go.Proofs.Ytlkdlicbhhackaa

