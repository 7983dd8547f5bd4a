/-
  WALKS: the document's answers over digits of four decimals: cut, mulAdd, FromN. What they return, as numbers; nothing that was there turns.
-/
import Derived.Test.YtkcagkcphobmfaaRows
import Derived.Test.YtkcagkcphobmfaaMem
import Derived.BigQuiet
import Derived.Deep.QuietTactic
import Derived.Deep.DeepCutAuto
set_option linter.unusedVariables false
set_option linter.unusedSimpArgs false
namespace Go.Proofs.Ytkcagkcphobmfaa
open Go.RowKit

theorem Try.infoInt : (Try.prog.info? 3).map (fun i => (i.zero, i.size, i.bytes)) = some (some (.int .i64 0), 1, 8) := by kernel_rfl
theorem Try.sizeInt : (Try.prog.info? 3).map (·.size) = some 1 := by kernel_rfl

set_option maxHeartbeats 400000 in
theorem rcut_walk (ao : Option Addr) (n c : Nat) (xs : List Nat) (w : World) (hm : n ≤ 9223372036854775807) (hr : Rw .i64 B4 w ao n c xs) :
    Calls Try.prog 81 #[.slice ao n c] w fun e w' => e = .returned (.slice ao (cutN xs n) c) ∧ w' = w := by
  have hlc := hr.le
  go_enter Try.func81, Try.ntmps81
  go_wp2
  go_loop [3] (fun n' => ∃ k : Nat, k ≤ n ∧ n' = .int .i64 k ∧ cutN xs k = cutN xs n) (fun n' => (intOf n').toNat)
  case atStart => exact ⟨n, Nat.le_refl _, rfl, rfl⟩
  case round =>
    obtain ⟨k, hk, rfl, hcut⟩ := hrel
    have Hcut := hid hcut; clear hcut
    by_cases h0 : k = 0
    · subst h0
      go_wp2
      go_ret
      exact ⟨by rw [← Hcut]; rfl, rfl⟩
    · obtain ⟨j, rfl⟩ : ∃ j, k = j + 1 := ⟨k - 1, by omega⟩
      obtain ⟨b, off, x, rfl, hx, hxB, hcj⟩ := hr.at (show j < n by omega)
      have Hx := hid hx; clear hx hr
      by_cases hz : x = 0
      · subst hz
        go_wp2
        go_round
        case rel => exact ⟨j, by omega, rfl, by rw [← Hcut]; simp [cutN, Hx.out]⟩
        case measure => simp [intOf]
      · have hz' : ((x : Int) == 0) = false := by simpa using hz
        go_wp2
        go_ret
        exact ⟨by rw [← Hcut]; simp [cutN, Hx.out, hz], rfl⟩

/-- The document's cut: the same memory, as far as the row of the number goes. -/
theorem rcut_any (ao : Option Addr) (n c : Nat) (xs : List Nat) (w : World) (hm : n ≤ 9223372036854775807) (hr : Rw .i64 B4 w ao n c xs) :
    Calls Try.prog 81 #[.slice ao n c] w fun e w' => ∃ m, e = .returned (.slice ao m c) ∧ m ≤ n ∧ Rw .i64 B4 w ao m c (digs4 (val4 xs)) ∧ w = w' := by
  refine (rcut_walk ao n c xs w hm hr).mono fun e w' ⟨he, hw⟩ => ?_
  have hcut := cut_digs4 xs hr.lt
  have hr2 := hr.take (cutN_le xs n)
  have hl := hr.len
  subst hl
  rw [hcut] at hr2
  exact ⟨_, he, cutN_le _ _, hr2, hw.symm⟩

set_option maxHeartbeats 2000000 in
/-- mulAdd: a m + c. -/
theorem mulAdd_own (ao : Option Addr) (n cp m c0 : Nat) (xs : List Nat) (w : World) (hn : n ≤ 1073741824) (hm : m ≤ 65536) (hc : c0 ≤ 1000000) (hr : Rw .i64 B4 w ao n cp xs) :
    Calls Try.prog 65 #[.slice ao n cp, .int .i64 (m : Int), .int .i64 (c0 : Int)] w fun e w' => ∃ ro k c', e = .returned (.slice ro k c') ∧ Rw .i64 B4 w' ro k c' (digs4 (val4 xs * m + c0)) ∧ Own w.heap.size w' ro c' ∧ Below w.heap.size w w' := by
  have hl := hr.len
  have HL := hid hl; clear hl
  obtain ⟨i0, hi, hz0, hz1, hz2⟩ := info_parts Try.infoInt
  go_enter Try.func65, Try.ntmps65
  go_wp2_with (at_make; refine Hid.out ?_)
  refine hid ?_
  refine wpList_make_own _ rfl _ _ 26 rfl w.heap.size 3 i0 (.int .i64 0) 1 Try.underlying26 hi hz0 hz1 .i64 .i64 _ (n + 2) rfl rfl (by omega) (by rw [hz2]; omega) (by unfold maxLen; omega) (Nat.le_refl _) fun w1 hown hgrow => ?_
  have hb1 : Below w.heap.size w w1 := (Below.refl _ _).grown hgrow (Nat.le_refl _) (fun k hk => nomatch hk)
  clear hi hz0 hz1 hz2 hgrow
  obtain ⟨v0, hv0⟩ : ∃ v, v = Value.slice (some ⟨w.heap.size, 0, none⟩) 0 (n + 2) := ⟨_, rfl⟩
  rw [← hv0] at hown ⊢
  clear hv0
  go_wp2_with fail
  go_loopw [2, 7, 8] (fun s2 s7 s8 wr => ∃ (k c : Nat) (os : List Nat), s8 = .int .i64 k ∧ s2 = .int .i64 c ∧ c ≤ 1000000 ∧ k + c ≤ n + 1000000 ∧ os.length = k ∧ (∀ o ∈ os, o < B4) ∧ wr.ownsRow w.heap.size 3 1 s7 k (ints .i64 os) ∧ Below w.heap.size w wr ∧
      valB B4 os + B4 ^ k * c = valB B4 (xs.take k) * m + c0) (fun s2 _ s8 _ => (n - (intOf s8).toNat) * 1000001 + (intOf s2).toNat)
  case atStart => exact ⟨0, c0, [], rfl, rfl, hc, by omega, rfl, by simp, hown, hb1, by simp [valB]⟩
  case round =>
    obtain ⟨k, c, os, rfl, rfl, hcB, hkc, hol, hoB, hown, hb, hv⟩ := hrel
    have HV := hid hv; have HOL := hid hol; clear hv hol hb1
    have hbs := hb.size
    by_cases hkn : k < n
    · obtain ⟨b, off, x, rfl, hx, hxB, hcx⟩ := (hr.ext hb).at hkn
      have hx' : x ≤ 9999 := by have : x < 10000 := hxB; omega
      have Hx := hid hx; clear hx hxB
      have hxm := Nat.mul_le_mul hx' hm
      have hxm1 : (x : Int) * (m : Int) ≤ 655294464 := by rw [← Int.natCast_mul]; omega
      have hxm2 : (0 : Int) ≤ (x : Int) * (m : Int) := by rw [← Int.natCast_mul]; omega
      have HXM := hid hxm; clear hxm
      go_wp2_with (at_builtin; refine Hid.out ?_)
      refine hid ?_
      refine wpList_app _ rfl _ _ 26 rfl w.heap.size 3 (.int .i64 0) 1 8 Try.underlying26 Try.infoInt rfl (by decide) u7 k (ints .i64 os) rfl (hown.alloc _) (some ⟨wr.heap.size, 0, none⟩) 1 1 [Value.int .i64 (((c : Int) + (x : Int) * (m : Int)) % 10000)] rfl rfl (fun e => nomatch e) (Nat.le_refl _) (cells_new1 _ _ _) (one_int _ _) (by unfold maxLen; omega) (by omega) (by rw [World.size_alloc]; omega) fun v' w2 hown' _ hb2 => ?_
      have hb3 : Below w.heap.size w w2 := (hb.alloc hbs _).trans hb2
      have e0 : ((c + x * m : Nat) : Int) = (c : Int) + (x : Int) * (m : Int) := by simp
      have e1 : ((c : Int) + (x : Int) * (m : Int)) % 10000 = (((c + x * m) % 10000 : Nat) : Int) := by rw [← e0]; rfl
      rw [e1, ints_snoc] at hown'
      have E0 := hid e0; clear e0 e1 hown
      go_wp2
      go_roundw
      case rel =>
        refine ⟨k + 1, (c + x * m) / 10000, os ++ [(c + x * m) % 10000], by go_num, by rw [← E0.out]; rfl, ?_, ?_, by rw [List.length_append, HOL.out]; rfl, mem_snoc_lt hoB (Nat.mod_lt _ (by decide)), hown', hb3, ?_⟩
        · have := HXM.out; omega
        · have := HXM.out; omega
        · exact mulAdd_step HOL.out HV.out (valB_take_some _ Hx.out)
      case measure =>
        have h1 : ((c : Int) + (x : Int) * (m : Int)) / 10000 ≤ 1000000 := by omega
        simp only [intOf]
        omega
    · have hnx : valB B4 (xs.take (k + 1)) = valB B4 (xs.take k) := valB_take_none _ (by rw [HL.out]; omega)
      have HNX := hid hnx; clear hnx
      by_cases hc0 : c = 0
      · subst hc0
        have hd : decide ((k : Int) < (n : Int)) = false := by rw [decide_eq_false_iff_not]; omega
        have hval : val4 os = val4 xs * m + c0 := by
          have h2 := HV.out
          rw [List.take_of_length_le (l := xs) (by rw [HL.out]; omega)] at h2
          unfold val4; omega
        obtain ⟨ao', c', rfl, h1, h2⟩ := own_of_ownsRow (k := .i64) (B := B4) (by rw [HOL.out]; exact hown) hoB
        have HVAL := hid hval; clear hval
        go_wp2_with fail
        refine (rcut_any _ _ _ _ _ (by rw [HOL.out]; omega) h1).mono ?_
        rintro e w' ⟨r1, rfl, hr1, hres, rfl⟩
        rw [HVAL.out] at hres
        go_wp2
        go_ret
        exact ⟨_, _, _, rfl, hres, h2, hb⟩
      · have hd1 : decide (k < n) = false := by rw [decide_eq_false_iff_not]; omega
        have hcpos : 0 < c := by omega
        go_wp2_with (at_builtin; refine Hid.out ?_)
        refine hid ?_
        refine wpList_app _ rfl _ _ 26 rfl w.heap.size 3 (.int .i64 0) 1 8 Try.underlying26 Try.infoInt rfl (by decide) u7 k (ints .i64 os) rfl (hown.alloc _) (some ⟨wr.heap.size, 0, none⟩) 1 1 [Value.int .i64 ((c : Int) % 10000)] rfl rfl (fun e => nomatch e) (Nat.le_refl _) (cells_new1 _ _ _) (one_int _ _) (by unfold maxLen; omega) (by omega) (by rw [World.size_alloc]; omega) fun v' w2 hown' _ hb2 => ?_
        have hb3 : Below w.heap.size w w2 := (hb.alloc hbs _).trans hb2
        have e1 : (c : Int) % 10000 = (((c + 0 * m) % 10000 : Nat) : Int) := by simp
        rw [e1, ints_snoc] at hown'
        clear e1 hown
        go_wp2
        go_roundw
        case rel =>
          refine ⟨k + 1, (c + 0 * m) / 10000, os ++ [(c + 0 * m) % 10000], by go_num, by simp, by omega, by omega, by rw [List.length_append, HOL.out]; rfl, mem_snoc_lt hoB (Nat.mod_lt _ (by decide)), hown', hb3, ?_⟩
          exact mulAdd_step HOL.out HV.out (by rw [HNX.out]; simp)
        case measure =>
          simp only [intOf]
          omega

theorem mulAdd_any (ao : Option Addr) (n cp m c0 : Nat) (xs : List Nat) (w : World) (hn : n ≤ 1073741824) (hm : m ≤ 65536) (hc : c0 ≤ 1000000) (hr : Rw .i64 B4 w ao n cp xs) :
    Calls Try.prog 65 #[.slice ao n cp, .int .i64 (m : Int), .int .i64 (c0 : Int)] w fun e w' => ∃ ro k c', e = .returned (.slice ro k c') ∧ Rw .i64 B4 w' ro k c' (digs4 (val4 xs * m + c0)) ∧ Below w.heap.size w w' :=
  (mulAdd_own ao n cp m c0 xs w hn hm hc hr).mono fun e w' ⟨ro, k, c', he, h1, _, h2⟩ => ⟨ro, k, c', he, h1, h2⟩

set_option maxHeartbeats 1000000 in
/-- FromN: a row of limbs as the document's digits. -/
theorem fromN_own (ao : Option Addr) (n cp : Nat) (xs : List Nat) (w : World) (hn : n ≤ 100000000) (hr : Rw .u32 B32 w ao n cp xs) :
    Calls Try.prog 74 #[.slice ao n cp] w fun e w' => ∃ ro k c', e = .returned (.slice ro k c') ∧ Rw .i64 B4 w' ro k c' (digs4 (val xs)) ∧ k ≤ 3 * n ∧ Own w.heap.size w' ro c' ∧ Below w.heap.size w w' := by
  have hl := hr.len
  have HL := hid hl; clear hl
  go_enter Try.func74, Try.ntmps74
  go_wp2_with fail
  go_loopw [3, 4] (fun s3 s4 wr => ∃ (k : Nat) (ro : Option Addr) (m c' : Nat), k ≤ n ∧ s4 = .int .i64 ((k : Int) - 1) ∧ s3 = .slice ro m c' ∧ Rw .i64 B4 wr ro m c' (digs4 (valB B32 (xs.drop k))) ∧ Own w.heap.size wr ro c' ∧ Below w.heap.size w wr) (fun _ s4 _ => (intOf s4 + 1).toNat)
  case atStart => exact ⟨n, none, 0, 0, Nat.le_refl _, rfl, rfl, by rw [List.drop_of_length_le (Nat.le_of_eq HL.out)]; exact Rw.nil _ _ _, Own.nil _ _ _, Below.refl _ _⟩
  case round =>
    obtain ⟨k, ro, m, c', hk, rfl, rfl, hrow, hown, hb⟩ := hrel
    have hlen := hrow.len
    have hmB : m ≤ 300000000 := by
      have h1 := valB_lt (B := B32) (xs := xs.drop k) (fun x hx => hr.lt x (List.mem_of_mem_drop hx))
      have h2 := digs4_of_limbs h1
      rw [hlen, List.length_drop, HL.out] at h2
      omega
    clear hlen
    by_cases h0 : k = 0
    · subst h0
      go_wp2
      go_ret
      refine ⟨_, _, _, rfl, by rw [List.drop_zero] at hrow; exact hrow, ?_, hown, hb⟩
      have h1 := digs4_of_limbs (val_lt hr.lt)
      rw [List.drop_zero] at hrow
      have h3 := hrow.len
      rw [HL.out] at h1
      unfold val at h1
      omega
    · obtain ⟨j, rfl⟩ : ∃ j, k = j + 1 := ⟨k - 1, by omega⟩
      obtain ⟨b, off, x, rfl, hx, hxB, hcx⟩ := (hr.ext hb).at (show j < n by omega)
      have hx' : x < 4294967296 := hxB
      obtain ⟨xh, hxh⟩ : ∃ xh, xh = x / 65536 := ⟨_, rfl⟩
      obtain ⟨xl, hxl⟩ : ∃ xl, xl = x % 65536 := ⟨_, rfl⟩
      have e1 : (x : Int) / 65536 = (xh : Int) := by omega
      have e2 : (x : Int) % 65536 = (xl : Int) := by omega
      have hxhB : xh < 65536 := by omega
      have hxlB : xl < 65536 := by omega
      have hx2 : x = xh * 65536 + xl := by omega
      have hval := valB_drop_some B32 hx
      have HVAL := hid hval; have HX2 := hid hx2
      clear hx hxB hxh hxl hx2 hval
      go_wp2_with fail
      refine (mulAdd_any _ m c' 65536 xh _ _ (by omega) (by omega) (by omega) hrow).mono ?_
      rintro e w1 ⟨r1, k1, c1, rfl, hrow1, hb1⟩
      rw [val4_digs4] at hrow1
      have hk1 : k1 ≤ 300000003 := by
        have h3 : val4 (digs4 (valB B32 (xs.drop (j + 1)))) * 65536 + xh < B32 ^ (n - (j + 1) + 1) := by
          rw [val4_digs4]
          have h1 := valB_lt (B := B32) (xs := xs.drop (j + 1)) (fun x hx => hr.lt x (List.mem_of_mem_drop hx))
          rw [List.length_drop, HL.out] at h1
          rw [Nat.pow_succ]
          unfold B32 at *
          omega
        have h4 := digs4_of_limbs h3
        rw [val4_digs4, hrow1.len] at h4
        omega
      have hcx1 := hb1.cell (p := ⟨b, off + j, none⟩) (World.block_lt_of_cell? _ _ hcx)
      rw [hcx] at hcx1
      go_wp2_with fail
      refine (mulAdd_own _ k1 c1 65536 xl _ _ (by omega) (by omega) (by omega) hrow1).mono ?_
      rintro e w2 ⟨r2, k2, c2, rfl, hrow2, hown2, hb2⟩
      have hown3 := hown2.mono (Nat.le_trans hb.size hb1.size)
      clear hown2 hown
      rw [val4_digs4] at hrow2
      go_wp2
      go_roundw
      case rel =>
        refine ⟨j, r2, k2, c2, by omega, by go_num, rfl, ?_, hown3, hb.trans ((ext_trans hb1 hb2).mono hb.size)⟩
        rw [HVAL.out, HX2.out, show xh * 65536 + xl + B32 * valB B32 (xs.drop (j + 1)) = (valB B32 (xs.drop (j + 1)) * 65536 + xh) * 65536 + xl by unfold B32; omega]
        exact hrow2
      case measure => simp [intOf]; try omega

theorem fromN_any (ao : Option Addr) (n cp : Nat) (xs : List Nat) (w : World) (hn : n ≤ 100000000) (hr : Rw .u32 B32 w ao n cp xs) :
    Calls Try.prog 74 #[.slice ao n cp] w fun e w' => ∃ ro k c', e = .returned (.slice ro k c') ∧ Rw .i64 B4 w' ro k c' (digs4 (val xs)) ∧ k ≤ 3 * n ∧ Below w.heap.size w w' :=
  (fromN_own ao n cp xs w hn hr).mono fun e w' ⟨ro, k, c', he, h1, hk, _, h2⟩ => ⟨ro, k, c', he, h1, hk, h2⟩

end Go.Proofs.Ytkcagkcphobmfaa
