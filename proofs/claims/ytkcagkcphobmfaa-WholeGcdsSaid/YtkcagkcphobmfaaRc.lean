/-
  WALKS: the document's division: DivN. What it returns, as numbers; nothing that was there turns.
-/
import Derived.Test.YtkcagkcphobmfaaRb
set_option linter.unusedVariables false
set_option linter.unusedSimpArgs false
namespace Go.Proofs.Ytkcagkcphobmfaa
open Go.RowKit

theorem lit_own (w : World) (base : Nat) (k : IntKind) (x : Nat) (t : TypeId) (hb : base ≤ w.heap.size) :
    (w.alloc (.cells #[.int k (x : Int)] t)).ownsRow base t 1 (.slice (some ⟨w.heap.size, 0, none⟩) 1 1) 1 (ints k [x]) :=
  ⟨rfl, .inr ⟨w.heap.size, 1, _, rfl, hb, heap_alloc_new w _, Nat.le_refl _, by decide, rfl, rfl⟩⟩

theorem cmpZ_le {a b : Int} : cmpZ a b ≤ 0 ↔ a ≤ b := by
  unfold cmpZ
  split
  · omega
  · split <;> omega

set_option maxHeartbeats 2000000 in
/-- DivN: quotient and remainder; the divisor is not 0. -/
theorem divN_own (ao bo : Option Addr) (n c m d M N : Nat) (w : World) (hn : n ≤ 100000000) (hm : m ≤ 100000000) (hN : 0 < N) (hr : Rw .i64 B4 w ao n c (digs4 M)) (hs : Rw .i64 B4 w bo m d (digs4 N)) :
    Calls Try.prog 58 #[.slice ao n c, .slice bo m d] w fun e w' => ∃ qo qn qc ro rn rc, e = .returned (.tuple #[.slice qo qn qc, .slice ro rn rc]) ∧ Rw .i64 B4 w' qo qn qc (digs4 (M / N)) ∧ qn ≤ n ∧ Rw .i64 B4 w' ro rn rc (digs4 (M % N)) ∧ rn ≤ m ∧ Own w.heap.size w' qo qc ∧ Own w.heap.size w' ro rc ∧ Below w.heap.size w w' := by
  have hpl := hr.len
  have hql := hs.len
  have HPL := hid hpl; have HQL := hid hql; clear hpl hql
  go_enter Try.func58, Try.ntmps58
  go_wp2_with (at_make; refine Hid.out ?_)
  refine hid ?_
  refine wpList_mk _ rfl _ _ 26 rfl 3 (.int .i64 0) 8 Try.underlying26 Try.infoInt rfl .i64 .i64 _ _ n rfl rfl (by omega) (by omega) (by omega) (by unfold maxLen; omega) fun w2 hblk hbelow hlt => ?_
  obtain ⟨G, hG⟩ : ∃ G, G = w.heap.size := ⟨_, rfl⟩
  rw [← hG] at hblk hlt hbelow ⊢
  have HG := hid hG; clear hG
  rw [← ints_replicate] at hblk
  go_wp2_with fail
  go_loopw [7, 8] (fun s7 s8 wr => ∃ (k R rn rc : Nat) (ro : Option Addr) (qs : List Nat), k ≤ n ∧ s8 = .int .i64 ((k : Int) - 1) ∧ s7 = .slice ro rn rc ∧ Rw .i64 B4 wr ro rn rc (digs4 R) ∧ Own G wr ro rc ∧ R < N ∧ qs.length = n ∧ (∀ o ∈ qs, o < B4) ∧ Blk wr G 3 (ints .i64 qs) ∧ Below G w wr ∧
      valB B4 ((digs4 M).drop k) = N * valB B4 (qs.drop k) + R) (fun _ s8 _ => (intOf s8 + 1).toNat)
  case atStart => exact ⟨n, 0, 0, 0, none, List.replicate n 0, Nat.le_refl _, rfl, rfl, Rw.nil _ _ _, Own.nil _ _ _, hN, by simp, (fun o ho => by have := (List.mem_replicate.1 ho).2; subst this; decide), hblk, hbelow, by rw [List.drop_of_length_le (Nat.le_of_eq HPL.out), List.drop_of_length_le (by simp)]; rfl⟩
  case round =>
    obtain ⟨k, R, rn, rc, ro, qs, hk, rfl, rfl, hrow, hrown, hRN, hol, hoB, hb, hbe, hv⟩ := hrel
    have HV := hid hv; have HOL := hid hol; clear hv hol hblk hbelow
    have hb0 := hb.lt
    have hrnm : rn ≤ m := by
      have := digs4_mono (Nat.le_of_lt hRN)
      rw [hrow.len, HQL.out] at this; exact this
    by_cases h0 : k = 0
    · subst h0
      have hv := HV.out
      rw [List.drop_zero, List.drop_zero] at hv
      have HV2 := hid hv; clear hv HV
      go_wp2_with fail
      have hqrow := hb.rw hoB
      rw [HOL.out] at hqrow
      refine (rcut_any _ _ _ _ _ (by omega) hqrow).mono ?_
      rintro e w' ⟨r1, rfl, hr1', hres, rfl⟩
      go_wp2
      go_ret2
      have hmod : M % N = R := by
        have h2 := HV2.out
        change val4 (digs4 M) = _ at h2
        rw [val4_digs4] at h2
        rw [h2, Nat.mul_add_mod, Nat.mod_eq_of_lt hRN]
      have hdiv : M / N = val4 qs := by
        have h2 := HV2.out
        change val4 (digs4 M) = _ at h2
        rw [val4_digs4] at h2
        rw [h2, Nat.mul_add_div hN, Nat.div_eq_of_lt hRN, Nat.add_zero]; rfl
      exact ⟨_, _, _, _, _, _, rfl, by rw [hdiv]; exact hres, hr1', by rw [hmod]; exact hrow, hrnm, by rw [← HG.out]; exact hb.own (Nat.le_refl _) (by rw [ints_length, HOL.out]; exact Nat.le_refl _), by rw [← HG.out]; exact hrown, by rw [← HG.out]; exact hbe⟩
    · obtain ⟨j, rfl⟩ : ∃ j, k = j + 1 := ⟨k - 1, by omega⟩
      obtain ⟨b1, off1, x, rfl, hx, hxB, hcx⟩ := (hr.ext (by rw [← HG.out]; exact hbe)).at (show j < n by omega)
      have hx' : x < 10000 := hxB
      have Hx := hid hx; clear hx hxB
      have hrlen := hrow.len
      have HRL := hid hrlen; clear hrlen
      go_wp2_with (at_builtin; refine Hid.out ?_)
      refine hid ?_
      have hbA : Below wr.heap.size wr (wr.alloc (.cells #[.int .i64 (x : Int)] 3)) := (Below.refl _ _).alloc (Nat.le_refl _) _
      refine wpList_app _ rfl _ _ 26 rfl wr.heap.size 3 (.int .i64 0) 1 8 Try.underlying26 Try.infoInt rfl (by decide) _ 1 (ints .i64 [x]) rfl (lit_own wr _ .i64 x 3 (Nat.le_refl _)) ro rn rc (ints .i64 (digs4 R)) rfl (by rw [ints_length, HRL.out]; omega) hrow.2.2.1 hrow.le (hrow.cells.ext hbA) (ints_one _ _) (by unfold maxLen; omega) (by omega) (by rw [World.size_alloc]; omega) fun v' w3 hown' _ hb3 => ?_
      have hb13 : Below wr.heap.size wr w3 := hbA.trans hb3
      have hcat : ints .i64 [x] ++ ints .i64 (digs4 R) = ints .i64 (x :: digs4 R) := by simp [ints]
      rw [hcat] at hown'
      have hxR : ∀ o ∈ (x :: digs4 R), o < B4 := by
        intro o ho
        rcases List.mem_cons.1 ho with rfl | ho
        · exact hx'
        · exact digs4_lt R o ho
      obtain ⟨ao', c', rfl, h1, hown1⟩ := own_of_ownsRow (k := .i64) (B := B4) (xs := x :: digs4 R) (by rw [List.length_cons, HRL.out, Nat.add_comm]; exact hown') hxR
      rw [List.length_cons, HRL.out] at h1 ⊢
      clear hown' hcat hxR hbA hb3
      go_wp2_with fail
      refine (rcut_any _ _ _ _ _ (by omega) h1).mono ?_
      rintro e w' ⟨r1, rfl, hr1', hres, rfl⟩
      have hval : val4 (x :: digs4 R) = x + 10000 * R := by
        unfold val4; rw [valB_cons]
        have := val4_digs4 R
        unfold val4 at this; rw [this]
      rw [hval] at hres
      have hR2 : x + 10000 * R < 10000 * N := by omega
      obtain ⟨R2, hR2e⟩ : ∃ R2, R2 = x + 10000 * R := ⟨_, rfl⟩
      rw [← hR2e] at hres hR2
      have HR2 := hid hR2e; clear hR2e hval
      have hb3 := hb.ext hb13
      have hbe3 : Below G w w3 := hbe.trans (hb13.mono (by omega))
      clear h1 hrow hrown hb hbe
      have hr1m : r1 ≤ m + 1 := by omega
      have hs3 : Rw .i64 B4 w3 bo m d (digs4 N) := hs.ext (by rw [← HG.out]; exact hbe3)
      have hNle : N ≤ N * 65536 := Nat.le_mul_of_pos_right _ (by omega)
      go_wp2_with fail
      go_loopw [9, 10] (fun s9 s10 wi => ∃ lo hi : Nat, s9 = .int .i64 lo ∧ s10 = .int .i64 hi ∧ lo ≤ hi ∧ hi ≤ 9999 ∧ lo * N ≤ R2 ∧ R2 < (hi + 1) * N ∧ Below w3.heap.size w3 wi) (fun s9 s10 _ => (intOf s10 - intOf s9).toNat)
      case atStart => exact ⟨0, 9999, rfl, rfl, by omega, by omega, by omega, hR2, Below.refl _ _⟩
      case round =>
        obtain ⟨lo, hi, rfl, rfl, hlh, hhi, hlo2, hhi2, hbi⟩ := hrel
        have HLO := hid hlo2; have HHI := hid hhi2; clear hlo2 hhi2
        have hsi := hs3.ext hbi
        have hresi := hres.ext hbi
        by_cases hlt : lo < hi
        · obtain ⟨mm, hmm⟩ : ∃ mm, mm = (lo + hi + 1) / 2 := ⟨_, rfl⟩
          have hmi : ((lo : Int) + (hi : Int) + 1) / 2 = (mm : Int) := by omega
          have hm1 : lo < mm := by omega
          have hm2 : mm ≤ hi := by omega
          clear hmm
          go_wp2_with fail
          refine (mulAdd_any _ m d mm 0 _ _ (by omega) (by omega) (by omega) hsi).mono ?_
          rintro e w4 ⟨r4, k4, c4, rfl, hrow4, hb4⟩
          rw [val4_digs4, Nat.add_zero] at hrow4
          have hk4 : k4 ≤ m + 2 := by
            have h1 := digs4_lt N
            have h2 : N * mm < B4 ^ (m + 2) := by
              have h3 := val4_lt (digs4_lt N)
              rw [val4_digs4, HQL.out] at h3
              have h4 : N * mm ≤ N * 9999 := Nat.mul_le_mul_left _ (by omega)
              have h5 : N * 9999 < B4 ^ m * B4 := by unfold B4 at *; omega
              rw [Nat.pow_succ, Nat.pow_succ]
              have : B4 ^ m * B4 ≤ B4 ^ m * B4 * B4 := Nat.le_mul_of_pos_right _ (by decide)
              omega
            have h6 := digs4_le h2
            rw [hrow4.len] at h6; exact h6
          have hres4 := hresi.ext hb4
          go_wp2_with fail
          refine (cmpN_any _ _ _ _ _ _ (N * mm) R2 _ (by omega) (by omega) hrow4 hres4).mono ?_
          rintro e w5 ⟨rfl, hb5⟩
          obtain ⟨z, hz⟩ : ∃ z, z = cmpZ ((N * mm : Nat) : Int) (R2 : Int) := ⟨_, rfl⟩
          rw [← hz]
          have hbi5 : Below w3.heap.size w3 w5 := hbi.trans ((ext_trans hb4 hb5).mono hbi.size)
          by_cases hle : N * mm ≤ R2
          · have hz0 : z ≤ 0 := by rw [hz, cmpZ_le]; omega
            have hdz : decide (z ≤ 0) = true := by simpa using hz0
            have hlo' : mm * N ≤ R2 := by rw [Nat.mul_comm]; exact hle
            have HLO' := hid hlo'
            clear hz hlo' hle
            go_wp2_with fail
            go_roundw
            case rel => exact ⟨mm, hi, rfl, rfl, hm2, hhi, HLO'.out, HHI.out, hbi5⟩
            case measure => simp [intOf]; omega
          · have hz0 : 0 < z := by
              have : ¬ z ≤ 0 := by rw [hz, cmpZ_le]; omega
              omega
            have hdz : decide (z ≤ 0) = false := by rw [decide_eq_false_iff_not]; omega
            have hhi' : R2 < ((mm - 1) + 1) * N := by rw [Nat.sub_add_cancel (by omega), Nat.mul_comm]; omega
            have HHI' := hid hhi'
            clear hz hhi' hle
            go_wp2_with fail
            go_roundw
            case rel => exact ⟨lo, mm - 1, rfl, by go_num, by omega, by omega, HLO.out, HHI'.out, hbi5⟩
            case measure => simp [intOf]; omega
        · obtain rfl : lo = hi := by omega
          have hb6 := hb3.ext hbi
          have hbe6 : Below G w wr := hbe3.trans (hbi.mono (by have := hb3.lt; omega))
          have hcell := hb6.cell j (by rw [ints_length, HOL.out]; omega)
          have hfree := hb6.free j
          have hlt6 := hb6.lt
          have hloB : lo < 10000 := by omega
          have hb7 := hb6.set j (.int .i64 (lo : Int))
          rw [ints_set] at hb7
          have hbe7 : Below G w (wr.setCell ⟨G, j, none⟩ (.int .i64 (lo : Int))) := hbe6.setCell (Nat.le_refl _) _
          have hs7 : Rw .i64 B4 (wr.setCell ⟨G, j, none⟩ (.int .i64 (lo : Int))) bo m d (digs4 N) := hs.ext (by rw [← HG.out]; exact hbe7)
          have hres7 : Rw .i64 B4 (wr.setCell ⟨G, j, none⟩ (.int .i64 (lo : Int))) ao' r1 c' (digs4 R2) := hresi.setElder (hown1.ext hbi) hb0
          go_wp2_with fail
          generalize wr.setCell ⟨G, j, none⟩ (.int .i64 (lo : Int)) = wx at *
          refine (mulAdd_any _ m d lo 0 _ _ (by omega) (by omega) (by omega) hs7).mono ?_
          rintro e w4 ⟨r4, k4, c4, rfl, hrow4, hb4⟩
          rw [val4_digs4, Nat.add_zero] at hrow4
          have hk4 : k4 ≤ m + 2 := by
            have h2 : N * lo < B4 ^ (m + 2) := by
              have h3 := val4_lt (digs4_lt N)
              rw [val4_digs4, HQL.out] at h3
              have h4 : N * lo ≤ N * 9999 := Nat.mul_le_mul_left _ (by omega)
              have h5 : N * 9999 < B4 ^ m * B4 := by unfold B4 at *; omega
              rw [Nat.pow_succ, Nat.pow_succ]
              have : B4 ^ m * B4 ≤ B4 ^ m * B4 * B4 := Nat.le_mul_of_pos_right _ (by decide)
              omega
            have h6 := digs4_le h2
            rw [hrow4.len] at h6; exact h6
          have hres8 := hres7.ext hb4
          have hle8 : N * lo ≤ R2 := by rw [Nat.mul_comm]; exact HLO.out
          go_wp2_with fail
          refine (subN_own _ _ _ _ _ _ R2 (N * lo) _ (by omega) (by omega) hle8 hres8 hrow4).mono ?_
          rintro e w5 ⟨r5, k5, c5, rfl, hrow5, hk5, hown5, hb5⟩
          have hown6 : Own G w5 r5 c5 := hown5.mono (by have := hb4.size; have := hb7.lt; omega)
          clear hown5
          have hb45 := ext_trans hb4 hb5
          have hb9 := hb7.ext hb45
          have hbe9 : Below G w w5 := hbe7.trans (hb45.mono (by have := hb7.lt; omega))
          have HLE8 := hid hle8; clear hle8
          go_wp2
          go_roundw
          case rel =>
            refine ⟨j, R2 - N * lo, k5, c5, r5, qs.set j lo, by omega, by go_num, rfl, hrow5, hown6, ?_, by rw [List.length_set]; exact HOL.out, mem_set_lt hoB hloB j, hb9, hbe9, ?_⟩
            · have h1 := HHI.out
              rw [Nat.add_mul, Nat.one_mul, Nat.mul_comm lo] at h1
              have := HLE8.out
              omega
            · refine small_step (r := R) (x := x) (s := R2) (by rw [HOL.out]; omega) Hx.out HV.out ?_ ?_
              · rw [HR2.out]; unfold B4; omega
              · have := HLE8.out; omega
          case measure => simp [intOf]; try omega

theorem divN_any (ao bo : Option Addr) (n c m d M N : Nat) (w : World) (hn : n ≤ 100000000) (hm : m ≤ 100000000) (hN : 0 < N) (hr : Rw .i64 B4 w ao n c (digs4 M)) (hs : Rw .i64 B4 w bo m d (digs4 N)) :
    Calls Try.prog 58 #[.slice ao n c, .slice bo m d] w fun e w' => ∃ qo qn qc ro rn rc, e = .returned (.tuple #[.slice qo qn qc, .slice ro rn rc]) ∧ Rw .i64 B4 w' qo qn qc (digs4 (M / N)) ∧ qn ≤ n ∧ Rw .i64 B4 w' ro rn rc (digs4 (M % N)) ∧ rn ≤ m ∧ Below w.heap.size w w' :=
  (divN_own ao bo n c m d M N w hn hm hN hr hs).mono fun e w' ⟨qo, qn, qc, ro, rn, rc, he, h1, h2, h3, h4, _, _, h5⟩ => ⟨qo, qn, qc, ro, rn, rc, he, h1, h2, h3, h4, h5⟩

end Go.Proofs.Ytkcagkcphobmfaa
