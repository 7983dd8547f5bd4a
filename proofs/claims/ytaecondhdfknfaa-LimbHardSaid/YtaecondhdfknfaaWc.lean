/-
  THE WALK OF THE STATEMENT ON HARD DIVISIONS.
-/
import Derived.Test.YtaecondhdfknfaaWb
import Derived.Deep.OwnRows
import Derived.Deep.DeepCutAuto
set_option linter.unusedVariables false
set_option linter.unusedSimpArgs false
namespace Go.Proofs.Ytaecondhdfknfaa
open Go.RowKit

theorem blk_made (w : World) (n : Nat) (t : TypeId) : Blk (w.alloc (.cells (madeCells #[Value.int .u32 0] n) t)) w.heap.size t (ints .u32 (List.replicate n 0)) := by
  have h : madeCells #[Value.int .u32 0] n = (ints .u32 (List.replicate n 0)).toArray := by
    have := toList_madeCells_one (Value.int .u32 0) n
    rw [← ints_replicate] at this
    rw [← this]
  rw [h]
  exact Blk.new w t _

theorem two_made (w : World) (n m : Nat) (t : TypeId) :
    Blk ((w.alloc (.cells (madeCells #[Value.int .u32 0] n) t)).alloc (.cells (madeCells #[Value.int .u32 0] m) t)).drew w.heap.size t (ints .u32 (List.replicate n 0)) ∧
    Blk ((w.alloc (.cells (madeCells #[Value.int .u32 0] n) t)).alloc (.cells (madeCells #[Value.int .u32 0] m) t)).drew (w.heap.size + 1) t (ints .u32 (List.replicate m 0)) ∧
    Below w.heap.size w ((w.alloc (.cells (madeCells #[Value.int .u32 0] n) t)).alloc (.cells (madeCells #[Value.int .u32 0] m) t)).drew := by
  refine ⟨((blk_made w n t).alloc _).drew, ?_, ?_⟩
  · have h := blk_made (w.alloc (.cells (madeCells #[Value.int .u32 0] n) t)) m t
    rw [World.size_alloc] at h
    exact h.drew
  · exact (((Below.refl _ w).alloc (Nat.le_refl _) _).alloc (by rw [World.size_alloc]; omega) _).drew

theorem rep0_lt (n : Nat) : ∀ x ∈ List.replicate n 0, x < B32 := by
  intro x hx
  rw [(List.mem_replicate.1 hx).2]; decide

theorem wrap_in (v : Int) : -9223372036854775808 ≤ IntKind.i64.wrap v ∧ IntKind.i64.wrap v ≤ 9223372036854775807 := by
  have e1 : (2 : Int) ^ IntKind.i64.bits = 18446744073709551616 := by decide
  have e2 : (2 : Int) ^ (IntKind.i64.bits - 1) = 9223372036854775808 := by decide
  have e3 : IntKind.i64.signed = true := rfl
  simp only [IntKind.wrap, e1, e2, e3, Bool.true_and, decide_eq_true_eq]
  split <;> omega

set_option maxHeartbeats 2000000 in
theorem limbHard_walk (n m i k : Int) (top : Bool) (w : World) (hn1 : -9223372036854775808 ≤ n) (hn2 : n ≤ 9223372036854775807) (hm1 : -9223372036854775808 ≤ m) (hm2 : m ≤ 9223372036854775807) (hi1 : -9223372036854775808 ≤ i) (hi2 : i ≤ 9223372036854775807) (hk1 : -9223372036854775808 ≤ k) (hk2 : k ≤ 9223372036854775807) :
    Calls Try.prog 4 #[.int .i64 n, .int .i64 m, .int .i64 i, .int .i64 k, .bool top] w fun e w' => e = .returned (.bool true) ∧ Below w.heap.size w w' := by
  go_enter Try.func4, Try.ntmps4
  go_wp2_with fail
  refine (within_any n 12 _ (by omega) (by omega) hn1 hn2).mono ?_
  rintro e w0 ⟨rfl, rfl⟩
  obtain ⟨a, ha, hab⟩ : ∃ a : Nat, n % ((12 : Nat) : Int) = (a : Int) ∧ a < 12 := ⟨(n % 12).toNat, by omega, by omega⟩
  rw [ha]
  clear ha hn1 hn2
  go_wp2_with fail
  refine (within_any m 6 _ (by omega) (by omega) hm1 hm2).mono ?_
  rintro e w0 ⟨rfl, rfl⟩
  obtain ⟨b, hb, hbb⟩ : ∃ b : Nat, m % ((6 : Nat) : Int) = (b : Int) ∧ b < 6 := ⟨(m % 6).toNat, by omega, by omega⟩
  rw [hb]
  clear hb hm1 hm2
  obtain ⟨n1, hn1, hn2⟩ : ∃ n1 : Nat, (1 : Int) + (a : Int) = (n1 : Int) ∧ n1 ≤ 12 := ⟨1 + a, by omega, by omega⟩
  obtain ⟨m1, hm1, hm2, hm3⟩ : ∃ m1 : Nat, (1 : Int) + (b : Int) = (m1 : Int) ∧ m1 ≤ 6 ∧ 1 ≤ m1 := ⟨1 + b, by omega, by omega, by omega⟩
  go_upto_region 2 with (fail)
  have hmk1 := run_make_row' (P := Try.prog) 22 38 (.int .u32 0) 4 Try.underlying22 Try.infoU32 rfl .i64 .i64 n1 (by omega) (by omega)
  have hmk2 := run_make_row' (P := Try.prog) 22 38 (.int .u32 0) 4 Try.underlying22 Try.infoU32 rfl .i64 .i64 m1 (by omega) (by omega)
  clear hn1 hm1 hab hbb
  go_cut [11, 12] (fun s11 s12 wx => ∃ G1 G2, s11 = .slice (some ⟨G1, 0, none⟩) n1 n1 ∧ s12 = .slice (some ⟨G2, 0, none⟩) m1 m1 ∧ G1 ≠ G2 ∧ w.heap.size ≤ G1 ∧ w.heap.size ≤ G2 ∧ Blk wx G1 38 (ints .u32 (List.replicate n1 0)) ∧ Blk wx G2 38 (ints .u32 (List.replicate m1 0)) ∧ Below w.heap.size w wx)
  case first =>
    go_region
    all_goals (go_wp2_with fail)
    all_goals go_meet
    · obtain ⟨h1, h2, h3⟩ := two_made w n1 m1 38
      exact ⟨_, _, rfl, rfl, by omega, by omega, by omega, h1, h2, h3⟩
    · obtain ⟨h1, h2, h3⟩ := two_made w m1 n1 38
      exact ⟨_, _, rfl, rfl, by omega, by omega, by omega, h2, h1, h3⟩
  case rest =>
    obtain ⟨G1, G2, rfl, rfl, hne, hG1, hG2, hb1, hb2, hbe⟩ := hcut
    clear hmk1 hmk2
    go_wp2_with fail
    go_loopw [27] (fun s27 wr => ∃ (j : Nat) (ps : List Nat), j ≤ n1 ∧ s27 = .int .i64 j ∧ ps.length = n1 ∧ (∀ o ∈ ps, o < B32) ∧ Blk wr G1 38 (ints .u32 ps) ∧ Blk wr G2 38 (ints .u32 (List.replicate m1 0)) ∧ Below w.heap.size w wr) (fun s27 _ => n1 - (intOf s27).toNat)
    case atStart => exact ⟨0, _, Nat.zero_le _, rfl, by simp, rep0_lt _, hb1, hb2, hbe⟩
    case round =>
      clear hb1 hb2 hbe
      obtain ⟨j, ps, hj, rfl, hal, haB, hb1, hb2, hbe⟩ := hrel
      have HAL := hid hal; clear hal
      by_cases hjn : j < n1
      · have hjj : (0 : Int) ≤ (j : Int) * (j : Int) ∧ (j : Int) * (j : Int) ≤ 144 := by
          have := Nat.mul_le_mul (show j ≤ 12 by omega) (show j ≤ 12 by omega)
          rw [← Int.natCast_mul]; omega
        obtain ⟨hj1, hj2⟩ := hjj
        go_wp2_with (with_reducible refine Hid.out (p := wpList _ _ _ ({ dst := some 37, op := _, type := _, pos := _, after := _, guard := _ } :: _) _ _) ?_)
        refine hid ?_
        generalize (j : Int) * (j : Int) = p at hj1 hj2 ⊢
        obtain ⟨v, hv⟩ : ∃ v, IntKind.i64.wrap (i + p) = v := ⟨_, rfl⟩
        have hvb := wrap_in (i + p)
        rw [hv] at hvb
        go_wp2_with fail
        clear hv hj1 hj2
        have ht := Blk.new wr 38 (ints .u32 [0, 4294967295, 2147483648, 2147483647, 1])
        have hb1a := hb1.alloc (.cells (ints .u32 [0, 4294967295, 2147483648, 2147483647, 1]).toArray 38)
        have hb2a := hb2.alloc (.cells (ints .u32 [0, 4294967295, 2147483648, 2147483647, 1]).toArray 38)
        have hbea := hbe.alloc hbe.size (.cells (ints .u32 [0, 4294967295, 2147483648, 2147483647, 1]).toArray 38)
        change Calls _ _ _ (wr.alloc (.cells (ints .u32 [0, 4294967295, 2147483648, 2147483647, 1]).toArray 38)) _
        obtain ⟨T, hT⟩ : ∃ T, T = wr.heap.size := ⟨_, rfl⟩
        rw [← hT] at ht ⊢
        generalize wr.alloc (.cells (ints .u32 [0, 4294967295, 2147483648, 2147483647, 1]).toArray 38) = wa at ht hb1a hb2a hbea ⊢
        clear hb1 hb2 hbe hT
        refine (within_any v 5 _ (by omega) (by omega) hvb.1 hvb.2).mono ?_
        rintro e w0 ⟨rfl, rfl⟩
        obtain ⟨r, hr, hr5⟩ : ∃ r : Nat, v % ((5 : Nat) : Int) = (r : Int) ∧ r < 5 := ⟨(v % 5).toNat, by omega, by omega⟩
        rw [hr]
        obtain ⟨x, _, hxB, hcx⟩ := (ht.rw (B := B32) (by decide)).cell (j := r) (by simpa using hr5)
        rw [Nat.zero_add] at hcx
        have hcell := hb1a.cell j (by rw [ints_length, HAL.out]; exact hjn)
        have hfree := hb1a.free j
        have HXB := hid hxB
        clear hr hvb ht hxB
        go_wp2
        go_roundw
        case rel =>
          have hs := hb1a.set j (.int .u32 (x : Int))
          rw [ints_set] at hs
          exact ⟨j + 1, ps.set j x, by omega, by go_num, by rw [List.length_set]; exact HAL.out, mem_set_lt haB HXB.out j, hs, hb2a.other (show G2 ≠ G1 from fun h => hne h.symm) _, hbea.setCell hG1 _⟩
        case measure => simp [intOf]; omega
      · obtain rfl : j = n1 := by omega
        have haB' := haB
        clear hj hjn
        go_wp2_with fail
        go_loopw [45] (fun s45 wr => ∃ (i : Nat) (qs : List Nat), i ≤ m1 ∧ s45 = .int .i64 i ∧ qs.length = m1 ∧ (∀ o ∈ qs, o < B32) ∧ Blk wr G1 38 (ints .u32 ps) ∧ Blk wr G2 38 (ints .u32 qs) ∧ Below w.heap.size w wr) (fun s45 _ => m1 - (intOf s45).toNat)
        case atStart => exact ⟨0, _, Nat.zero_le _, rfl, by simp, rep0_lt _, hb1, hb2, hbe⟩
        case round =>
          clear hb1 hb2 hbe
          obtain ⟨i, qs, hi, rfl, hql, hqB, hb1, hb2, hbe⟩ := hrel
          have HQL := hid hql; clear hql
          by_cases him : i < m1
          · go_wp2_with (with_reducible refine Hid.out (p := wpList _ _ _ ({ dst := some 54, op := _, type := _, pos := _, after := _, guard := _ } :: _) _ _) ?_)
            refine hid ?_
            obtain ⟨p, hp⟩ : ∃ p : Int, p = 3 * (i : Int) := ⟨_, rfl⟩
            rw [← hp]
            obtain ⟨v, hv⟩ : ∃ v, IntKind.i64.wrap (k + p) = v := ⟨_, rfl⟩
            have hvb := wrap_in (k + p)
            rw [hv] at hvb
            clear hp
            go_wp2_with fail
            clear hv
            have ht := Blk.new wr 38 (ints .u32 [0, 4294967295, 1, 2147483648, 2147483647])
            have hb1a := hb1.alloc (.cells (ints .u32 [0, 4294967295, 1, 2147483648, 2147483647]).toArray 38)
            have hb2a := hb2.alloc (.cells (ints .u32 [0, 4294967295, 1, 2147483648, 2147483647]).toArray 38)
            have hbea := hbe.alloc hbe.size (.cells (ints .u32 [0, 4294967295, 1, 2147483648, 2147483647]).toArray 38)
            change Calls _ _ _ (wr.alloc (.cells (ints .u32 [0, 4294967295, 1, 2147483648, 2147483647]).toArray 38)) _
            obtain ⟨T, hT⟩ : ∃ T, T = wr.heap.size := ⟨_, rfl⟩
            rw [← hT] at ht ⊢
            generalize wr.alloc (.cells (ints .u32 [0, 4294967295, 1, 2147483648, 2147483647]).toArray 38) = wa at ht hb1a hb2a hbea ⊢
            clear hb1 hb2 hbe hT
            refine (within_any v 5 _ (by omega) (by omega) hvb.1 hvb.2).mono ?_
            rintro e w0 ⟨rfl, rfl⟩
            obtain ⟨r, hr, hr5⟩ : ∃ r : Nat, v % ((5 : Nat) : Int) = (r : Int) ∧ r < 5 := ⟨(v % 5).toNat, by omega, by omega⟩
            rw [hr]
            obtain ⟨x, _, hxB, hcx⟩ := (ht.rw (B := B32) (by decide)).cell (j := r) (by simpa using hr5)
            rw [Nat.zero_add] at hcx
            have hcell := hb2a.cell i (by rw [ints_length, HQL.out]; exact him)
            have hfree := hb2a.free i
            have HXB := hid hxB
            clear hr hvb ht hxB
            go_wp2
            go_roundw
            case rel =>
              have hs := hb2a.set i (.int .u32 (x : Int))
              rw [ints_set] at hs
              exact ⟨i + 1, qs.set i x, by omega, by go_num, by rw [List.length_set]; exact HQL.out, mem_set_lt hqB HXB.out i, hb1a.other hne _, hs, hbea.setCell hG2 _⟩
            case measure => simp [intOf]; omega
          · obtain ⟨t, rfl⟩ : ∃ t, i = t + 1 := ⟨i - 1, by omega⟩
            obtain rfl : m1 = t + 1 := by omega
            clear hi him
            have hcell := hb2.cell t (by rw [ints_length, HQL.out]; omega)
            have hfree := hb2.free t
            cases top
            · go_wp2_with fail
              have hs := hb2.set t (.int .u32 ((2147483648 : Nat) : Int))
              rw [ints_set] at hs
              have hb1s := hb1.other (a := ⟨G2, t, none⟩) hne (.int .u32 ((2147483648 : Nat) : Int))
              have hbes := hbe.setCell (p := ⟨G2, t, none⟩) hG2 (.int .u32 ((2147483648 : Nat) : Int))
              have hr1 := hb1s.rw haB'
              rw [HAL.out] at hr1
              have hr2 := hs.rw (mem_set_lt hqB (by decide) t)
              rw [List.length_set, HQL.out] at hr2
              refine (limbDivs_walk _ _ _ _ _ _ _ _ _ (by omega) (by omega) hr1 hr2).mono ?_
              rintro e w1 ⟨rfl, hbw⟩
              go_wp2_with fail
              refine (wakes_any _).mono ?_
              rintro e w2 ⟨rfl, hbw2⟩
              go_wp2
              go_ret
              exact ⟨rfl, hbes.trans ((hbw.mono hbes.size).trans (hbw2.mono (Nat.le_trans hbes.size hbw.size)))⟩
            · go_wp2_with fail
              have hs := (hb2.set t (.int .u32 ((2147483648 : Nat) : Int))).set t (.int .u32 ((4294967295 : Nat) : Int))
              rw [ints_set, ints_set] at hs
              have hb1s := (hb1.other (a := ⟨G2, t, none⟩) hne (.int .u32 ((2147483648 : Nat) : Int))).other (a := ⟨G2, t, none⟩) hne (.int .u32 ((4294967295 : Nat) : Int))
              have hbes := (hbe.setCell (p := ⟨G2, t, none⟩) hG2 (.int .u32 ((2147483648 : Nat) : Int))).setCell (p := ⟨G2, t, none⟩) hG2 (.int .u32 ((4294967295 : Nat) : Int))
              have hr1 := hb1s.rw haB'
              rw [HAL.out] at hr1
              have hr2 := hs.rw (mem_set_lt (mem_set_lt hqB (by decide) t) (by decide) t)
              rw [List.length_set, List.length_set, HQL.out] at hr2
              refine (limbDivs_walk _ _ _ _ _ _ _ _ _ (by omega) (by omega) hr1 hr2).mono ?_
              rintro e w1 ⟨rfl, hbw⟩
              go_wp2_with fail
              refine (wakes_any _).mono ?_
              rintro e w2 ⟨rfl, hbw2⟩
              go_wp2
              go_ret
              exact ⟨rfl, hbes.trans ((hbw.mono hbes.size).trans (hbw2.mono (Nat.le_trans hbes.size hbw.size)))⟩

end Go.Proofs.Ytaecondhdfknfaa
