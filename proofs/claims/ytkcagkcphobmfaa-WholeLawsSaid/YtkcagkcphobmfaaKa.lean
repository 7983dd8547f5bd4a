/-
  WALKS: the statements' helps on rows: Row, Lend, Intact, Spoil, Within, Copy, Same.
-/
import Derived.Test.YtkcagkcphobmfaaLa
import Derived.Deep.DeepCutAuto
set_option linter.unusedVariables false
set_option linter.unusedSimpArgs false
namespace Go.Proofs.Ytkcagkcphobmfaa
open Go.RowKit

/-- Row: the first k limbs at most. -/
theorem row_any (ao : Option Addr) (n c k : Nat) (xs : List Nat) (w : World) (hn : n ≤ 9223372036854775807) (hk : k ≤ 1000000) (hr : Rw .u32 B32 w ao n c xs) :
    Calls Try.prog 73 #[.slice ao n c, .int .i64 (k : Int)] w fun e w' => ∃ m, e = .returned (.slice ao m c) ∧ m ≤ k ∧ m ≤ n ∧ Rw .u32 B32 w ao m c (xs.take k) ∧ w = w' := by
  have hlc := hr.le
  by_cases h : n ≤ k
  · go_enter Try.func73, Try.ntmps73
    go_wp2
    go_ret
    exact ⟨_, rfl, h, Nat.le_refl _, by rw [List.take_of_length_le (by rw [hr.len]; exact h)]; exact hr, rfl⟩
  · have hkc : k ≤ c := by omega
    go_enter Try.func73, Try.ntmps73
    go_wp2
    go_ret
    exact ⟨_, rfl, Nat.le_refl _, by omega, hr.take (by omega), rfl⟩

/-- What a lent row has behind it. -/
def lent : List Nat := [1431655765, 1431655765, 1431655765]

theorem lent_lt : ∀ x ∈ lent, x < B32 := by decide

set_option maxHeartbeats 1000000 in
/-- Lend: a row in new memory with room behind it, which has limbs of its own. -/
theorem lend_any (ao : Option Addr) (n c : Nat) (xs : List Nat) (w : World) (hn : n ≤ 1000000) (hr : Rw .u32 B32 w ao n c xs) :
    Calls Try.prog 38 #[.slice ao n c] w fun e w' => ∃ G, e = .returned (.slice (some ⟨G, 0, none⟩) n (n + 3)) ∧ w.heap.size ≤ G ∧ Blk w' G 68 (ints .u32 (xs ++ lent)) ∧ Below w.heap.size w w' := by
  have hlen := hr.len
  have HLEN := hid hlen; clear hlen
  go_enter Try.func38, Try.ntmps38
  go_wp2_with (at_make; refine Hid.out ?_)
  refine hid ?_
  refine wpList_mk2 _ rfl _ _ 22 rfl 68 (.int .u32 0) 4 Try.underlying22 Try.infoU32 rfl .i64 .i64 _ _ n (n + 3) rfl rfl (by omega) (by omega) (by omega) (by omega) (by unfold maxLen; omega) fun w2 hblk hbelow hlt => ?_
  obtain ⟨G, hG⟩ : ∃ G, G = w.heap.size := ⟨_, rfl⟩
  rw [← hG] at hblk hlt hbelow ⊢
  have HG := hid hG; clear hG
  rw [← ints_replicate] at hblk
  have hr2 := hr.ext (by rw [← HG.out]; exact hbelow)
  go_wp2_with (with_reducible refine Hid.out (p := wpList _ _ _ ({ dst := some 14, op := _, type := _, pos := _, after := _, guard := _ } :: _) _ _) ?_)
  refine hid ?_
  refine wpList_cp rfl _ _ 22 22 rfl 68 Try.underlying22 Try.sizeU32 G 0 n (n + 3) ao n c rfl rfl _ 68 hblk (ints .u32 xs) ?_ hr2.cells ?_ (ints_one _ _) G (Nat.le_refl _) fun w3 hblk3 hb3 => ?_
  · rw [ints_length, HLEN.out]; exact (Nat.min_self n).symm
  · rw [ints_length, ints_length, HLEN.out]; simp
  have hsp : splice (ints .u32 (List.replicate (n + 3) 0)) 0 (ints .u32 xs) = ints .u32 (xs ++ List.replicate 3 0) := by
    simp [splice, ints, HLEN.out]
  rw [hsp] at hblk3
  have hb13 := hbelow.trans hb3
  clear hblk hbelow hsp hb3 hr hr2
  go_wp2_with fail
  go_loopw [5] (fun s5 wr => ∃ (k : Nat), k ≤ 3 ∧ s5 = .int .i64 ((n + k : Nat) : Int) ∧ Blk wr G 68 (ints .u32 (xs ++ (lent.take k ++ List.replicate (3 - k) 0))) ∧ Below G w wr) (fun s5 _ => n + 3 - (intOf s5).toNat)
  case atStart => exact ⟨0, by omega, rfl, hblk3, hb13⟩
  case round =>
    obtain ⟨k, hk, rfl, hb, hbe⟩ := hrel
    clear hblk3 hb13
    by_cases hk3 : k < 3
    · have hlen : (ints .u32 (xs ++ (lent.take k ++ List.replicate (3 - k) 0))).length = n + 3 := by
        rw [ints_length, List.length_append, List.length_append, HLEN.out, List.length_take, List.length_replicate]; simp [lent]; omega
      obtain ⟨u, hcell⟩ := hb.ex (n + k) hlen (by omega)
      have hfree := hb.free (n + k)
      have hb0 := hb.lt
      clear hlen
      go_wp2
      go_roundw
      case rel =>
        refine ⟨k + 1, by omega, by go_num, ?_, hbe.setCell (Nat.le_refl _) _⟩
        have hv := hb.set (n + k) (.int .u32 ((1431655765 : Nat) : Int))
        rw [ints_set, List.set_append_right _ _ (by rw [HLEN.out]; omega), HLEN.out, Nat.add_sub_cancel_left] at hv
        have e : (lent.take k ++ List.replicate (3 - k) 0).set k 1431655765 = lent.take (k + 1) ++ List.replicate (3 - (k + 1)) 0 := by
          have : k = 0 ∨ k = 1 ∨ k = 2 := by omega
          rcases this with rfl | rfl | rfl <;> rfl
        rw [e] at hv
        exact hv
      case measure => simp [intOf]; omega
    · obtain rfl : k = 3 := by omega
      go_wp2
      go_ret
      exact ⟨G, rfl, by rw [HG.out]; exact Nat.le_refl _, hb, by rw [← HG.out]; exact hbe⟩

set_option maxHeartbeats 1000000 in
/-- Spoil: writes into the call's own memory alone, and below T, where the row lies. -/
theorem spoil_any (ao : Option Addr) (n c base : Nat) (w : World) (hn : n ≤ c) (ho : Own base w ao c) (T : Nat) (hT : ∀ x, c ≠ 0 → ao = some x → x.block < T) :
    Calls Try.prog 45 #[.slice ao n c] w fun e w' => e = .returned (.tuple #[]) ∧ Below base w w' ∧ (∀ B ao' c', Own B w ao' c' → Own B w' ao' c') ∧ ∀ k, T ≤ k → w'.heap[k]? = w.heap[k]? := by
  have hc := ho.le
  have Ho := hid ho; clear ho
  go_enter Try.func45, Try.ntmps45
  go_wp2_with fail
  go_loopw [10] (fun s10 wr => ∃ k : Nat, k ≤ c ∧ s10 = .int .i64 k ∧ Own base wr ao c ∧ Below base w wr ∧ (∀ B ao' c', Own B w ao' c' → Own B wr ao' c') ∧ ∀ k, T ≤ k → wr.heap[k]? = w.heap[k]?) (fun s10 _ => c - (intOf s10).toNat)
  case atStart => exact ⟨0, Nat.zero_le _, rfl, Ho.out, Below.refl _ _, fun _ _ _ h => h, fun _ _ => rfl⟩
  case round =>
    obtain ⟨k, hk, rfl, ho, hbe, hall, hkeep⟩ := hrel
    by_cases hkc : k < c
    · rcases ho with ho | ⟨b, off, cs, e, rfl, hb, hh, hs, _⟩
      · omega
      · have hcell : wr.cell? ⟨b, off + k, none⟩ = some (cs[off + k]'(by omega)) := by
          rw [cell_of_row wr b (off + k) cs e (0, 0) hh]; exact Array.getElem?_eq_getElem (by omega)
        have hfree := frozen_of_row wr b (off + k) cs e hh
        have hb0 := lt_of_block hh
        have hbT : b < T := hT _ (by omega) rfl
        obtain ⟨u, hu⟩ : ∃ u, u = cs[off + k]'(by omega) := ⟨_, rfl⟩
        rw [← hu] at hcell
        have HH := hid hh; have HS := hid hs; have HA := hid hall; have HK := hid hkeep
        clear hh hs hu hall hkeep
        go_wp2
        go_roundw
        case rel =>
          refine ⟨k + 1, by omega, by go_num, Or.inr ⟨b, off, _, e, rfl, hb, heap_setCell_same wr b (off + k) cs e _ HH.out, ?_, hc⟩, hbe.setCell hb _, fun B ao' c' h => (HA.out B ao' c' h).set, fun j hj => ?_⟩
          · rw [Array.size_setIfInBounds]; exact HS.out
          · rw [heap_setCell_other _ _ _ _ (fun h => by have h' : j = b := h; omega)]; exact HK.out j hj
        case measure => simp [intOf]; omega
    · go_wp2
      go_end0
      exact ⟨rfl, hbe, hall, hkeep⟩

/-- Within: any number as one from 0 to n - 1. -/
theorem within_any (v : Int) (n : Nat) (w : World) (hn : 1 ≤ n) (hn2 : n ≤ 1000000) (hv1 : -9223372036854775808 ≤ v) (hv2 : v ≤ 9223372036854775807) :
    Calls Try.prog 31 #[.int .i64 v, .int .i64 (n : Int)] w fun e w' => e = .returned (.int .i64 (v % (n : Int))) ∧ w = w' := by
  have hn0 : ((n : Int) == 0) = false := by rw [beq_eq_false_iff_ne]; omega
  obtain ⟨t, ht⟩ : ∃ t, t = v.tmod (n : Int) := ⟨_, rfl⟩
  have hte : v.tmod (n : Int) = t := ht.symm
  have hb1 : -(n : Int) < t ∧ t < n := by
    have h1 := Int.tmod_lt_of_pos v (show (0 : Int) < n by omega)
    have h2 := Int.lt_tmod_of_pos v (show (0 : Int) < n by omega)
    omega
  have hem : v % (n : Int) = if t < 0 then t + n else t := by
    have hv : v = t + n * (v.tdiv n) := by rw [ht]; exact (Int.tmod_add_mul_tdiv v n).symm
    rw [hv, Int.add_mul_emod_self_left]
    split
    · have h3 : t % (n : Int) = (t + n) % (n : Int) := by simp
      rw [h3, Int.emod_eq_of_lt (by omega) (by omega)]
    · rw [Int.emod_eq_of_lt (by omega) (by omega)]
  have HEM := hid hem; clear hem ht
  obtain ⟨hb1, hb2⟩ := hb1
  by_cases ht0 : t < 0
  · have hd : decide (t < 0) = true := by simpa using ht0
    by_cases hv0 : 0 ≤ v
    · exfalso
      have := Int.tmod_nonneg (n : Int) hv0
      omega
    · go_enter Try.func31, Try.ntmps31
      go_wp2
      go_ret
      exact ⟨ret_int (by rw [HEM.out, if_pos (by omega)]), rfl⟩
  · have hd : decide (t < 0) = false := by simpa using ht0
    by_cases hv0 : 0 ≤ v
    · have hvt : v % (n : Int) = t := by rw [← hte, Int.tmod_eq_emod_of_nonneg hv0]
      clear HEM
      go_enter Try.func31, Try.ntmps31
      go_wp2
      go_ret
      exact ⟨rfl, rfl⟩
    · go_enter Try.func31, Try.ntmps31
      go_wp2
      go_ret
      exact ⟨ret_int (by rw [HEM.out, if_neg (by omega)]), rfl⟩

/-- Copy: a row in new memory. -/
theorem copy_any (ao : Option Addr) (n c : Nat) (xs : List Nat) (w : World) (hn : n ≤ 1073741824) (hr : Rw .u32 B32 w ao n c xs) :
    Calls Try.prog 50 #[.slice ao n c] w fun e w' => ∃ ao' c', e = .returned (.slice ao' n c') ∧ Rw .u32 B32 w' ao' n c' xs ∧ Own w.heap.size w' ao' c' ∧ Below w.heap.size w w' := by
  have hl := hr.len
  have HL := hid hl; clear hl
  go_enter Try.func50, Try.ntmps50
  go_wp2_with (at_builtin; refine Hid.out ?_)
  refine hid ?_
  refine wpList_app _ rfl _ _ 22 rfl w.heap.size 68 (.int .u32 0) 1 4 Try.underlying22 Try.infoU32 rfl (by decide) (.slice none 0 0) 0 [] rfl (World.ownsRow_nil _ _ _ _) ao n c (ints .u32 xs) rfl (by rw [ints_length, HL.out]; omega) hr.2.2.1 hr.le hr.cells (ints_one _ _) (by unfold maxLen; omega) (by omega) (Nat.le_refl _) fun v' w1 hown _ hb => ?_
  rw [Nat.zero_add, List.nil_append] at hown
  obtain ⟨ao', c', rfl, h1, h2⟩ := own_of_ownsRow (k := .u32) (B := B32) (by rw [HL.out]; exact hown) hr.lt
  rw [HL.out] at h1 ⊢
  go_wp2
  go_ret
  exact ⟨_, _, rfl, h1, h2, hb⟩

set_option maxHeartbeats 1000000 in
/-- Same: are two rows one? -/
theorem same_any (ao bo : Option Addr) (n c m d : Nat) (xs ys : List Nat) (w : World) (hn : n ≤ 1073741824) (hm : m ≤ 1073741824) (hr : Rw .u32 B32 w ao n c xs) (hs : Rw .u32 B32 w bo m d ys) :
    Calls Try.prog 67 #[.slice ao n c, .slice bo m d] w fun e w' => e = .returned (.bool (decide (xs = ys))) ∧ Below w.heap.size w w' := by
  have hl1 := hr.len
  have hl2 := hs.len
  have HL1 := hid hl1; have HL2 := hid hl2; clear hl1 hl2
  by_cases hne : n = m
  · subst hne
    go_enter Try.func67, Try.ntmps67
    go_wp2_with fail
    go_loopw [5] (fun s5 wr => ∃ k : Nat, k ≤ n ∧ s5 = .int .i64 k ∧ xs.take k = ys.take k ∧ Below w.heap.size w wr) (fun s5 _ => n - (intOf s5).toNat)
    case atStart => exact ⟨0, Nat.zero_le _, rfl, rfl, Below.refl _ _⟩
    case round =>
      obtain ⟨k, hk, rfl, ht, hb⟩ := hrel
      have HT := hid ht; clear ht
      by_cases hkn : k < n
      · obtain ⟨b1, off1, x, rfl, hx, hxB, hcx⟩ := (hr.ext hb).at hkn
        obtain ⟨b2, off2, y, rfl, hy, hyB, hcy⟩ := (hs.ext hb).at hkn
        have HX := hid hx; have HY := hid hy; clear hx hy hxB hyB
        by_cases hxy : x = y
        · subst hxy
          go_wp2
          go_quiet (fail)
          go_wp2
          go_roundw
          case rel =>
            refine ⟨k + 1, by omega, by go_num, ?_, ext_drewN hb _⟩
            obtain ⟨h1, e1⟩ := List.getElem?_eq_some_iff.1 HX.out
            obtain ⟨h2, e2⟩ := List.getElem?_eq_some_iff.1 HY.out
            rw [List.take_succ_eq_append_getElem h1, List.take_succ_eq_append_getElem h2, HT.out, e1, e2]
          case measure => simp [intOf]; omega
        · have e1 : ((x : Int) != (y : Int)) = true := by rw [bne_iff_ne]; omega
          have hdec : decide (xs = ys) = false := by
            rw [decide_eq_false_iff_not]
            intro he
            rw [he] at HX
            have := HX.out
            rw [HY.out] at this
            exact hxy (Option.some.inj this).symm
          have HD := hid hdec; clear hdec
          go_wp2
          go_quiet (fail)
          go_wp2
          go_ret
          exact ⟨by rw [HD.out]; rfl, ext_drewN hb _⟩
      · obtain rfl : k = n := by omega
        have hdec : decide (xs = ys) = true := by
          have h := HT.out
          rw [List.take_of_length_le (Nat.le_of_eq HL1.out), List.take_of_length_le (Nat.le_of_eq HL2.out)] at h
          simpa using h
        have HD := hid hdec; clear hdec
        go_wp2
        go_ret
        exact ⟨by rw [HD.out]; rfl, hb⟩
  · have hdec : decide (xs = ys) = false := by
      rw [decide_eq_false_iff_not]
      intro he
      exact hne (by rw [← HL1.out, ← HL2.out, he])
    have HD := hid hdec; clear hdec
    have e1 : ((n : Int) != (m : Int)) = true := by rw [bne_iff_ne]; omega
    go_enter Try.func67, Try.ntmps67
    go_wp2
    go_ret
    exact ⟨by rw [HD.out]; rfl, Below.refl _ _⟩

/-- A lent row, read by itself. -/
theorem lent_rw {w w' : World} {ao : Option Addr} {n c G : Nat} {xs : List Nat} (hr : Rw .u32 B32 w ao n c xs) (hb : Blk w' G 68 (ints .u32 (xs ++ lent))) : Rw .u32 B32 w' (some ⟨G, 0, none⟩) n (n + 3) xs := by
  have h := hb.rw (B := B32) (by
    intro x hx
    rcases List.mem_append.1 hx with hx | hx
    · exact hr.lt x hx
    · exact lent_lt x hx)
  have hl : (xs ++ lent).length = n + 3 := by rw [List.length_append, hr.len]; rfl
  rw [hl] at h
  have h2 := h.take (show n ≤ n + 3 by omega)
  rwa [show (xs ++ lent).take n = xs by rw [← hr.len, List.take_left]] at h2

set_option maxHeartbeats 2000000 in
theorem intact_any (ao : Option Addr) (n c G : Nat) (xs : List Nat) (w : World) (hn : n ≤ 1000000) (hr : Rw .u32 B32 w ao n c xs) (hb : Blk w G 68 (ints .u32 (xs ++ lent))) :
    Calls Try.prog 46 #[.slice (some ⟨G, 0, none⟩) n (n + 3), .slice ao n c] w fun e w' => e = .returned (.bool true) ∧ Below w.heap.size w w' := by
  have hl1 := hr.len
  have hl2 : (xs ++ lent).length = n + 3 := by rw [List.length_append, hl1]; rfl
  have HL1 := hid hl1; have HL2 := hid hl2; clear hl1 hl2
  have hrow : Rw .u32 B32 w (some ⟨G, 0, none⟩) (n + 3) (n + 3) (xs ++ lent) := by
    have h := hb.rw (B := B32) (by
      intro x hx
      rcases List.mem_append.1 hx with hx | hx
      · exact hr.lt x hx
      · exact lent_lt x hx)
    rwa [HL2.out] at h
  go_enter Try.func46, Try.ntmps46
  go_wp2_with fail
  go_loopw [27] (fun s27 wr => ∃ k : Nat, k ≤ n + 3 ∧ s27 = .int .i64 k ∧ Below w.heap.size w wr) (fun s27 _ => n + 3 - (intOf s27).toNat)
  case atStart => exact ⟨0, Nat.zero_le _, rfl, Below.refl _ _⟩
  case round =>
    obtain ⟨k, hk, rfl, hbe⟩ := hrel
    by_cases hkn : k < n + 3
    · obtain ⟨y, hy, hyB, hcy⟩ := (hrow.ext hbe).cell hkn
      rw [Nat.zero_add] at hcy
      by_cases hk2 : k < n
      · obtain ⟨b1, off1, x, rfl, hx, hxB, hcx⟩ := (hr.ext hbe).at hk2
        obtain rfl : x = y := by
          rw [List.getElem?_append_left (by rw [HL1.out]; exact hk2)] at hy
          rw [hy] at hx; exact (Option.some.inj hx).symm
        clear hx hy hxB hyB
        have d1 : decide (k < n) = true := by rw [decide_eq_true_eq]; omega
        have d2 : decide (n ≤ k) = false := by rw [decide_eq_false_iff_not]; omega
        go_wp2
        go_quiet (fail)
        go_wp2
        go_roundw
        case rel => exact ⟨k + 1, by omega, by go_num, ext_drewN hbe _⟩
        case measure => simp [intOf]; omega
      · obtain rfl : y = 1431655765 := by
          rw [List.getElem?_append_right (by rw [HL1.out]; omega), HL1.out] at hy
          have hk3 : k - n = 0 ∨ k - n = 1 ∨ k - n = 2 := by omega
          rcases hk3 with h | h | h <;> (rw [h] at hy; exact (Option.some.inj hy).symm)
        clear hy hyB
        have d1 : decide (k < n) = false := by rw [decide_eq_false_iff_not]; omega
        have d2 : decide (n ≤ k) = true := by rw [decide_eq_true_eq]; omega
        go_wp2
        go_quiet (fail)
        go_wp2
        go_roundw
        case rel => exact ⟨k + 1, by omega, by go_num, ext_drewN hbe _⟩
        case measure => simp [intOf]; omega
    · go_wp2
      go_ret
      exact ⟨rfl, hbe⟩

end Go.Proofs.Ytkcagkcphobmfaa
