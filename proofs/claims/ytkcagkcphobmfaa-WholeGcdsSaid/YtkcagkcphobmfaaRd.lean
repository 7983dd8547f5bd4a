/-
  WALKS: the plain reckoning: AddN, PowN.
-/
import Derived.Test.YtkcagkcphobmfaaRb
set_option linter.unusedVariables false
set_option linter.unusedSimpArgs false
namespace Go.Proofs.Ytkcagkcphobmfaa
open Go.RowKit

theorem addN_step {B k c x y P Q P' Q' : Nat} {os : List Nat} (hl : os.length = k) (hv : valB B os + B ^ k * c = P + Q) (hx : P' = P + B ^ k * x) (hy : Q' = Q + B ^ k * y) :
    valB B (os ++ [(c + x + y) % B]) + B ^ (k + 1) * ((c + x + y) / B) = P' + Q' := by
  have h2 := pow_step B k (c + x + y)
  rw [valB_snoc, hl, hx, hy]
  rw [Nat.mul_add, Nat.mul_add] at h2
  omega

/-- Digits as many as the number's own are the number's own. -/
theorem digs4_full {os : List Nat} {V : Nat} (h : ∀ x ∈ os, x < B4) (hv : valB B4 os = V) (hl : os.length ≤ (digs4 V).length) : os = digs4 V := by
  have h1 := cut_digs4 os h
  have h2 : cutN os os.length = (digs4 (val4 os)).length := cutN_length B4_two os h
  have h3 : val4 os = V := hv
  rw [h3] at h1 h2
  rw [List.take_of_length_le (by rw [h2]; exact hl)] at h1
  exact h1

theorem digs4_long {n k : Nat} (h : B4 ^ k ≤ n) : k + 1 ≤ (digs4 n).length := digs_length_ge B4_two h

set_option maxHeartbeats 2000000 in
/-- AddN: the sum. -/
theorem addN_own (ao bo : Option Addr) (n cp m d M N : Nat) (w : World) (hn : n ≤ 1073741824) (hm : m ≤ 1073741824) (hr : Rw .i64 B4 w ao n cp (digs4 M)) (hs : Rw .i64 B4 w bo m d (digs4 N)) :
    Calls Try.prog 69 #[.slice ao n cp, .slice bo m d] w fun e w' => ∃ ro k c', e = .returned (.slice ro k c') ∧ Rw .i64 B4 w' ro k c' (digs4 (M + N)) ∧ Own w.heap.size w' ro c' ∧ k ≤ n + m + 1 ∧ Below w.heap.size w w' := by
  obtain ⟨xs, hxs⟩ : ∃ xs, xs = digs4 M := ⟨_, rfl⟩
  obtain ⟨ys, hys⟩ : ∃ ys, ys = digs4 N := ⟨_, rfl⟩
  rw [← hxs] at hr
  rw [← hys] at hs
  have hl1 := hr.len
  have hl2 := hs.len
  have HX := hid hxs; have HY := hid hys; have HL1 := hid hl1; have HL2 := hid hl2
  clear hxs hys hl1 hl2
  obtain ⟨mx, hmx⟩ : ∃ mx, mx = max n m := ⟨_, rfl⟩
  have hmx1 : n ≤ mx := by omega
  have hmx2 : m ≤ mx := by omega
  have hmx3 : mx ≤ n + m := by omega
  have HMX := hid hmx; clear hmx
  go_enter Try.func69, Try.ntmps69
  go_wp2_with fail
  go_loopw [5, 6, 7] (fun s5 s6 s7 wr => ∃ (k c : Nat) (os : List Nat), s7 = .int .i64 k ∧ s6 = .int .i64 c ∧ c ≤ 1 ∧ k + c ≤ mx + 1 ∧ os.length = k ∧ (∀ o ∈ os, o < B4) ∧ wr.ownsRow w.heap.size 3 1 s5 k (ints .i64 os) ∧ Below w.heap.size w wr ∧
      valB B4 os + B4 ^ k * c = valB B4 (xs.take k) + valB B4 (ys.take k) ∧ (k = mx + 1 → B4 ^ (k - 1) ≤ valB B4 os)) (fun _ _ s7 _ => mx + 1 - (intOf s7).toNat)
  case atStart => exact ⟨0, 0, [], rfl, rfl, by omega, by omega, rfl, by simp, World.ownsRow_nil _ _ _ _, Below.refl _ _, by simp [valB], fun h => by omega⟩
  case round =>
    obtain ⟨k, c, os, rfl, rfl, hcB, hkc, hol, hoB, hown, hb, hv, htop⟩ := hrel
    have HV := hid hv; have HOL := hid hol; have HT := hid htop; clear hv hol htop
    have hbs := hb.size
    by_cases hkn : k < n
    · obtain ⟨b1, off1, x, rfl, hx, hxB, hcx⟩ := (hr.ext hb).at hkn
      have hx' : x ≤ 9999 := by have : x < 10000 := hxB; omega
      have Hx := hid hx; clear hx hxB
      by_cases hkm : k < m
      · obtain ⟨b2, off2, y, rfl, hy, hyB, hcy⟩ := (hs.ext hb).at hkm
        have hy' : y ≤ 9999 := by have : y < 10000 := hyB; omega
        have Hy := hid hy; clear hy hyB
        go_wp2_with (at_builtin; refine Hid.out ?_)
        refine hid ?_
        refine wpList_app _ rfl _ _ 26 rfl w.heap.size 3 (.int .i64 0) 1 8 Try.underlying26 Try.infoInt rfl (by decide) u5 k (ints .i64 os) rfl (hown.alloc _) (some ⟨wr.heap.size, 0, none⟩) 1 1 [Value.int .i64 (((c : Int) + (x : Int) + (y : Int)) % 10000)] rfl rfl (fun e => nomatch e) (Nat.le_refl _) (cells_new1 _ _ _) (one_int _ _) (by unfold maxLen; omega) (by omega) (by rw [World.size_alloc]; omega) fun v' w2 hown' _ hb2 => ?_
        have hb3 : Below w.heap.size w w2 := (hb.alloc hbs _).trans hb2
        have e0 : ((c + x + y : Nat) : Int) = ((c : Int) + (x : Int) + (y : Int)) := by simp
        have e1 : ((c : Int) + (x : Int) + (y : Int)) % 10000 = (((c + x + y) % 10000 : Nat) : Int) := by rw [← e0]; rfl
        rw [e1, ints_snoc] at hown'
        have E0 := hid e0; clear e0 e1 hown
        go_wp2
        go_roundw
        case rel =>
          refine ⟨k + 1, (c + x + y) / 10000, os ++ [(c + x + y) % 10000], by go_num, by rw [← E0.out]; rfl, by omega, by omega, by rw [List.length_append, HOL.out]; rfl, mem_snoc_lt hoB (Nat.mod_lt _ (by decide)), hown', hb3, ?_, ?_⟩
          · exact addN_step HOL.out HV.out (valB_take_some _ Hx.out) (valB_take_some _ Hy.out)
          · intro h; exact absurd h (by omega)
        case measure => simp only [intOf]; omega
      · have hny : valB B4 (ys.take (k + 1)) = valB B4 (ys.take k) := valB_take_none _ (by rw [HL2.out]; omega)
        have HNY := hid hny; clear hny
        go_wp2_with (at_builtin; refine Hid.out ?_)
        refine hid ?_
        refine wpList_app _ rfl _ _ 26 rfl w.heap.size 3 (.int .i64 0) 1 8 Try.underlying26 Try.infoInt rfl (by decide) u5 k (ints .i64 os) rfl (hown.alloc _) (some ⟨wr.heap.size, 0, none⟩) 1 1 [Value.int .i64 (((c : Int) + (x : Int)) % 10000)] rfl rfl (fun e => nomatch e) (Nat.le_refl _) (cells_new1 _ _ _) (one_int _ _) (by unfold maxLen; omega) (by omega) (by rw [World.size_alloc]; omega) fun v' w2 hown' _ hb2 => ?_
        have hb3 : Below w.heap.size w w2 := (hb.alloc hbs _).trans hb2
        have e0 : ((c + x + 0 : Nat) : Int) = ((c : Int) + (x : Int)) := by simp
        have e1 : ((c : Int) + (x : Int)) % 10000 = (((c + x + 0) % 10000 : Nat) : Int) := by rw [← e0]; rfl
        rw [e1, ints_snoc] at hown'
        have E0 := hid e0; clear e0 e1 hown
        go_wp2
        go_roundw
        case rel =>
          refine ⟨k + 1, (c + x + 0) / 10000, os ++ [(c + x + 0) % 10000], by go_num, by rw [← E0.out]; rfl, by omega, by omega, by rw [List.length_append, HOL.out]; rfl, mem_snoc_lt hoB (Nat.mod_lt _ (by decide)), hown', hb3, ?_, ?_⟩
          · exact addN_step HOL.out HV.out (valB_take_some _ Hx.out) (by rw [HNY.out]; simp)
          · intro h; exact absurd h (by omega)
        case measure => simp only [intOf]; omega
    · have hnx : valB B4 (xs.take (k + 1)) = valB B4 (xs.take k) := valB_take_none _ (by rw [HL1.out]; omega)
      have HNX := hid hnx; clear hnx
      by_cases hkm : k < m
      · obtain ⟨b2, off2, y, rfl, hy, hyB, hcy⟩ := (hs.ext hb).at hkm
        have hy' : y ≤ 9999 := by have : y < 10000 := hyB; omega
        have Hy := hid hy; clear hy hyB
        go_wp2_with (at_builtin; refine Hid.out ?_)
        refine hid ?_
        refine wpList_app _ rfl _ _ 26 rfl w.heap.size 3 (.int .i64 0) 1 8 Try.underlying26 Try.infoInt rfl (by decide) u5 k (ints .i64 os) rfl (hown.alloc _) (some ⟨wr.heap.size, 0, none⟩) 1 1 [Value.int .i64 (((c : Int) + (y : Int)) % 10000)] rfl rfl (fun e => nomatch e) (Nat.le_refl _) (cells_new1 _ _ _) (one_int _ _) (by unfold maxLen; omega) (by omega) (by rw [World.size_alloc]; omega) fun v' w2 hown' _ hb2 => ?_
        have hb3 : Below w.heap.size w w2 := (hb.alloc hbs _).trans hb2
        have e0 : ((c + 0 + y : Nat) : Int) = ((c : Int) + (y : Int)) := by simp
        have e1 : ((c : Int) + (y : Int)) % 10000 = (((c + 0 + y) % 10000 : Nat) : Int) := by rw [← e0]; rfl
        rw [e1, ints_snoc] at hown'
        have E0 := hid e0; clear e0 e1 hown
        go_wp2
        go_roundw
        case rel =>
          refine ⟨k + 1, (c + 0 + y) / 10000, os ++ [(c + 0 + y) % 10000], by go_num, by rw [← E0.out]; rfl, by omega, by omega, by rw [List.length_append, HOL.out]; rfl, mem_snoc_lt hoB (Nat.mod_lt _ (by decide)), hown', hb3, ?_, ?_⟩
          · exact addN_step HOL.out HV.out (by rw [HNX.out]; simp) (valB_take_some _ Hy.out)
          · intro h; exact absurd h (by omega)
        case measure => simp only [intOf]; omega
      · have hny : valB B4 (ys.take (k + 1)) = valB B4 (ys.take k) := valB_take_none _ (by rw [HL2.out]; omega)
        have HNY := hid hny; clear hny
        by_cases hc0 : 0 < c
        · have hdn : decide (k < n) = false := by rw [decide_eq_false_iff_not]; omega
          have hdm : decide (k < m) = false := by rw [decide_eq_false_iff_not]; omega
          go_wp2_with (at_builtin; refine Hid.out ?_)
          refine hid ?_
          refine wpList_app _ rfl _ _ 26 rfl w.heap.size 3 (.int .i64 0) 1 8 Try.underlying26 Try.infoInt rfl (by decide) u5 k (ints .i64 os) rfl (hown.alloc _) (some ⟨wr.heap.size, 0, none⟩) 1 1 [Value.int .i64 ((c : Int) % 10000)] rfl rfl (fun e => nomatch e) (Nat.le_refl _) (cells_new1 _ _ _) (one_int _ _) (by unfold maxLen; omega) (by omega) (by rw [World.size_alloc]; omega) fun v' w2 hown' _ hb2 => ?_
          have hb3 : Below w.heap.size w w2 := (hb.alloc hbs _).trans hb2
          have e0 : ((c + 0 + 0 : Nat) : Int) = (c : Int) := by simp
          have e1 : (c : Int) % 10000 = (((c + 0 + 0) % 10000 : Nat) : Int) := by rw [← e0]; rfl
          rw [e1, ints_snoc] at hown'
          have E0 := hid e0; clear e0 e1 hown
          go_wp2
          go_roundw
          case rel =>
            refine ⟨k + 1, (c + 0 + 0) / 10000, os ++ [(c + 0 + 0) % 10000], by go_num, by rw [← E0.out]; rfl, by omega, by omega, by rw [List.length_append, HOL.out]; rfl, mem_snoc_lt hoB (Nat.mod_lt _ (by decide)), hown', hb3, ?_, ?_⟩
            · exact addN_step HOL.out HV.out (by rw [HNX.out]; simp) (by rw [HNY.out]; simp)
            · intro h; rw [valB_snoc, HOL.out]; rw [show c + 0 + 0 = c from rfl, Nat.mod_eq_of_lt (show c < 10000 by omega)]; have := Nat.mul_le_mul_left (B4 ^ k) (show 1 ≤ c by omega); rw [Nat.mul_one] at this; simp only [Nat.add_sub_cancel]; omega
          case measure => simp only [intOf]; omega
        · obtain rfl : c = 0 := by omega
          have hmxk : mx ≤ k := by have := HMX.out; omega
          have hval : valB B4 os = M + N := by
            have h := HV.out
            rw [List.take_of_length_le (l := xs) (by rw [HL1.out]; omega), List.take_of_length_le (l := ys) (by rw [HL2.out]; omega), HX.out, HY.out] at h
            have h1 := val4_digs4 M
            have h2 := val4_digs4 N
            unfold val4 at h1 h2
            omega
          have hfull : os = digs4 (M + N) := by
            refine digs4_full hoB hval ?_
            rw [HOL.out]
            by_cases hk1 : k = mx + 1
            · have h1 := HT.out hk1
              rw [hval] at h1
              have := digs4_long h1
              omega
            · have h1 := digs4_mono (show M ≤ M + N by omega)
              have h2 := digs4_mono (show N ≤ M + N by omega)
              rw [← HX.out, HL1.out] at h1
              rw [← HY.out, HL2.out] at h2
              have := HMX.out
              omega
          obtain ⟨ao', c', hu, h1, h2⟩ := own_of_ownsRow (k := .i64) (B := B4) (by rw [HOL.out]; exact hown) hoB
          rw [HOL.out] at h1 hu
          rw [hfull] at h1
          subst hu
          clear hval hfull
          go_wp2
          go_ret
          exact ⟨_, _, _, rfl, h1, h2, by omega, hb⟩

theorem addN_any (ao bo : Option Addr) (n cp m d M N : Nat) (w : World) (hn : n ≤ 1073741824) (hm : m ≤ 1073741824) (hr : Rw .i64 B4 w ao n cp (digs4 M)) (hs : Rw .i64 B4 w bo m d (digs4 N)) :
    Calls Try.prog 69 #[.slice ao n cp, .slice bo m d] w fun e w' => ∃ ro k c', e = .returned (.slice ro k c') ∧ Rw .i64 B4 w' ro k c' (digs4 (M + N)) ∧ k ≤ n + m + 1 ∧ Below w.heap.size w w' :=
  (addN_own ao bo n cp m d M N w hn hm hr hs).mono fun e w' ⟨ro, k, c', he, h1, _, h3, h4⟩ => ⟨ro, k, c', he, h1, h3, h4⟩

set_option maxHeartbeats 1000000 in
/-- PowN: a power of two. -/
theorem powN_own (n : Nat) (w : World) (hn : n ≤ 1000000) :
    Calls Try.prog 29 #[.int .i64 (n : Int)] w fun e w' => ∃ ro k c', e = .returned (.slice ro k c') ∧ Rw .i64 B4 w' ro k c' (digs4 (2 ^ n)) ∧ k ≤ n + 1 ∧ Own w.heap.size w' ro c' ∧ Below w.heap.size w w' := by
  go_enter Try.func29, Try.ntmps29
  go_wp2_with fail
  have hstart := (Blk.new w 3 (ints .i64 [1])).rw (B := B4) (by intro y hy; rw [List.mem_singleton.1 hy]; decide)
  have hstown := (Blk.new w 3 (ints .i64 [1])).own (base := w.heap.size) (n := 1) (Nat.le_refl _) (by simp [ints])
  go_loopw [3, 4] (fun s3 s4 wr => ∃ (k rn rc : Nat) (ro : Option Addr), k ≤ n ∧ s4 = .int .i64 k ∧ s3 = .slice ro rn rc ∧ Rw .i64 B4 wr ro rn rc (digs4 (2 ^ k)) ∧ Own w.heap.size wr ro rc ∧ Below w.heap.size w wr) (fun _ s4 _ => n - (intOf s4).toNat)
  case atStart => exact ⟨0, 1, 1, _, Nat.zero_le _, rfl, rfl, hstart, hstown, (Below.refl _ _).alloc (Nat.le_refl _) _⟩
  case round =>
    obtain ⟨k, rn, rc, ro, hk, rfl, rfl, hrow, hown, hb⟩ := hrel
    clear hstart hstown
    have hlen : rn ≤ k + 1 := by
      have h := digs4_le (k := k + 1) (Nat.lt_of_lt_of_le (Nat.pow_lt_pow_right (by decide) (Nat.lt_succ_self k)) (Nat.pow_le_pow_left (show 2 ≤ B4 by decide) (k + 1)))
      rw [hrow.len] at h; exact h
    by_cases hkn : k < n
    · go_wp2_with fail
      refine (mulAdd_own _ _ _ 2 0 _ _ (by omega) (by omega) (by omega) hrow).mono ?_
      rintro e w1 ⟨ro2, k2, c2, rfl, h2, hown2, hb2⟩
      have hown3 := hown2.mono hb.size
      have e2 : val4 (digs4 (2 ^ k)) * 2 + 0 = 2 ^ (k + 1) := by rw [val4_digs4, Nat.pow_succ]; rfl
      rw [e2] at h2
      have hb3 := ext_trans hb hb2
      clear e2 hb2 hrow hown hown2
      go_wp2
      go_roundw
      case rel => exact ⟨k + 1, k2, c2, ro2, by omega, by go_num, rfl, h2, hown3, hb3⟩
      case measure => simp [intOf]; omega
    · obtain rfl : k = n := by omega
      go_wp2
      go_ret
      exact ⟨_, _, _, rfl, hrow, hlen, hown, hb⟩

theorem powN_any (n : Nat) (w : World) (hn : n ≤ 1000000) :
    Calls Try.prog 29 #[.int .i64 (n : Int)] w fun e w' => ∃ ro k c', e = .returned (.slice ro k c') ∧ Rw .i64 B4 w' ro k c' (digs4 (2 ^ n)) ∧ k ≤ n + 1 ∧ Below w.heap.size w w' :=
  (powN_own n w hn).mono fun e w' ⟨ro, k, c', he, h1, hk, _, h2⟩ => ⟨ro, k, c', he, h1, hk, h2⟩

end Go.Proofs.Ytkcagkcphobmfaa
