/-
  THE WALK OF THE STATEMENT ON SUMS OF ROWS.
-/
import Derived.Test.YtaecondhdfknfaaSa
import Derived.Test.YtaecondhdfknfaaIn
set_option linter.unusedVariables false
set_option linter.unusedSimpArgs false
namespace Go.Proofs.Ytaecondhdfknfaa
open Go.RowKit

theorem Try.infoRow : (Try.prog.info? 22).map (fun i => (i.zero, i.size, i.bytes)) = some (some (.slice none 0 0), 1, 24) := by kernel_rfl

theorem InRows.ext {w w' : World} {ao : Option Addr} {n : Nat} (h : InRows w ao n) (he : Below w.heap.size w w') : InRows w' ao n := by
  intro j hj
  obtain ⟨b, off, a, k, d, xs, h1, h2, h3, h4⟩ := h j hj
  refine ⟨b, off, a, k, d, xs, h1, ?_, h3, h4.ext he⟩
  have hb : b < w.heap.size := by
    simp only [World.cell?] at h2
    split at h2
    · next h0 => exact lt_of_block h0
    · cases h2
  rw [he.cell hb]; exact h2

/-- What an owned row of rows holds, as Sum reads it. -/
theorem rws_of_owns {w0 w : World} {base e K : Nat} {v : Value} {n : Nat} {vs : List Value} {ns : List (List Nat)} (ho : w.ownsRow base e 1 v n vs) (hl : ns.length = n)
    (hv : ∀ (j : Nat) (xs : List Nat), ns[j]? = some xs → ∃ a k d, vs[j]? = some (Value.slice a k d) ∧ k ≤ K ∧ Rw .u32 B32 w0 a k d xs) (hb : Below w0.heap.size w0 w) :
    ∃ ao c, v = .slice ao n c ∧ Rws K w ao n c vs ns := by
  have hvl : vs.length = n := by have := ho.1; omega
  have hval : ∀ (j : Nat) (xs : List Nat), ns[j]? = some xs → ∃ a k d, vs[j]? = some (Value.slice a k d) ∧ k ≤ K ∧ Rw .u32 B32 w a k d xs := by
    intro j xs hj
    obtain ⟨a, k, d, h1, h2, h3⟩ := hv j xs hj
    exact ⟨a, k, d, h1, h2, h3.ext hb⟩
  obtain ⟨_, ⟨rfl, h0⟩ | ⟨g, cap, cur, rfl, hbg, hh, hn, hm, hs, ht⟩⟩ := ho
  · subst h0
    have : vs = [] := List.eq_nil_of_length_eq_zero hvl
    exact ⟨none, 0, rfl, hvl, Nat.le_refl _, hl, Or.inl this, hval⟩
  · refine ⟨_, _, rfl, hvl, hn, hl, Or.inr ⟨g, 0, rfl, fun j hj => ?_⟩, hval⟩
    rw [Nat.zero_add, cell_of_row w g j cur e (0, 0) hh, ← Array.getElem?_toList]
    have h1 : (cur.toList.take (n * 1))[j]? = some vs[j] := by rw [ht]; exact List.getElem?_eq_getElem hj
    rw [List.getElem?_take] at h1
    rwa [if_pos (by omega)] at h1

theorem owns_ext {w w' : World} {base e : Nat} {v : Value} {n : Nat} {vs : List Value} (h : w.ownsRow base e 1 v n vs) (hb : Below w.heap.size w w') : w'.ownsRow base e 1 v n vs := by
  obtain ⟨h1, ⟨rfl, h0⟩ | ⟨g, cap, cur, rfl, hbg, hh, hn, hm, hs, ht⟩⟩ := h
  · exact ⟨h1, .inl ⟨rfl, h0⟩⟩
  · exact ⟨h1, .inr ⟨g, cap, cur, rfl, hbg, by rw [hb.block g (lt_of_block hh)]; exact hh, hn, hm, hs, ht⟩⟩

theorem snoc_reads {w : World} {K : Nat} {vs : List Value} {ns : List (List Nat)} {n : Nat} (hvl : vs.length = n) (hl : ns.length = n)
    (hv : ∀ (j : Nat) (xs : List Nat), ns[j]? = some xs → ∃ a k d, vs[j]? = some (Value.slice a k d) ∧ k ≤ K ∧ Rw .u32 B32 w a k d xs)
    {a : Option Addr} {k d : Nat} {ys : List Nat} (hk : k ≤ K) (hr : Rw .u32 B32 w a k d ys) :
    ∀ (j : Nat) (xs : List Nat), (ns ++ [ys])[j]? = some xs → ∃ a' k' d', (vs ++ [Value.slice a k d])[j]? = some (Value.slice a' k' d') ∧ k' ≤ K ∧ Rw .u32 B32 w a' k' d' xs := by
  intro j xs hj
  by_cases h : j < n
  · rw [List.getElem?_append_left (by omega)] at hj ⊢
    exact hv j xs hj
  · rw [List.getElem?_append_right (by omega)] at hj ⊢
    obtain ⟨i, hi⟩ : ∃ i, i = j - ns.length := ⟨_, rfl⟩
    have hi2 : j - vs.length = i := by omega
    rw [← hi] at hj
    rw [hi2]
    match i, hj with
    | 0, hj => cases hj; exact ⟨_, _, _, rfl, hk, hr⟩
    | _ + 1, hj => cases hj

theorem sumV_snoc (ns : List (List Nat)) (xs : List Nat) : sumV (ns ++ [xs]) = sumV ns + val xs := by simp [sumV]

set_option maxHeartbeats 2000000 in
theorem limbSums_walk (ao : Option Addr) (n c : Nat) (w : World) (hn : n ≤ 9223372036854775807) (hnc : n ≤ c) (hr : InRows w ao n) :
    Calls Try.prog 8 #[.slice ao n c] w fun e w' => e = .returned (.bool true) ∧ Below w.heap.size w w' := by
  go_enter Try.func8, Try.ntmps8
  go_wp2_with fail
  go_loopw [3, 4, 5] (fun s3 s4 s5 wr => ∃ (i : Nat) (vs : List Value) (ns : List (List Nat)) (base : Nat) (wo : Option Addr) (wn wc : Nat), i ≤ n ∧ i ≤ 12 ∧ s5 = .int .i64 i ∧ s3 = .slice wo wn wc ∧ wn ≤ 40 * i ∧
      Rw .i64 B4 wr wo wn wc (digs4 (sumV ns)) ∧ Own base wr wo wc ∧ (∀ g, s4.ownBlock = some g → g < base) ∧ wr.ownsRow w.heap.size 22 1 s4 i vs ∧ ns.length = i ∧
      (∀ (j : Nat) (xs : List Nat), ns[j]? = some xs → ∃ a k d, vs[j]? = some (Value.slice a k d) ∧ k ≤ 12 ∧ Rw .u32 B32 w a k d xs) ∧ Below w.heap.size w wr) (fun _ _ s5 _ => 12 - (intOf s5).toNat)
  case atStart => exact ⟨0, [], [], 0, none, 0, 0, Nat.zero_le _, by omega, rfl, rfl, by omega, Rw.nil _ _ _, Own.nil _ _ _, (fun g hg => nomatch hg), World.ownsRow_nil _ _ _ _, rfl, (fun j xs h => nomatch h), Below.refl _ _⟩
  case round =>
    obtain ⟨i, vs, ns, base, wo, wn, wc, hi, hi12, rfl, rfl, hwn, hwr, hwo, hblk, hown, hnl, hns, hbe⟩ := hrel
    have HN := hid hns; have HNL := hid hnl; have HBLK := hid hblk; clear hns hnl hblk
    have hbs := hbe.size
    by_cases hin : i < n
    · by_cases h12 : i < 12
      · obtain ⟨b, off, a, k, d, xs, rfl, hcell, hk, hx⟩ := (hr.ext hbe) i hin
        obtain ⟨b', off', a', k', d', xs', he1, hcell0, _, hx0⟩ := hr i hin
        obtain ⟨rfl, rfl⟩ : b = b' ∧ off = off' := by cases he1; exact ⟨rfl, rfl⟩
        have hsame : (Value.slice a k d) = .slice a' k' d' := by
          have hbb : b < w.heap.size := by
            simp only [World.cell?] at hcell0
            split at hcell0
            · next h0 => exact lt_of_block h0
            · cases hcell0
          rw [hbe.cell hbb, hcell0] at hcell
          exact (Option.some.inj hcell).symm
        cases hsame
        clear hx hcell0 he1
        go_wp2_with fail
        refine (row_any _ _ _ 12 _ _ hk (by omega) (hx0.ext hbe)).mono ?_
        rintro e w0 ⟨k1, rfl, hk1, hk1', hrow, rfl⟩
        have hrow0 := hx0.take hk1'
        rw [show xs'.take k1 = xs'.take 12 by
          have h1 := hrow.len
          rw [List.length_take] at h1
          have h2 := hx0.len
          rw [← h1, ← List.take_take, List.take_of_length_le (l := xs') (Nat.le_refl _)]] at hrow0
        obtain ⟨ys, hys⟩ : ∃ ys, ys = xs'.take 12 := ⟨_, rfl⟩
        rw [← hys] at hrow hrow0
        clear hys hx0 hcell
        go_wp2_with (at_builtin; refine Hid.out ?_)
        refine hid ?_
        refine wpList_app _ rfl _ _ 50 rfl w.heap.size 22 (.slice none 0 0) 1 24 Try.underlying50 Try.infoRow rfl (by decide) _ i vs rfl (hown.alloc _) (some ⟨wr.heap.size, 0, none⟩) 1 1 [Value.slice a k1 d] rfl rfl (fun e => nomatch e) (Nat.le_refl _) (cells_new1 _ _ _) (fun u hu => by rw [List.mem_singleton.1 hu]; rfl) (by unfold maxLen; omega) (by omega) (by rw [World.size_alloc]; omega) fun v' w2 hown' hgr hb2 => ?_
        have hb3 : Below w.heap.size w w2 := (hbe.alloc hbs _).trans hb2
        have hw2 := (hwr.ext (alloc_ext wr _)).grown (hwo.ext (alloc_ext wr _)) hgr HBLK.out
        clear hwr hwo hb2 hgr hown
        have hrow2 := hrow0.ext hb3
        go_wp2_with fail
        refine (from_any _ _ _ _ _ (by omega) hrow2).mono ?_
        rintro e w3 ⟨fo, fn, fc, rfl, hf, hfn, hb4⟩
        go_wp2_with fail
        refine (addN_own _ _ _ _ _ _ _ _ _ (by omega) (by omega) (hw2.ext hb4) hf).mono ?_
        rintro e w4 ⟨so, sn, sc, rfl, hs, hso, hsn, hb5⟩
        have hb6 := ext_trans hb3 (ext_trans hb4 hb5)
        have hlt := hown'.lt
        have hbase : ∀ g, v'.ownBlock = some g → g < w3.heap.size := fun g hg => Nat.lt_of_lt_of_le (hlt g hg).2 hb4.size
        have hown4 : w4.ownsRow w.heap.size 22 1 v' (i + 1) (vs ++ [Value.slice a k1 d]) := owns_ext hown' (ext_trans hb4 hb5)
        rw [← sumV_snoc] at hs
        have HB := hid hbase
        clear hbase hlt hown' hb3 hb4 hb5 hw2 hf
        go_wp2
        go_roundw
        case rel =>
          exact ⟨i + 1, _, ns ++ [ys], _, so, sn, sc, by omega, by omega, by go_num, rfl, by omega, hs, hso, HB.out, hown4, by rw [List.length_append, HNL.out]; rfl, snoc_reads (by have := hown4.1; rw [List.length_append] at this; simp at this; omega) HNL.out HN.out hk1 hrow0, hb6⟩
        case measure => simp [intOf]; omega
      · have hd12 : decide (i < 12) = false := decide_eq_false h12
        have hns0 := HN.out
        obtain ⟨ro, rc, rfl, hrw⟩ := rws_of_owns hown HNL.out hns0 hbe
        clear hns0 hown hwo
        go_wp2_with fail
        refine (sum_any _ _ _ 12 vs ns _ (by omega) (by omega) hrw).mono ?_
        rintro e w2 ⟨so, sn, sc, rfl, hs, hsn, hb2⟩
        go_wp2_with fail
        refine (is_any _ _ _ _ _ _ _ _ _ (by omega) (by omega) (hwr.ext hb2) hs).mono ?_
        rintro e w3 ⟨rfl, hb3⟩
        rw [decide_true (rfl : limbs (sumV ns) = limbs (sumV ns))]
        go_wp2_with fail
        refine (wakes_any _).mono ?_
        rintro e w4 ⟨rfl, hb4⟩
        go_wp2
        go_ret
        exact ⟨rfl, ext_trans hbe (ext_trans hb2 (ext_trans hb3 hb4))⟩
    · have hdin : decide (i < n) = false := decide_eq_false hin
      have hns0 := HN.out
      obtain ⟨ro, rc, rfl, hrw⟩ := rws_of_owns hown HNL.out hns0 hbe
      clear hns0 hown hwo
      go_wp2_with fail
      refine (sum_any _ _ _ 12 vs ns _ (by omega) (by omega) hrw).mono ?_
      rintro e w2 ⟨so, sn, sc, rfl, hs, hsn, hb2⟩
      go_wp2_with fail
      refine (is_any _ _ _ _ _ _ _ _ _ (by omega) (by omega) (hwr.ext hb2) hs).mono ?_
      rintro e w3 ⟨rfl, hb3⟩
      rw [decide_true (rfl : limbs (sumV ns) = limbs (sumV ns))]
      go_wp2_with fail
      refine (wakes_any _).mono ?_
      rintro e w4 ⟨rfl, hb4⟩
      go_wp2
      go_ret
      exact ⟨rfl, ext_trans hbe (ext_trans hb2 (ext_trans hb3 hb4))⟩

end Go.Proofs.Ytaecondhdfknfaa
