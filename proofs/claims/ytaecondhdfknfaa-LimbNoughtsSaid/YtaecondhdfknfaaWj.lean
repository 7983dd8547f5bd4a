/-
  THE WALK OF THE STATEMENT ON NOUGHTS ON TOP.
-/
import Derived.Test.YtaecondhdfknfaaWg
import Derived.Test.YtaecondhdfknfaaAz
set_option linter.unusedVariables false
set_option linter.unusedSimpArgs false
namespace Go.Proofs.Ytaecondhdfknfaa
open Go.RowKit

theorem val_zeros (xs : List Nat) (k : Nat) : val (xs ++ List.replicate k 0) = val xs := valB_append_zeros B32 xs k
theorem zeros_lt {xs : List Nat} (h : ∀ x ∈ xs, x < B32) (k : Nat) : ∀ x ∈ xs ++ List.replicate k 0, x < B32 := by
  intro x hx
  rcases List.mem_append.1 hx with hx | hx
  · exact h x hx
  · rw [(List.mem_replicate.1 hx).2]; decide
theorem int_beq2 (a : Int) : (a == a) = true := by simp
theorem modZ_le (u v : Nat) : modZ u v ≤ u := by
  unfold modZ
  split
  · omega
  · exact Nat.mod_le u v
theorem bool_beq (b : Bool) : (b == b) = true := by cases b <;> rfl

set_option maxHeartbeats 4000000 in
theorem limbNoughts_walk (ao bo : Option Addr) (n c m d : Nat) (z : Int) (xs0 ys0 : List Nat) (w : World) (hn : n ≤ 9223372036854775807) (hm : m ≤ 9223372036854775807) (hz1 : -9223372036854775808 ≤ z) (hz2 : z ≤ 9223372036854775807) (hr0 : Rw .u32 B32 w ao n c xs0) (hs0 : Rw .u32 B32 w bo m d ys0) :
    Calls Try.prog 11 #[.slice ao n c, .slice bo m d, .int .i64 z] w fun e w' => e = .returned (.bool true) ∧ Below w.heap.size w w' := by
  go_enter Try.func11, Try.ntmps11
  go_wp2_with fail
  refine (row_any _ _ _ 12 _ _ hn (by omega) hr0).mono ?_
  rintro e w0 ⟨n1, rfl, hn1, _, hr, rfl⟩
  go_wp2_with fail
  refine (row_any _ _ _ 12 _ _ hm (by omega) hs0).mono ?_
  rintro e w0 ⟨m1, rfl, hm1, _, hs, rfl⟩
  obtain ⟨xs, hxs⟩ : ∃ xs, xs = xs0.take 12 := ⟨_, rfl⟩
  rw [← hxs] at hr
  clear hxs hr0
  obtain ⟨A, AN⟩ : ∃ N, N = val xs := ⟨_, rfl⟩
  have Al : A < B32 ^ 12 := by rw [AN]; exact row_lt hr hn1
  obtain ⟨ys, hxs⟩ : ∃ xs, xs = ys0.take 12 := ⟨_, rfl⟩
  rw [← hxs] at hs
  clear hxs hs0
  obtain ⟨B, BN⟩ : ∃ N, N = val ys := ⟨_, rfl⟩
  have Bl : B < B32 ^ 12 := by rw [BN]; exact row_lt hs hm1
  go_wp2_with fail
  refine (within_any z 4 _ (by omega) (by omega) hz1 hz2).mono ?_
  rintro e w0 ⟨rfl, rfl⟩
  obtain ⟨k, hk, hkb, hck⟩ := clampN_of (K := 4) (v := z % ((4 : Nat) : Int)) (by omega) (by omega) (by omega)
  rw [hk]
  clear hk hck hz1 hz2
  go_wp2_with fail
  refine (copy_owns _ _ _ xs _ (by omega) hr).mono ?_
  rintro e x1 ⟨v, rfl, hown, hb⟩
  have hbs := hb.size
  go_wp2_with (at_builtin; refine Hid.out ?_)
  refine hid ?_
  refine wpList_appz rfl _ _ rfl w.heap.size v n1 k xs rfl rfl hown (by omega) hbs fun v' x2 hown' hb2 => ?_
  have hlx := hr.len
  have hlz : (xs ++ List.replicate k 0).length = n1 + k := by rw [List.length_append, List.length_replicate, hlx]
  obtain ⟨co, cc, rfl, hc, _⟩ := own_of_ownsRow (k := .u32) (B := B32) (by rw [hlz]; exact hown') (zeros_lt hr.lt k)
  rw [hlz] at hc ⊢
  have hb3 := hb.trans hb2
  clear hown hown' hb hb2 hbs hlx hlz
  replace hr := hr.ext hb3
  replace hs := hs.ext hb3
  have hB := hb3
  clear hb3
  go_wp2_with fail
  refine (copy_owns _ _ _ ys _ (by omega) hs).mono ?_
  rintro e x3 ⟨v, rfl, hown, hb⟩
  have hbs := hb.size
  go_wp2_with (at_builtin; refine Hid.out ?_)
  refine hid ?_
  refine wpList_appz rfl _ _ rfl x2.heap.size v m1 2 ys rfl rfl hown (by omega) hbs fun v' x4 hown' hb2 => ?_
  have hlx := hs.len
  have hlz : (ys ++ List.replicate 2 0).length = m1 + 2 := by rw [List.length_append, List.length_replicate, hlx]
  obtain ⟨eo, ec, rfl, hd, _⟩ := own_of_ownsRow (k := .u32) (B := B32) (by rw [hlz]; exact hown') (zeros_lt hs.lt 2)
  rw [hlz] at hd ⊢
  have hb3 := hb.trans hb2
  clear hown hown' hb hb2 hbs hlx hlz
  replace hr := hr.ext hb3
  replace hs := hs.ext hb3
  replace hc := hc.ext hb3
  replace hB := ext_trans hB hb3
  clear hb3
  go_wp2_with fail
  refine (sub_any _ _ _ _ _ _ xs ys _ (by omega) (by omega) hr hs).mono ?_
  rintro e x5 ⟨so, sn, sc, rfl, h1, _, hb⟩
  replace hr := hr.ext hb
  replace hs := hs.ext hb
  replace hc := hc.ext hb
  replace hd := hd.ext hb
  replace hB := ext_trans hB hb
  clear hb
  rw [← AN, ← BN] at h1 ⊢
  have hsn : sn ≤ 12 := by have := len_lt h1 (Nat.lt_of_le_of_lt (Nat.sub_le A B) Al); omega
  generalize hok : decide (B ≤ A) = ok
  have HOK := hid hok; clear hok
  go_wp2_with fail
  refine (sub_any _ _ _ _ _ _ _ _ _ (by omega) (by omega) hc hd).mono ?_
  rintro e x6 ⟨so2, sn2, sc2, rfl, h2, _, hb⟩
  replace hr := hr.ext hb
  replace hs := hs.ext hb
  replace hc := hc.ext hb
  replace hd := hd.ext hb
  replace h1 := h1.ext hb
  replace hB := ext_trans hB hb
  clear hb
  rw [val_zeros, val_zeros, ← AN, ← BN] at h2 ⊢
  have hsn2 : sn2 ≤ 12 := by have := len_lt h2 (Nat.lt_of_le_of_lt (Nat.sub_le A B) Al); omega
  rw [HOK.out]
  clear HOK
  have hok2 := bool_beq ok
  go_wp2_with fail
  refine (divmod_any _ _ _ _ _ _ xs ys _ (by omega) (by omega) hr hs).mono ?_
  rintro e x7 ⟨qo, qn, qc, ro, rn, rc, rfl, h3, _, h4, _, hb⟩
  replace hr := hr.ext hb
  replace hs := hs.ext hb
  replace hc := hc.ext hb
  replace hd := hd.ext hb
  replace h1 := h1.ext hb
  replace h2 := h2.ext hb
  replace hB := ext_trans hB hb
  clear hb
  rw [← AN, ← BN] at h3 h4
  rw [← BN]
  have hqn : qn ≤ 12 := by have := len_lt h3 (Nat.lt_of_le_of_lt (Nat.div_le_self A B) Al); omega
  have hrn : rn ≤ 12 := by have := len_lt h4 (Nat.lt_of_le_of_lt (modZ_le A B) Al); omega
  generalize hde : divErr B = de
  have HDE := hid hde; clear hde
  go_wp2_with fail
  refine (divmod_any _ _ _ _ _ _ _ _ _ (by omega) (by omega) hc hd).mono ?_
  rintro e x8 ⟨qo2, qn2, qc2, ro2, rn2, rc2, rfl, h5, _, h6, _, hb⟩
  replace hr := hr.ext hb
  replace hs := hs.ext hb
  replace hc := hc.ext hb
  replace hd := hd.ext hb
  replace h1 := h1.ext hb
  replace h2 := h2.ext hb
  replace h3 := h3.ext hb
  replace h4 := h4.ext hb
  replace hB := ext_trans hB hb
  clear hb
  rw [val_zeros, val_zeros, ← AN, ← BN] at h5 h6
  rw [val_zeros, ← BN, HDE.out]
  clear HDE
  have hqn2 : qn2 ≤ 12 := by have := len_lt h5 (Nat.lt_of_le_of_lt (Nat.div_le_self A B) Al); omega
  have hrn2 : rn2 ≤ 12 := by have := len_lt h6 (Nat.lt_of_le_of_lt (modZ_le A B) Al); omega
  have hde2 := int_beq2 de
  go_wp2_with fail
  refine (cmp_any _ _ _ _ _ _ xs _ _ (by omega) (by omega) hr hc).mono ?_
  rintro e x9 ⟨rfl, hb⟩
  replace hr := hr.ext hb
  replace hs := hs.ext hb
  replace hc := hc.ext hb
  replace hd := hd.ext hb
  replace h1 := h1.ext hb
  replace h2 := h2.ext hb
  replace h3 := h3.ext hb
  replace h4 := h4.ext hb
  replace h5 := h5.ext hb
  replace h6 := h6.ext hb
  replace hB := ext_trans hB hb
  clear hb
  rw [val_zeros, ← AN, cmpZ_same]
  go_wp2_with fail
  refine (norm_any _ _ _ xs _ (by omega) hr).mono ?_
  rintro e x10 ⟨no, nn, nc, rfl, hnn, h7, _, hb⟩
  replace hr := hr.ext hb
  replace hs := hs.ext hb
  replace hc := hc.ext hb
  replace hd := hd.ext hb
  replace h1 := h1.ext hb
  replace h2 := h2.ext hb
  replace h3 := h3.ext hb
  replace h4 := h4.ext hb
  replace h5 := h5.ext hb
  replace h6 := h6.ext hb
  replace hB := ext_trans hB hb
  clear hb
  rw [← AN] at h7
  go_wp2_with fail
  refine (norm_any _ _ _ _ _ (by omega) hc).mono ?_
  rintro e x11 ⟨no2, nn2, nc2, rfl, hnn2, h8, _, hb⟩
  replace hr := hr.ext hb
  replace hs := hs.ext hb
  replace hc := hc.ext hb
  replace hd := hd.ext hb
  replace h1 := h1.ext hb
  replace h2 := h2.ext hb
  replace h3 := h3.ext hb
  replace h4 := h4.ext hb
  replace h5 := h5.ext hb
  replace h6 := h6.ext hb
  replace h7 := h7.ext hb
  replace hB := ext_trans hB hb
  clear hb
  rw [val_zeros, ← AN] at h8
  go_wp2_with fail
  refine (same_any _ _ _ _ _ _ _ _ _ (by omega) (by omega) h7 h8).mono ?_
  rintro e x12 ⟨rfl, hb⟩
  replace hr := hr.ext hb
  replace hs := hs.ext hb
  replace hc := hc.ext hb
  replace hd := hd.ext hb
  replace h1 := h1.ext hb
  replace h2 := h2.ext hb
  replace h3 := h3.ext hb
  replace h4 := h4.ext hb
  replace h5 := h5.ext hb
  replace h6 := h6.ext hb
  replace h7 := h7.ext hb
  replace h8 := h8.ext hb
  replace hB := ext_trans hB hb
  clear hb
  rw [decide_true (rfl : limbs (A) = limbs (A))]
  clear h7 h8
  go_wp2_with fail
  refine (add_any _ _ _ _ _ _ xs ys _ (by omega) (by omega) hr hs).mono ?_
  rintro e x13 ⟨po, pn, pc, rfl, h9, _, hb⟩
  replace hr := hr.ext hb
  replace hs := hs.ext hb
  replace hc := hc.ext hb
  replace hd := hd.ext hb
  replace h1 := h1.ext hb
  replace h2 := h2.ext hb
  replace h3 := h3.ext hb
  replace h4 := h4.ext hb
  replace h5 := h5.ext hb
  replace h6 := h6.ext hb
  replace hB := ext_trans hB hb
  clear hb
  rw [← AN, ← BN] at h9
  have hpn : pn ≤ 25 := by have := len_lt h9 (sum_lt Al Bl); omega
  go_wp2_with fail
  refine (add_any _ _ _ _ _ _ _ _ _ (by omega) (by omega) hc hd).mono ?_
  rintro e x14 ⟨po2, pn2, pc2, rfl, h10, _, hb⟩
  replace hr := hr.ext hb
  replace hs := hs.ext hb
  replace hc := hc.ext hb
  replace hd := hd.ext hb
  replace h1 := h1.ext hb
  replace h2 := h2.ext hb
  replace h3 := h3.ext hb
  replace h4 := h4.ext hb
  replace h5 := h5.ext hb
  replace h6 := h6.ext hb
  replace h9 := h9.ext hb
  replace hB := ext_trans hB hb
  clear hb
  rw [val_zeros, val_zeros, ← AN, ← BN] at h10
  have hpn2 : pn2 ≤ 25 := by have := len_lt h10 (sum_lt Al Bl); omega
  go_wp2_with fail
  refine (same_any _ _ _ _ _ _ _ _ _ (by omega) (by omega) h9 h10).mono ?_
  rintro e x15 ⟨rfl, hb⟩
  replace hr := hr.ext hb
  replace hs := hs.ext hb
  replace hc := hc.ext hb
  replace hd := hd.ext hb
  replace h1 := h1.ext hb
  replace h2 := h2.ext hb
  replace h3 := h3.ext hb
  replace h4 := h4.ext hb
  replace h5 := h5.ext hb
  replace h6 := h6.ext hb
  replace h9 := h9.ext hb
  replace h10 := h10.ext hb
  replace hB := ext_trans hB hb
  clear hb
  rw [decide_true (rfl : limbs (A + B) = limbs (A + B))]
  clear h9 h10
  go_wp2_with fail
  refine (same_any _ _ _ _ _ _ _ _ _ (by omega) (by omega) h1 h2).mono ?_
  rintro e x16 ⟨rfl, hb⟩
  replace hr := hr.ext hb
  replace hs := hs.ext hb
  replace hc := hc.ext hb
  replace hd := hd.ext hb
  replace h1 := h1.ext hb
  replace h2 := h2.ext hb
  replace h3 := h3.ext hb
  replace h4 := h4.ext hb
  replace h5 := h5.ext hb
  replace h6 := h6.ext hb
  replace hB := ext_trans hB hb
  clear hb
  rw [decide_true (rfl : limbs (A - B) = limbs (A - B))]
  clear h1 h2
  go_wp2_with fail
  refine (mul_any _ _ _ _ _ _ xs ys _ (by omega) (by omega) hr hs).mono ?_
  rintro e x17 ⟨mo, mn, mc, rfl, h11, _, hb⟩
  replace hr := hr.ext hb
  replace hs := hs.ext hb
  replace hc := hc.ext hb
  replace hd := hd.ext hb
  replace h3 := h3.ext hb
  replace h4 := h4.ext hb
  replace h5 := h5.ext hb
  replace h6 := h6.ext hb
  replace hB := ext_trans hB hb
  clear hb
  rw [← AN, ← BN] at h11
  have hmn : mn ≤ 24 := by have := len_lt h11 (prod_lt Al Bl); omega
  go_wp2_with fail
  refine (mul_any _ _ _ _ _ _ _ _ _ (by omega) (by omega) hc hd).mono ?_
  rintro e x18 ⟨mo2, mn2, mc2, rfl, h12, _, hb⟩
  replace hr := hr.ext hb
  replace hs := hs.ext hb
  replace hc := hc.ext hb
  replace hd := hd.ext hb
  replace h3 := h3.ext hb
  replace h4 := h4.ext hb
  replace h5 := h5.ext hb
  replace h6 := h6.ext hb
  replace h11 := h11.ext hb
  replace hB := ext_trans hB hb
  clear hb
  rw [val_zeros, val_zeros, ← AN, ← BN] at h12
  have hmn2 : mn2 ≤ 24 := by have := len_lt h12 (prod_lt Al Bl); omega
  go_wp2_with fail
  refine (same_any _ _ _ _ _ _ _ _ _ (by omega) (by omega) h11 h12).mono ?_
  rintro e x19 ⟨rfl, hb⟩
  replace hr := hr.ext hb
  replace hs := hs.ext hb
  replace hc := hc.ext hb
  replace hd := hd.ext hb
  replace h3 := h3.ext hb
  replace h4 := h4.ext hb
  replace h5 := h5.ext hb
  replace h6 := h6.ext hb
  replace h11 := h11.ext hb
  replace h12 := h12.ext hb
  replace hB := ext_trans hB hb
  clear hb
  rw [decide_true (rfl : limbs (A * B) = limbs (A * B))]
  clear h11 h12
  go_wp2_with fail
  refine (same_any _ _ _ _ _ _ _ _ _ (by omega) (by omega) h3 h5).mono ?_
  rintro e x20 ⟨rfl, hb⟩
  replace hr := hr.ext hb
  replace hs := hs.ext hb
  replace hc := hc.ext hb
  replace hd := hd.ext hb
  replace h3 := h3.ext hb
  replace h4 := h4.ext hb
  replace h5 := h5.ext hb
  replace h6 := h6.ext hb
  replace hB := ext_trans hB hb
  clear hb
  rw [decide_true (rfl : limbs (A / B) = limbs (A / B))]
  clear h3 h5
  go_wp2_with fail
  refine (same_any _ _ _ _ _ _ _ _ _ (by omega) (by omega) h4 h6).mono ?_
  rintro e x21 ⟨rfl, hb⟩
  replace hr := hr.ext hb
  replace hs := hs.ext hb
  replace hc := hc.ext hb
  replace hd := hd.ext hb
  replace h4 := h4.ext hb
  replace h6 := h6.ext hb
  replace hB := ext_trans hB hb
  clear hb
  rw [decide_true (rfl : limbs (modZ A B) = limbs (modZ A B))]
  clear h4 h6
  go_wp2_with fail
  refine (bits_any _ _ _ xs _ (by omega) hr).mono ?_
  rintro e _ ⟨rfl, rfl⟩
  rw [← AN]
  generalize hnb : nbits A = nb
  have HNB := hid hnb; clear hnb
  go_wp2_with fail
  refine (bits_any _ _ _ _ _ (by omega) hc).mono ?_
  rintro e _ ⟨rfl, rfl⟩
  rw [val_zeros, ← AN, HNB.out]
  clear HNB
  have hnb2 := int_beq2 (nb : Int)
  go_wp2_with fail
  refine (wakes_any _).mono ?_
  rintro e x22 ⟨rfl, hb⟩
  replace hr := hr.ext hb
  replace hs := hs.ext hb
  replace hc := hc.ext hb
  replace hd := hd.ext hb
  replace hB := ext_trans hB hb
  clear hb
  go_wp2
  go_ret
  exact ⟨rfl, hB⟩

end Go.Proofs.Ytaecondhdfknfaa
