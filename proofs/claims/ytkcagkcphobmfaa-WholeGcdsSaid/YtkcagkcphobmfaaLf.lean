/-
  WALKS: limb.digit: one digit of a quotient; what is left stands in the row.
-/
import Derived.Test.YtkcagkcphobmfaaLe
import Derived.Test.YtkcagkcphobmfaaKn
import Derived.Deep.CutBlock
set_option linter.unusedVariables false
set_option linter.unusedSimpArgs false
namespace Go.Proofs.Ytkcagkcphobmfaa
open Go.RowKit

/-- A WINDOW in a block of the call's own: the limbs W behind A, ahead of C. -/
def Win (w : World) (G : Nat) (A W C : List Nat) (off : Nat) : Prop := Blk w G 68 (ints .u32 (A ++ (W ++ C))) ∧ A.length = off

section
variable {w w' : World} {G off : Nat} {A W C : List Nat}
theorem Win.lt (h : Win w G A W C off) : G < w.heap.size := h.1.lt
theorem Win.cell (h : Win w G A W C off) {i x : Nat} (hi : W[i]? = some x) : w.cell? ⟨G, off + i, none⟩ = some (.int .u32 (x : Int)) := by
  obtain ⟨hb, hl⟩ := h
  obtain ⟨hlt, hx⟩ := List.getElem?_eq_some_iff.1 hi
  have hlen : off + i < (ints .u32 (A ++ (W ++ C))).length := by rw [ints_length]; simp; omega
  rw [hb.cell _ hlen, ints_get]
  congr 3
  rw [List.getElem_append_right (by omega), List.getElem_append_left (by omega)]
  simp only [← hl, Nat.add_sub_cancel_left]; exact hx
theorem Win.free (h : Win w G A W C off) (j : Nat) : w.frozen? ⟨G, j, none⟩ = false := h.1.free j
theorem Win.set (h : Win w G A W C off) {i : Nat} (hi : i < W.length) (d : Nat) : Win (w.setCell ⟨G, off + i, none⟩ (.int .u32 (d : Int))) G A (W.set i d) C off := by
  obtain ⟨hb, hl⟩ := h
  refine ⟨?_, hl⟩
  have := hb.set (off + i) (.int .u32 (d : Int))
  rw [ints_set, List.set_append_right (off + i) d (by omega), List.set_append_left (off + i - A.length) d (by omega), show off + i - A.length = i by omega] at this
  exact this
theorem Win.drewN (h : Win w G A W C off) (n : Nat) : Win (w.drewN n) G A W C off := h
end

/-- Nothing has turned but the block G. -/
def OnlyB (G : Nat) (w w' : World) : Prop := w'.os = w.os ∧ w'.tape = w.tape ∧ w'.output = w.output ∧ w'.heap.size = w.heap.size ∧ ∀ k, k ≠ G → w'.heap[k]? = w.heap[k]?

theorem OnlyB.refl (G : Nat) (w : World) : OnlyB G w w := ⟨rfl, rfl, rfl, rfl, fun _ _ => rfl⟩
theorem OnlyB.drewN {G : Nat} {w w' : World} (h : OnlyB G w w') (n : Nat) : OnlyB G w (w'.drewN n) := h
theorem OnlyB.setCell {G : Nat} {w w' : World} (h : OnlyB G w w') (i : Nat) (v : Value) : OnlyB G w (w'.setCell ⟨G, i, none⟩ v) :=
  ⟨h.1, h.2.1, h.2.2.1, by rw [World.size_setCell]; exact h.2.2.2.1, fun k hk => by rw [heap_setCell_other _ _ k _ hk]; exact h.2.2.2.2 k hk⟩
theorem OnlyB.below {G B : Nat} {w w' : World} (h : OnlyB G w w') (hB : B ≤ G) : Below B w w' := ⟨h.1, h.2.1, h.2.2.1, by rw [h.2.2.2.1]; exact Nat.le_refl _, fun k hk => h.2.2.2.2 k (by omega)⟩

set_option maxRecDepth 100000 in
set_option maxHeartbeats 2000000 in
theorem digit_any (G off n c b2 off2 d : Nat) (A W C Y : List Nat) (w : World) (hn : n ≤ 1073741824) (hn2 : 2 ≤ n) (hwin : Win w G A W C off) (hWl : W.length = n + 1) (hWB : ∀ x ∈ W, x < B32) (hc : n + 1 ≤ c)
    (hy : Rw .u32 B32 w (some ⟨b2, off2, none⟩) n d Y) (hne : b2 ≠ G) (top : Nat) (htop : Y[n - 1]? = some top) (htopB : 2147483648 ≤ top) (hlt : val W < B32 * val Y) :
    Calls Try.prog 79 #[.slice (some ⟨G, off, none⟩) (n + 1) c, .slice (some ⟨b2, off2, none⟩) n d] w fun e w' => ∃ W', e = .returned (.int .u32 ((val W / val Y : Nat) : Int)) ∧ Win w' G A W' C off ∧ W'.length = n + 1 ∧
      (∀ x ∈ W', x < B32) ∧ val W' = val W % val Y ∧ OnlyB G w w' := by
  obtain ⟨next, hnext, hnextB, hcn⟩ := hy.cell (show n - 2 < n by omega)
  obtain ⟨top', htop', htopB', hct⟩ := hy.cell (show n - 1 < n by omega)
  rw [htop] at htop'
  obtain rfl := Option.some.inj htop'
  obtain ⟨u0, hu0⟩ : ∃ u, W[n]? = some u := ⟨_, List.getElem?_eq_getElem (by omega)⟩
  obtain ⟨u1, hu1⟩ : ∃ u, W[n - 1]? = some u := ⟨_, List.getElem?_eq_getElem (by omega)⟩
  obtain ⟨u2, hu2⟩ : ∃ u, W[n - 2]? = some u := ⟨_, List.getElem?_eq_getElem (by omega)⟩
  have hu0B : u0 < 4294967296 := hWB _ (List.mem_of_getElem? hu0)
  have hu1B : u1 < 4294967296 := hWB _ (List.mem_of_getElem? hu1)
  have hu2B : u2 < 4294967296 := hWB _ (List.mem_of_getElem? hu2)
  have hc0 := hwin.cell hu0
  have hc1 := hwin.cell hu1
  have hc2 := hwin.cell hu2
  have hnB : next < 4294967296 := hnextB
  have htB : top < 4294967296 := htopB'
  obtain ⟨head, hhead⟩ : ∃ head : Nat, head = u0 * 4294967296 + u1 := ⟨_, rfl⟩
  have hor := or_join u0 u1 hu0B hu1B
  rw [← hhead] at hor
  obtain ⟨g0, hg0⟩ : ∃ g : Nat, g = head / top := ⟨_, rfl⟩
  obtain ⟨r0, hr0⟩ : ∃ g : Nat, g = head % top := ⟨_, rfl⟩
  have hg0' : (head : Int) / (top : Int) = (g0 : Int) := by rw [hg0]; rfl
  have hr0' : (head : Int) % (top : Int) = (r0 : Int) := by rw [hr0]; rfl
  have htne : ((top : Int) == 0) = false := by rw [beq_eq_false_iff_ne]; omega
  have htpos : (1 : Int) ≤ top := by omega
  have hg0B : g0 ≤ 8589934592 := by
    rw [hg0]
    have h1 : head / top < 8589934593 := by
      rw [Nat.div_lt_iff_lt_mul (by omega)]
      have := Nat.mul_le_mul_left 8589934593 htopB
      omega
    omega
  have HG0 := hid hg0; have HR0 := hid hr0; have HH := hid hhead; have HT := hid htop; have HU0 := hid hu0; have HU1 := hid hu1; have HU2 := hid hu2; have HN := hid hnext; have HWL := hid hWl; have HLT := hid hlt
  clear hg0 hr0 hhead htop hu0 hu1 hu2 hnext hWl hlt hnextB htopB'
  go_enter Try.func79, Try.ntmps79
  go_wp2
  go_quiet (fail)
  go_wp2
  go_quiet (fail)
  go_upto_block 0 with (fail)
  rw [hr0']
  clear hr0' hg0' hor
  go_cut [9] (fun s9 wx => ∃ g : Nat, s9 = .int .u64 g ∧ g < 4294967296 ∧ val W < (g + 1) * val Y ∧ g * val Y ≤ val W + val Y ∧ Win wx G A W C off ∧ OnlyB G w wx)
  case first =>
    have h2 := HH.out
    have hUW := top_three' hn2 HWL.out HU0.out HU1.out HU2.out (B := B32)
    have hVY := top_two' hn2 hy.len HT.out HN.out (B := B32)
    have hUl := take_lt hWB (k := n - 2) (by rw [HWL.out]; omega)
    have hVl := take_lt hy.lt (k := n - 2) (by rw [hy.len]; omega)
    have hu0t : u0 ≤ top := kn_top hUW hVY hVl hnB HLT.out
    rw [show u0 * B32 + u1 = head from h2.symm] at hUW
    have hhd : head = g0 * top + r0 := by rw [HG0.out, HR0.out, Nat.mul_comm]; exact (Nat.div_add_mod head top).symm
    have hin : val W < (g0 + 1) * val Y := kn_init hUW hUl hu2B hVY hhd (by rw [HR0.out]; exact Nat.mod_lt _ (by omega))
    have hr0t : r0 < 4294967296 := by rw [HR0.out]; have := Nat.mod_lt head (show 0 < top by omega); omega
    have HUW := hid hUW; have HVY := hid hVY; have HUL := hid hUl; have HVL := hid hVl; have HIN := hid hin; have HHD := hid hhd
    clear h2 hUW hVY hUl hVl hin hhd
    go_wp2_with fail
    go_loop [9, 10] (fun s9 s10 => ∃ g r : Nat, s9 = .int .u64 g ∧ s10 = .int .u64 r ∧ g ≤ 8589934592 ∧ head = g * top + r ∧ r < 4294967296 ∧ val W < (g + 1) * val Y) (fun s9 _ => (intOf s9).toNat)
    case atStart => exact ⟨g0, r0, rfl, rfl, hg0B, HHD.out, hr0t, HIN.out⟩
    case round =>
      obtain ⟨g, r, rfl, rfl, hgU, hgr, hrB, hUg⟩ := hrel
      have HGR := hid hgr; have HUG := hid hUg; clear hgr hUg
      obtain ⟨s2, hs2⟩ : ∃ s2 : Nat, s2 = r * 4294967296 + u2 := ⟨_, rfl⟩
      have hor2 := or_join r u2 hrB hu2B
      rw [← hs2] at hor2
      have HS2 := hid hs2; clear hs2
      by_cases hgB : 4294967296 ≤ g
      · have hg1 : 1 ≤ g := by omega
        have hdg : decide ((4294967296 : Int) ≤ (g : Int)) = true := by rw [decide_eq_true_eq]; omega
        have hUg' : val W < g * val Y := Nat.lt_of_lt_of_le HLT.out (Nat.mul_le_mul_right _ hgB)
        have HUG' := hid hUg'; clear hUg'
        have hgr' : head = (g - 1) * top + (r + top) := by
          have := HGR.out
          have h3 := Nat.mul_le_mul_right top hg1
          rw [Nat.sub_mul, Nat.one_mul]; omega
        have HGR' := hid hgr'; clear hgr'
        have hgc : ((g : Int) - 1) = ((g - 1 : Nat) : Int) := by omega
        have HGC := hid hgc; clear hgc
        by_cases hbr : 4294967296 ≤ r + top
        · have hdb : decide ((4294967296 : Int) ≤ (r : Int) + (top : Int)) = true := by rw [decide_eq_true_eq]; omega
          have hgsB : g - 1 < 4294967296 := by
            have h3 : (g - 1) * top < 4294967296 * top := by
              have := HGR'.out
              have h5 := HH.out
              have h6 := Nat.mul_le_mul_right 4294967296 hu0t
              rw [Nat.mul_comm 4294967296 top]
              omega
            exact Nat.lt_of_mul_lt_mul_right h3
          have hex : (g - 1) * val Y ≤ val W + val Y := by
            refine kn_exit HUW.out HVY.out HVL.out HGR'.out ?_ hgsB (by omega)
            have h3 : (g - 1) * next ≤ 4294967296 * 4294967296 := Nat.mul_le_mul (Nat.le_of_lt hgsB) (Nat.le_of_lt hnB)
            have h4 : 4294967296 * 4294967296 ≤ (r + top) * 4294967296 := Nat.mul_le_mul_right _ hbr
            show (g - 1) * next ≤ (r + top) * 4294967296 + u2
            omega
          have HEX := hid hex; clear hex
          go_wp2_with fail
          go_meet
          exact ⟨g - 1, by rw [HGC.out], hgsB, by rw [Nat.sub_add_cancel hg1]; exact HUG'.out, HEX.out, hwin, OnlyB.refl _ _⟩
        · have hdb : decide ((4294967296 : Int) ≤ (r : Int) + (top : Int)) = false := by rw [decide_eq_false_iff_not]; omega
          go_wp2_with fail
          go_round
          case rel => exact ⟨g - 1, r + top, by rw [HGC.out], by go_num, by omega, HGR'.out, by omega, by rw [Nat.sub_add_cancel hg1]; exact HUG'.out⟩
          case measure => simp [intOf]; omega
      · have hgB' : g < 4294967296 := by omega
        have hdg : decide ((4294967296 : Int) ≤ (g : Int)) = false := by rw [decide_eq_false_iff_not]; omega
        obtain ⟨hm1, hm2⟩ := mul_boundZ g next hgB' hnB
        by_cases ht : s2 < g * next
        · have hdt : decide ((s2 : Int) < (g : Int) * (next : Int)) = true := by rw [decide_eq_true_eq, ← Int.natCast_mul]; omega
          have hg1 : 1 ≤ g := by
            rcases Nat.eq_zero_or_pos g with h0 | h0
            · subst h0; omega
            · exact h0
          have hUg' : val W < g * val Y := kn_dec HUW.out HUL.out HVY.out HGR.out (by rw [← HS2.out]; exact ht)
          have HUG' := hid hUg'; clear hUg'
          have hgr' : head = (g - 1) * top + (r + top) := by
            have := HGR.out
            have h3 := Nat.mul_le_mul_right top hg1
            rw [Nat.sub_mul, Nat.one_mul]; omega
          have HGR' := hid hgr'; clear hgr'
          have hgc : ((g : Int) - 1) = ((g - 1 : Nat) : Int) := by omega
          have HGC := hid hgc; clear hgc
          by_cases hbr : 4294967296 ≤ r + top
          · have hdb : decide ((4294967296 : Int) ≤ (r : Int) + (top : Int)) = true := by rw [decide_eq_true_eq]; omega
            have hgsB : g - 1 < 4294967296 := by
              have h3 : (g - 1) * top < 4294967296 * top := by
                have := HGR'.out
                have h5 := HH.out
                have h6 := Nat.mul_le_mul_right 4294967296 hu0t
                rw [Nat.mul_comm 4294967296 top]
                omega
              exact Nat.lt_of_mul_lt_mul_right h3
            have hex : (g - 1) * val Y ≤ val W + val Y := by
              refine kn_exit HUW.out HVY.out HVL.out HGR'.out ?_ hgsB (by omega)
              have h3 : (g - 1) * next ≤ 4294967296 * 4294967296 := Nat.mul_le_mul (Nat.le_of_lt hgsB) (Nat.le_of_lt hnB)
              have h4 : 4294967296 * 4294967296 ≤ (r + top) * 4294967296 := Nat.mul_le_mul_right _ hbr
              show (g - 1) * next ≤ (r + top) * 4294967296 + u2
              omega
            have HEX := hid hex; clear hex
            go_wp2_with fail
            go_meet
            exact ⟨g - 1, by rw [HGC.out], hgsB, by rw [Nat.sub_add_cancel hg1]; exact HUG'.out, HEX.out, hwin, OnlyB.refl _ _⟩
          · have hdb : decide ((4294967296 : Int) ≤ (r : Int) + (top : Int)) = false := by rw [decide_eq_false_iff_not]; omega
            go_wp2_with fail
            go_round
            case rel => exact ⟨g - 1, r + top, by rw [HGC.out], by go_num, by omega, HGR'.out, by omega, by rw [Nat.sub_add_cancel hg1]; exact HUG'.out⟩
            case measure => simp [intOf]; omega
        · have hdt : decide ((s2 : Int) < (g : Int) * (next : Int)) = false := by rw [decide_eq_false_iff_not, ← Int.natCast_mul]; omega
          have hex : g * val Y ≤ val W + val Y := kn_exit HUW.out HVY.out HVL.out HGR.out (by rw [← HS2.out]; omega) hgB' (by omega)
          have HEX := hid hex; clear hex
          go_wp2_with fail
          go_meet
          exact ⟨g, rfl, hgB', HUG.out, HEX.out, hwin, OnlyB.refl _ _⟩
  case rest =>
    obtain ⟨g, rfl, hgB, hUg, hex, hwin1, honly⟩ := hcut
    have HUG := hid hUg; have HEX := hid hex
    have hyc : Rw .u32 B32 wc (some ⟨b2, off2, none⟩) n d Y := hy.same (honly.2.2.2.2 b2 hne)
    clear hUg hex hc0 hc1 hc2 hcn hct hwin hy htne htpos hg0B htopB htB hnB hu1B hu2B HG0 HR0 HH HT HU1 HU2 HN HLT
    clear htop'
    go_wp2_with fail
    go_loopw [11, 12, 81] (fun s11 s12 s81 wr => ∃ (i cy bw : Nat) (Wc : List Nat), i ≤ n ∧ s81 = .int .i64 i ∧ s11 = .int .u64 cy ∧ s12 = .int .u64 bw ∧ cy < 4294967296 ∧ bw ≤ 1 ∧ Wc.length = n + 1 ∧ (∀ x ∈ Wc, x < B32) ∧ Win wr G A Wc C off ∧ OnlyB G w wr ∧
        (∀ j, i ≤ j → Wc[j]? = W[j]?) ∧ valB B32 (Wc.take i) + g * valB B32 (Y.take i) = valB B32 (W.take i) + B32 ^ i * (cy + bw)) (fun _ _ s81 _ => n - (intOf s81).toNat)
    case atStart => exact ⟨0, 0, 0, W, Nat.zero_le _, rfl, rfl, rfl, by omega, by omega, HWL.out, hWB, hwin1, honly, fun _ _ => rfl, by simp [valB]⟩
    case round =>
      obtain ⟨i, cy, bw, Wc, hi, rfl, rfl, rfl, hcy, hbw, hWcl, hWcB, hwr, hor, hrest, hv⟩ := hrel
      have HV := hid hv; have HWC := hid hWcl; have HRE := hid hrest; clear hv hWcl hrest
      have hyr : Rw .u32 B32 wr (some ⟨b2, off2, none⟩) n d Y := hyc.same (by rw [hor.2.2.2.2 b2 hne, honly.2.2.2.2 b2 hne])
      have hb0 := hwr.lt
      by_cases hin : i < n
      · obtain ⟨y, hy, hyB, hcy2⟩ := hyr.cell hin
        have hy' : y < 4294967296 := hyB
        obtain ⟨x, hx⟩ : ∃ x, Wc[i]? = some x := ⟨_, List.getElem?_eq_getElem (by rw [HWC.out]; omega)⟩
        have hx' : x < 4294967296 := hWcB _ (List.mem_of_getElem? hx)
        have hcx := hwr.cell hx
        have hfree := hwr.free (off + i)
        have HX := hid hx; have HY := hid hy; clear hx hy hyB
        obtain ⟨hm1, hm2⟩ := mul_boundZ g y hgB hy'
        have hmb := mul_bound g y 0 cy hgB hy' (by omega) hcy
        have hpc : (g : Int) * (y : Int) + (cy : Int) = ((g * y + cy : Nat) : Int) := by simp
        obtain ⟨lo, hlo⟩ : ∃ lo : Nat, lo = (g * y + cy) % 4294967296 := ⟨_, rfl⟩
        obtain ⟨hi1, hhi⟩ : ∃ hi1 : Nat, hi1 = (g * y + cy) / 4294967296 := ⟨_, rfl⟩
        have elo : ((g : Int) * (y : Int) + (cy : Int)) % 4294967296 = (lo : Int) := by rw [hpc, hlo]; rfl
        have ehi : ((g : Int) * (y : Int) + (cy : Int)) / 4294967296 = (hi1 : Int) := by rw [hpc, hhi]; rfl
        have hloB : lo < 4294967296 := by omega
        have hhiB : hi1 < 4294967296 := by omega
        have hsum : lo + 4294967296 * hi1 = g * y + cy := by omega
        obtain ⟨d1, b1, hd1, hb1, e1, e2, e3⟩ := sub_wrap2 x lo bw hx' hloB hbw
        have HSUM := hid hsum; have E1 := hid e1; have E2 := hid e2; have E3 := hid e3; have HMB := hid hmb
        clear hsum e1 e2 e3 hpc hlo hhi hmb
        go_wp2
        rw [E1.out, E2.out]
        go_roundw
        case rel =>
          refine ⟨i + 1, hi1, b1, Wc.set i d1, by omega, by go_num, by first | rfl | rw [ehi], rfl, hhiB, hb1, by rw [List.length_set]; exact HWC.out, mem_set_lt hWcB hd1 i, hwr.set (by rw [HWC.out]; omega) d1, hor.setCell _ _, ?_, ?_⟩
          · intro j hj
            rw [List.getElem?_set_ne (by omega)]
            exact HRE.out j (by omega)
          · refine msub_step (by rw [HWC.out]; omega) HV.out (by rw [← HRE.out i (Nat.le_refl _)]; exact HX.out) HY.out ?_
            have h1 := HSUM.out
            have h2 := E3.out
            unfold B32 at h2 ⊢
            omega
        case measure => simp [intOf]; omega
      · obtain rfl : i = n := by omega
        have hcx := hwr.cell (show Wc[i]? = some u0 by rw [HRE.out i (Nat.le_refl _)]; exact HU0.out)
        have hfree := hwr.free (off + i)
        have hW2 := HWC.out
        by_cases hno : cy + bw ≤ u0
        · have et := top_wrap_no u0 cy bw hu0B hno
          obtain ⟨t, htt⟩ : ∃ t, t = u0 - cy - bw := ⟨_, rfl⟩
          rw [← htt] at et
          have htB : t < 4294967296 := by omega
          have hts : t + cy + bw = u0 := by omega
          have HTS := hid hts; clear htt hts hno hW2
          have ed : (t : Int) / 9223372036854775808 = 0 := by omega
          go_wp2
          go_ret
          have hend := digit_end0 (t := t) HWL.out HWC.out hyc.len HU0.out HV.out HTS.out
          have hle : g * val Y ≤ val W := by unfold val; omega
          have hmod := mod_is (U := val W) (V := val Y) (q := g) (r := val (Wc.set i t)) (by unfold val; omega) (by
            have h1 := HUG.out
            rw [Nat.add_mul, Nat.one_mul] at h1
            unfold val at *; omega)
          exact ⟨Wc.set i t, by rw [hmod.1]; rfl, hwr.set (by rw [HWC.out]; omega) t, by rw [List.length_set]; exact HWC.out, mem_set_lt hWcB htB _, hmod.2.symm, hor.setCell _ _⟩
        · obtain ⟨t, tl, et, ed, etl, htlB, hts⟩ := top_wrap_yes u0 cy bw hu0B hcy hbw (by omega)
          have HTS := hid hts; clear hts hno hW2
          have hwin3 : Win (wr.setCell ⟨G, off + i, none⟩ (.int .u32 (tl : Int))) G A (Wc.set i tl) C off := hwr.set (by rw [HWC.out]; omega) tl
          have hor3 : OnlyB G w (wr.setCell ⟨G, off + i, none⟩ (.int .u32 (tl : Int))) := hor.setCell _ _
          have hend := digit_end1 (t := tl) HWL.out HWC.out hyc.len HU0.out HV.out HTS.out
          have hWB3 : ∀ x ∈ Wc.set i tl, x < B32 := mem_set_lt hWcB htlB _
          have hl3 : (Wc.set i tl).length = i + 1 := by rw [List.length_set]; exact HWC.out
          have hti : (Wc.set i tl)[i]? = some tl := by rw [List.getElem?_set_self (by rw [HWC.out]; omega)]
          have hg0 : val W < g * val Y := by
            have h1 := valB_lt hWB3
            rw [hl3] at h1
            unfold val; omega
          have HE := hid hend; have HL3 := hid hl3; have HTI := hid hti; have HG0 := hid hg0
          clear hend hl3 hti hg0
          have hgpos : 1 ≤ g := by
            rcases Nat.eq_zero_or_pos g with h0 | h0
            · have := HG0.out; rw [h0, Nat.zero_mul] at this; omega
            · exact h0
          go_wp2_with fail
          generalize hgen : Wc.set i tl = W3 at *
          clear hgen
          generalize hgenw : wr.setCell ⟨G, off + i, none⟩ (.int .u32 (tl : Int)) = wx at *
          clear hgenw
          go_loopw [18, 134] (fun s18 s134 wr => ∃ (k bk : Nat) (Wd : List Nat), k ≤ i ∧ s134 = .int .i64 k ∧ s18 = .int .u64 bk ∧ bk ≤ 1 ∧ Wd.length = i + 1 ∧ (∀ x ∈ Wd, x < B32) ∧ Win wr G A Wd C off ∧ OnlyB G w wr ∧
              (∀ j, k ≤ j → Wd[j]? = W3[j]?) ∧ valB B32 (Wd.take k) + B32 ^ k * bk = valB B32 (W3.take k) + valB B32 (Y.take k)) (fun _ s134 _ => i - (intOf s134).toNat)
          case atStart => exact ⟨0, 0, W3, Nat.zero_le _, rfl, rfl, by omega, HL3.out, hWB3, hwin3, hor3, fun _ _ => rfl, by simp [valB]⟩
          case round =>
            obtain ⟨k, bk, Wd, hk, rfl, rfl, hbk, hWdl, hWdB, hwd, hod, hrest, hv⟩ := hrel
            have HV4 := hid hv; have HWD := hid hWdl; have HRE4 := hid hrest; clear hv hWdl hrest
            have hyr4 : Rw .u32 B32 wr (some ⟨b2, off2, none⟩) i d Y := hyc.same (by rw [hod.2.2.2.2 b2 hne, honly.2.2.2.2 b2 hne])
            have hb4 := hwd.lt
            by_cases hki : k < i
            · obtain ⟨y, hy, hyB, hcy2⟩ := hyr4.cell hki
              have hy' : y < 4294967296 := hyB
              obtain ⟨x, hx⟩ : ∃ x, Wd[k]? = some x := ⟨_, List.getElem?_eq_getElem (by rw [HWD.out]; omega)⟩
              have hx' : x < 4294967296 := hWdB _ (List.mem_of_getElem? hx)
              have hcx4 := hwd.cell hx
              have hfree4 := hwd.free (off + k)
              have HX := hid hx; have HY := hid hy; clear hx hy hyB
              go_wp2
              go_roundw
              case rel =>
                refine ⟨k + 1, (x + y + bk) / 4294967296, Wd.set k ((x + y + bk) % 4294967296), by omega, by go_num, by go_num, by omega, by rw [List.length_set]; exact HWD.out, mem_set_lt hWdB (Nat.mod_lt _ (by decide)) k, ?_, hod.setCell _ _, ?_, ?_⟩
                · have e : ((x : Int) + y + bk) % 4294967296 = (((x + y + bk) % 4294967296 : Nat) : Int) := by omega
                  rw [e]; exact hwd.set (by rw [HWD.out]; omega) _
                · intro j hj
                  rw [List.getElem?_set_ne (by omega)]
                  exact HRE4.out j (by omega)
                · exact addb_step (by rw [HWD.out]; omega) HV4.out (by rw [← HRE4.out k (Nat.le_refl _)]; exact HX.out) HY.out (Nat.mod_add_div _ _)
              case measure => simp [intOf]; omega
            · obtain rfl : k = i := by omega
              have hcx4 := hwd.cell (show Wd[k]? = some tl by rw [HRE4.out k (Nat.le_refl _)]; exact HTI.out)
              have hfree4 := hwd.free (off + k)
              go_wp2
              go_ret
              have e : ((tl : Int) + bk) % 4294967296 = (((tl + bk) % 4294967296 : Nat) : Int) := by omega
              have hB5 : ∀ x ∈ Wd.set k ((tl + bk) % 4294967296), x < B32 := mem_set_lt hWdB (Nat.mod_lt _ (by decide)) k
              have hl5 : (Wd.set k ((tl + bk) % 4294967296)).length = k + 1 := by rw [List.length_set]; exact HWD.out
              have h5 := valB_lt hB5
              rw [hl5] at h5
              have hYlt : valB B32 Y < B32 ^ (k + 1) := by
                have h1 := valB_lt hyc.lt
                rw [hyc.len] at h1
                exact Nat.lt_of_lt_of_le h1 (Nat.pow_le_pow_right (by decide) (by omega))
              have hend := digit_end2 (V := valB B32 W) (g := g) (x := (tl + bk) % 4294967296) (e := (tl + bk) / 4294967296) HWD.out HL3.out hyc.len HTI.out HV4.out (Nat.mod_add_div _ _) (by omega) HE.out h5 hYlt HEX.out HG0.out
              have hmod := mod_is (U := val W) (V := val Y) (q := g - 1) (r := val (Wd.set k ((tl + bk) % 4294967296))) (by
                have h6 := Nat.mul_le_mul_right (valB B32 Y) hgpos
                rw [Nat.sub_mul, Nat.one_mul]
                unfold val; omega) (by
                have h6 := HG0.out
                unfold val at *; omega)
              refine ⟨Wd.set k ((tl + bk) % 4294967296), ret_int (by rw [hmod.1]; omega), ?_, hl5, hB5, hmod.2.symm, hod.setCell _ _⟩
              rw [e]; exact hwd.set (by rw [HWD.out]; omega) _

end Go.Proofs.Ytkcagkcphobmfaa
