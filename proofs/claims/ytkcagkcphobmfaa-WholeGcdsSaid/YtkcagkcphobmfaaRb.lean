/-
  WALKS: the document's answers: small, ToN, CmpN, SubN. What they return, as numbers; nothing that was there turns.
-/
import Derived.Test.YtkcagkcphobmfaaRa
import Derived.Test.YtkcagkcphobmfaaLa
set_option linter.unusedVariables false
set_option linter.unusedSimpArgs false
namespace Go.Proofs.Ytkcagkcphobmfaa
open Go.RowKit

set_option maxHeartbeats 1000000 in
/-- small: quotient and remainder by a small number above 0. -/
theorem small_any (ao : Option Addr) (n c : Nat) (xs : List Nat) (v : Nat) (w : World) (hn : n ≤ 1073741824) (hv0 : 0 < v) (hvB : v ≤ 65536) (hr : Rw .i64 B4 w ao n c xs) :
    Calls Try.prog 82 #[.slice ao n c, .int .i64 (v : Int)] w fun e w' => ∃ ro k c', e = .returned (.tuple #[.slice ro k c', .int .i64 ((val4 xs % v : Nat) : Int)]) ∧ k ≤ n ∧ Rw .i64 B4 w' ro k c' (digs4 (val4 xs / v)) ∧ Own w.heap.size w' ro c' ∧ Below w.heap.size w w' := by
  have hvne : ((v : Int) == 0) = false := by rw [beq_eq_false_iff_ne]; omega
  have hvpos : (1 : Int) ≤ v := by omega
  go_enter Try.func82, Try.ntmps82
  go_wp2_with (at_make; refine Hid.out ?_)
  refine hid ?_
  refine wpList_mk _ rfl _ _ 26 rfl 3 (.int .i64 0) 8 Try.underlying26 Try.infoInt rfl .i64 .i64 _ _ n rfl rfl (by omega) (by omega) (by omega) (by unfold maxLen; omega) fun w2 hblk hbelow hlt => ?_
  obtain ⟨G, hG⟩ : ∃ G, G = w.heap.size := ⟨_, rfl⟩
  rw [← hG] at hblk hlt hbelow ⊢
  have HG := hid hG; clear hG
  rw [← ints_replicate] at hblk
  have hpl := hr.len
  have HPL := hid hpl; clear hpl
  go_wp2_with fail
  go_loopw [7, 8] (fun s7 s8 wr => ∃ (k r : Nat) (os : List Nat), k ≤ n ∧ s8 = .int .i64 ((k : Int) - 1) ∧ s7 = .int .i64 r ∧ r < v ∧ os.length = n ∧ (∀ o ∈ os, o < B4) ∧ Blk wr G 3 (ints .i64 os) ∧ Below G w wr ∧
      valB B4 (xs.drop k) = v * valB B4 (os.drop k) + r) (fun _ s8 _ => (intOf s8 + 1).toNat)
  case atStart => exact ⟨n, 0, List.replicate n 0, Nat.le_refl _, rfl, rfl, hv0, by simp, (fun o ho => by have := (List.mem_replicate.1 ho).2; subst this; decide), hblk, hbelow, by rw [List.drop_of_length_le (Nat.le_of_eq HPL.out), List.drop_of_length_le (by simp)]; rfl⟩
  case round =>
    obtain ⟨k, r, os, hk, rfl, rfl, hrv, hol, hoB, hb, hbe, hv⟩ := hrel
    have HV := hid hv; have HOL := hid hol; clear hv hol hblk hbelow
    have hb0 := hb.lt
    by_cases h0 : k = 0
    · subst h0
      have hv := HV.out
      rw [List.drop_zero, List.drop_zero] at hv
      have HV2 := hid hv; clear hv HV
      go_wp2_with fail
      have hrow := hb.rw hoB
      rw [HOL.out] at hrow
      refine (rcut_any _ _ _ _ _ (by omega) hrow).mono ?_
      rintro e w' ⟨r1, rfl, hr1', hres, rfl⟩
      have hown := hb.own (base := G) (n := n) (Nat.le_refl _) (by rw [ints_length, HOL.out]; exact Nat.le_refl _)
      go_wp2
      go_ret2
      have hmod : val4 xs % v = r := by
        have h2 := HV2.out
        unfold val4; rw [h2, Nat.mul_add_mod, Nat.mod_eq_of_lt hrv]
      have hdiv : val4 xs / v = val4 os := by
        have h2 := HV2.out
        unfold val4; rw [h2, Nat.mul_add_div hv0, Nat.div_eq_of_lt hrv, Nat.add_zero]
      exact ⟨_, _, _, by rw [hmod]; rfl, hr1', by rw [hdiv]; exact hres, by rw [← HG.out]; exact hown, by rw [← HG.out]; exact hbe⟩
    · obtain ⟨j, rfl⟩ : ∃ j, k = j + 1 := ⟨k - 1, by omega⟩
      obtain ⟨b1, off1, x, rfl, hx, hxB, hcx⟩ := (hr.ext (by rw [← HG.out]; exact hbe)).at (show j < n by omega)
      have hx' : x < 10000 := hxB
      have Hx := hid hx; clear hx hxB
      have hcell := hb.cell j (by rw [ints_length, HOL.out]; omega)
      have hfree := hb.free j
      obtain ⟨s, hs⟩ : ∃ s : Nat, s = r * 10000 + x := ⟨_, rfl⟩
      have hsI : (r : Int) * 10000 + (x : Int) = (s : Int) := by omega
      have hqB : s / v < 10000 := by
        rw [Nat.div_lt_iff_lt_mul hv0, hs]
        have := Nat.mul_le_mul_right 10000 (show r + 1 ≤ v from hrv)
        rw [Nat.add_mul, Nat.mul_comm v] at this
        omega
      obtain ⟨q, hq⟩ : ∃ q : Nat, q = s / v := ⟨_, rfl⟩
      obtain ⟨t, ht⟩ : ∃ t : Nat, t = s % v := ⟨_, rfl⟩
      have htv : t < v := by rw [ht]; exact Nat.mod_lt _ hv0
      have hqv : v * q + t = s := by rw [hq, ht]; exact Nat.div_add_mod s v
      have hq' : (s : Int) / (v : Int) = (q : Int) := by rw [hq]; rfl
      have ht' : (s : Int) % (v : Int) = (t : Int) := by rw [ht]; rfl
      rw [← hq] at hqB
      have HS := hid hs; have HQV := hid hqv; clear hs hqv hq ht
      go_wp2
      go_roundw
      case rel =>
        have hv := hb.set j (.int .i64 (q : Int))
        rw [ints_set] at hv
        refine ⟨j, t, os.set j q, by omega, by go_num, ?_, htv, by rw [List.length_set]; exact HOL.out, mem_set_lt hoB hqB j, ?_, hbe.setCell (Nat.le_refl _) _, small_step (by rw [HOL.out]; omega) Hx.out HV.out HS.out HQV.out⟩
        · first | rfl | (rw [ht'])
        · exact hv
      case measure => simp [intOf]; try omega

set_option maxHeartbeats 1000000 in
/-- ToN: a number as limbs. -/
theorem toN_own (ao : Option Addr) (n c N : Nat) (w : World) (hn : n ≤ 1000000000) (hr : Rw .i64 B4 w ao n c (digs4 N)) :
    Calls Try.prog 62 #[.slice ao n c] w fun e w' => ∃ ro k c', e = .returned (.slice ro k c') ∧ Rw .u32 B32 w' ro k c' (limbs N) ∧ k ≤ n ∧ Own w.heap.size w' ro c' ∧ Below w.heap.size w w' := by
  go_enter Try.func62, Try.ntmps62
  obtain ⟨v0, hv0⟩ : ∃ v, v = Value.slice none 0 0 := ⟨_, rfl⟩
  go_wp2_with fail
  go_loopw [0, 3] (fun s0 s3 wr => ∃ (V k m c' : Nat) (ao : Option Addr) (os : List Nat), s0 = .slice ao m c' ∧ Rw .i64 B4 wr ao m c' (digs4 V) ∧ m + k ≤ n ∧ os.length = k ∧ (∀ o ∈ os, o < B32) ∧ wr.ownsRow w.heap.size 68 1 s3 k (ints .u32 os) ∧
      Below w.heap.size w wr ∧ os ++ limbs V = limbs N) (fun s0 _ _ => match s0 with | .slice _ m _ => m | _ => 0)
  case atStart => exact ⟨N, 0, n, c, ao, [], rfl, hr, by omega, rfl, by simp, World.ownsRow_nil _ _ _ _, Below.refl _ _, rfl⟩
  case round =>
    obtain ⟨V, k, m, c', ao, os, rfl, hrow, hmk, hol, hoB, hown, hb, hv⟩ := hrel
    have hlen := hrow.len
    have HLEN := hid hlen; have HOL := hid hol; have HV := hid hv; clear hlen hol hv
    have hbs := hb.size
    by_cases hm0 : m = 0
    · subst hm0
      obtain ⟨ao', c1, rfl, h1, h2⟩ := own_of_ownsRow (k := .u32) (B := B32) (by rw [HOL.out]; exact hown) hoB
      rw [HOL.out] at h1
      go_wp2
      go_ret
      have hV0 : V = 0 := digs4_eq_nil.1 (List.eq_nil_of_length_eq_zero HLEN.out)
      have h3 := HV.out
      rw [hV0, limbs_zero, List.append_nil] at h3
      rw [h3] at h1
      exact ⟨_, _, _, by rw [HOL.out]; rfl, h1, by omega, h2, hb⟩
    · have hVne : V ≠ 0 := by
        rintro rfl
        exact hm0 (by rw [← HLEN.out]; rfl)
      have HVN := hid hVne; clear hVne
      go_wp2_with fail
      refine (small_any _ _ _ _ 65536 _ (by omega) (by omega) (by omega) hrow).mono ?_
      rintro e w1 ⟨r1, k1, c1, rfl, hk1, hrow1, _, hb1⟩
      rw [val4_digs4] at hrow1 ⊢
      obtain ⟨lo, hlo⟩ : ∃ lo, lo = V % 65536 := ⟨_, rfl⟩
      have hloB : lo < 65536 := by omega
      rw [← hlo]
      have HLO := hid hlo; clear hlo
      go_wp2_with fail
      refine (small_any _ _ _ _ 65536 _ (by omega) (by omega) (by omega) hrow1).mono ?_
      rintro e w2 ⟨r2, k2, c2, rfl, hk2, hrow2, hown2r, hb2⟩
      rw [val4_digs4] at hrow2 ⊢
      obtain ⟨hi, hhi⟩ : ∃ hi, hi = V / 65536 % 65536 := ⟨_, rfl⟩
      have hhiB : hi < 65536 := by omega
      rw [← hhi]
      have HHI := hid hhi; clear hhi
      have hb12 := ext_trans hb1 hb2
      have hb02 : Below w.heap.size w w2 := hb.trans (hb12.mono hbs)
      have hbs2 := hb02.size
      have hown2 : w2.ownsRow w.heap.size 68 1 u3 k (ints .u32 os) := by
        refine hown.kept (row := none) ⟨hb12.os, hb12.tape, hb12.output, hb12.size, fun j hj _ => hb12.block j hj⟩ ?_
        cases h5 : u3.ownBlock <;> simp
      have hklt : k2 < m := by
        have h1 := hrow2.len
        have h2 : V / 65536 / 65536 < V := by have := HVN.out; omega
        have h3 : digs4 V = V % B4 :: digs4 (V / B4) := digs4_pos HVN.out
        have h4 : (digs4 (V / 65536 / 65536)).length ≤ (digs4 (V / B4)).length := digs4_mono (by unfold B4; omega)
        have h5 := HLEN.out
        rw [h3, List.length_cons] at h5
        omega
      have hlimb : V % B32 = hi * 65536 + lo := by rw [HLO.out, HHI.out]; unfold B32; omega
      have hlimb2 : V / B32 = V / 65536 / 65536 := by unfold B32; omega
      have hcast : (hi : Int) * 65536 + (lo : Int) = ((hi * 65536 + lo : Nat) : Int) := by omega
      have hstep : (os ++ [hi * 65536 + lo]) ++ limbs (V / 65536 / 65536) = limbs N := by
        rw [← HV.out, limbs_pos HVN.out, hlimb, hlimb2, List.append_assoc]; rfl
      have HST := hid hstep; have HC := hid hcast
      clear hlimb hlimb2 hcast hstep
      go_wp2_with (at_builtin; refine Hid.out ?_)
      refine hid ?_
      refine wpList_app _ rfl _ _ 22 rfl w.heap.size 68 (.int .u32 0) 1 4 Try.underlying22 Try.infoU32 rfl (by decide) u3 k (ints .u32 os) rfl (hown2.alloc _) (some ⟨w2.heap.size, 0, none⟩) 1 1 [Value.int .u32 ((hi : Int) * 65536 + (lo : Int))] rfl rfl (fun e => nomatch e) (Nat.le_refl _) (cells_new1 _ _ _) (one_int _ _) (by unfold maxLen; omega) (by omega) (by rw [World.size_alloc]; omega) fun v' w3 hown' hgrow3 hb3 => ?_
      have hbA : Below w2.heap.size w2 (w2.alloc (.cells #[.int .u32 ((hi : Int) * 65536 + (lo : Int))] 68)) := (Below.refl _ _).alloc (Nat.le_refl _) _
      have hb4 : Below w.heap.size w w3 := (hb02.trans (hbA.mono hbs2)).trans hb3
      have hlim : hi * 65536 + lo < B32 := by unfold B32; omega
      rw [HC.out, ints_snoc] at hown'
      have hrow3 : Rw .i64 B4 w3 r2 k2 c2 (digs4 (V / 65536 / 65536)) := (hrow2.ext hbA).grown (hown2r.ext hbA) hgrow3 (fun j hj => by
        have h6 := (hown.lt j hj).2
        have h7 := hb1.size
        omega)
      clear hgrow3 hbA hrow2 hown2r hown2 hown hrow1 hrow
      go_wp2
      go_roundw
      case rel => exact ⟨V / 65536 / 65536, k + 1, k2, c2, r2, os ++ [hi * 65536 + lo], rfl, hrow3, by omega, by rw [List.length_append, HOL.out]; rfl, mem_snoc_lt hoB hlim, hown', hb4, HST.out⟩
      case measure => exact hklt

theorem toN_any (ao : Option Addr) (n c N : Nat) (w : World) (hn : n ≤ 1000000000) (hr : Rw .i64 B4 w ao n c (digs4 N)) :
    Calls Try.prog 62 #[.slice ao n c] w fun e w' => ∃ ro k c', e = .returned (.slice ro k c') ∧ Rw .u32 B32 w' ro k c' (limbs N) ∧ k ≤ n ∧ Below w.heap.size w w' :=
  (toN_own ao n c N w hn hr).mono fun e w' ⟨ro, k, c', he, h1, hk, _, h2⟩ => ⟨ro, k, c', he, h1, hk, h2⟩

set_option maxHeartbeats 1000000 in
/-- CmpN: -1, 0, 1, as the numbers are. -/
theorem cmpN_any (ao bo : Option Addr) (n c m d M N : Nat) (w : World) (hn : n ≤ 1073741824) (hm : m ≤ 1073741824) (hr : Rw .i64 B4 w ao n c (digs4 M)) (hs : Rw .i64 B4 w bo m d (digs4 N)) :
    Calls Try.prog 28 #[.slice ao n c, .slice bo m d] w fun e w' => e = .returned (.int .i64 (cmpZ M N)) ∧ Below w.heap.size w w' := by
  have hl1 := hr.len
  have hl2 := hs.len
  generalize hA : digs4 M = A at *
  generalize hB : digs4 N = B at *
  have hvx : M = val4 A := by rw [← hA, val4_digs4]
  have hvy : N = val4 B := by rw [← hB, val4_digs4]
  have HA := hid hA; have HB := hid hB; have HL1 := hid hl1; have HL2 := hid hl2; have HVX := hid hvx; have HVY := hid hvy
  clear hA hB hl1 hl2 hvx hvy
  go_enter Try.func28, Try.ntmps28
  by_cases hne : n = m
  · subst hne
    go_wp2_with fail
    go_loopw [5] (fun i wr => ∃ k : Nat, k ≤ n ∧ i = .int .i64 ((k : Int) - 1) ∧ A.drop k = B.drop k ∧ Below w.heap.size w wr) (fun i _ => (intOf i + 1).toNat)
    case atStart => exact ⟨n, Nat.le_refl _, rfl, by rw [List.drop_of_length_le (Nat.le_of_eq HL1.out), List.drop_of_length_le (Nat.le_of_eq HL2.out)], Below.refl _ _⟩
    case round =>
      obtain ⟨k, hk, rfl, hd, hb⟩ := hrel
      have Hd := hid hd; clear hd
      by_cases h0 : k = 0
      · subst h0
        go_wp2
        go_ret
        exact ⟨ret_int (by have := Hd.out; simp only [List.drop_zero] at this; rw [HVX.out, HVY.out, this]; simp [cmpZ]), hb⟩
      · obtain ⟨j, rfl⟩ : ∃ j, k = j + 1 := ⟨k - 1, by omega⟩
        obtain ⟨b1, off1, x, rfl, hx, hxB, hcx⟩ := (hr.ext hb).at (show j < n by omega)
        obtain ⟨b2, off2, y, rfl, hy, hyB, hcy⟩ := (hs.ext hb).at (show j < n by omega)
        have Hx := hid hx; have Hy := hid hy; clear hx hy
        by_cases hxy : x = y
        · subst hxy
          go_wp2
          go_quiet (fail)
          go_wp2
          go_roundw
          case rel =>
            refine ⟨j, by omega, by go_num, ?_, ext_drewN hb _⟩
            obtain ⟨h1, e1⟩ := List.getElem?_eq_some_iff.1 Hx.out
            obtain ⟨h2, e2⟩ := List.getElem?_eq_some_iff.1 Hy.out
            rw [List.drop_eq_getElem_cons h1, List.drop_eq_getElem_cons h2, e1, e2, Hd.out]
          case measure => simp [intOf]
        · have e1 : ((x : Int) != (y : Int)) = true := by rw [bne_iff_ne]; omega
          by_cases hlt : x < y
          · have e2 : decide (x < y) = true := by simpa using hlt
            go_wp2
            go_quiet (fail)
            go_wp2
            go_quiet (fail)
            go_wp2
            go_ret
            refine ⟨ret_int ?_, by first | exact ext_drewN hb _ | exact ext_drewN (ext_drewN hb _) _⟩
            have hA : A.length = B.length := by rw [HL1.out, HL2.out]
            have := cmp_digit (B := B4) hr.lt hA (k := j) (by rw [HL1.out]; omega) Hd.out (by
              obtain ⟨_, e1⟩ := List.getElem?_eq_some_iff.1 Hx.out
              obtain ⟨_, e2⟩ := List.getElem?_eq_some_iff.1 Hy.out
              rw [e1, e2]; exact hlt)
            rw [HVX.out, HVY.out]; unfold val4; rw [cmpZ, if_pos (by omega)]
          · have e2 : decide (x < y) = false := by simpa using hlt
            go_wp2
            go_quiet (fail)
            go_wp2
            go_quiet (fail)
            go_wp2
            go_ret
            refine ⟨ret_int ?_, by first | exact ext_drewN hb _ | exact ext_drewN (ext_drewN hb _) _⟩
            have hA : B.length = A.length := by rw [HL1.out, HL2.out]
            have := cmp_digit (B := B4) hs.lt hA (k := j) (by rw [HL2.out]; omega) Hd.out.symm (by
              obtain ⟨_, e1⟩ := List.getElem?_eq_some_iff.1 Hx.out
              obtain ⟨_, e2⟩ := List.getElem?_eq_some_iff.1 Hy.out
              rw [e1, e2]; omega)
            rw [HVX.out, HVY.out]; unfold val4; rw [cmpZ, if_neg (by omega), if_neg (by omega)]
  · by_cases hlt : n < m
    · go_wp2
      go_ret
      exact ⟨ret_int (by have := digs4_shorter (m := M) (n := N) (by rw [HA.out, HB.out, HL1.out, HL2.out]; exact hlt); rw [cmpZ, if_pos (by omega)]), Below.refl _ _⟩
    · go_wp2
      go_ret
      exact ⟨ret_int (by have := digs4_shorter (m := N) (n := M) (by rw [HA.out, HB.out, HL1.out, HL2.out]; omega); rw [cmpZ, if_neg (by omega), if_neg (by omega)]), Below.refl _ _⟩

set_option maxHeartbeats 1000000 in
/-- SubN: the difference, which is not below 0. -/
theorem subN_own (ao bo : Option Addr) (n c m d M N : Nat) (w : World) (hn : n ≤ 1073741824) (hm : m ≤ 1073741824) (hle : N ≤ M) (hr : Rw .i64 B4 w ao n c (digs4 M)) (hs : Rw .i64 B4 w bo m d (digs4 N)) :
    Calls Try.prog 70 #[.slice ao n c, .slice bo m d] w fun e w' => ∃ ro k c', e = .returned (.slice ro k c') ∧ Rw .i64 B4 w' ro k c' (digs4 (M - N)) ∧ k ≤ n ∧ Own w.heap.size w' ro c' ∧ Below w.heap.size w w' := by
  have hmn := digs4_mono hle
  rw [hr.len, hs.len] at hmn
  have hpl := hr.len
  have hql := hs.len
  have HPL := hid hpl; have HQL := hid hql; have HLE := hid hle; clear hpl hql hle
  go_enter Try.func70, Try.ntmps70
  go_wp2_with (at_make; refine Hid.out ?_)
  refine hid ?_
  refine wpList_mk _ rfl _ _ 26 rfl 3 (.int .i64 0) 8 Try.underlying26 Try.infoInt rfl .i64 .i64 _ _ n rfl rfl (by omega) (by omega) (by omega) (by unfold maxLen; omega) fun w2 hblk hbelow hlt => ?_
  obtain ⟨G, hG⟩ : ∃ G, G = w.heap.size := ⟨_, rfl⟩
  rw [← hG] at hblk hlt hbelow ⊢
  have HG := hid hG; clear hG
  rw [← ints_replicate] at hblk
  go_wp2_with fail
  go_loopw [6, 14] (fun s6 s14 wr => ∃ (k cy : Nat) (os : List Nat), k ≤ n ∧ s14 = .int .i64 k ∧ s6 = .int .i64 cy ∧ cy ≤ 1 ∧ os.length = n ∧ (∀ o ∈ os, o < B4) ∧ Blk wr G 3 (ints .i64 os) ∧ Below G w wr ∧
      valB B4 (os.take k) + valB B4 ((digs4 N).take k) = valB B4 ((digs4 M).take k) + B4 ^ k * cy) (fun _ s14 _ => n - (intOf s14).toNat)
  case atStart => exact ⟨0, 0, List.replicate n 0, Nat.zero_le _, rfl, rfl, by omega, by simp, (fun o ho => by have := (List.mem_replicate.1 ho).2; subst this; decide), hblk, hbelow, by simp [valB]⟩
  case round =>
    obtain ⟨k, cy, os, hk, rfl, rfl, hcy, hol, hoB, hb, hbe, hv⟩ := hrel
    have HV := hid hv; have HOL := hid hol; clear hv hol hblk hbelow
    have hb0 := hb.lt
    by_cases hkn : k < n
    · obtain ⟨b1, off1, x, rfl, hx, hxB, hcx⟩ := (hr.ext (by rw [← HG.out]; exact hbe)).at hkn
      have hcell := hb.cell k (by rw [ints_length, HOL.out]; omega)
      have hfree := hb.free k
      have hx' : x < 10000 := hxB
      have Hx := hid hx; clear hx hxB
      have key : ∀ y : Nat, y < 10000 → valB B4 ((digs4 N).take (k + 1)) = valB B4 ((digs4 N).take k) + B4 ^ k * y → ∃ d1 b : Nat, d1 < B4 ∧ b ≤ 1 ∧ (d1 : Int) = (if (x : Int) - cy - y < 0 then (x : Int) - cy - y + 10000 else (x : Int) - cy - y) ∧ (b : Int) = (if (x : Int) - cy - y < 0 then 1 else 0) ∧
          valB B4 ((os.set k d1).take (k + 1)) + valB B4 ((digs4 N).take (k + 1)) = valB B4 ((digs4 M).take (k + 1)) + B4 ^ (k + 1) * b := by
        intro y hy hQ
        by_cases h : cy + y ≤ x
        · exact ⟨x - cy - y, 0, by unfold B4; omega, by omega, by rw [if_neg (by omega)]; omega, by rw [if_neg (by omega)]; rfl, sub_step (by rw [HOL.out]; omega) HV.out (valB_take_some _ Hx.out) hQ (by unfold B4; omega)⟩
        · exact ⟨x + 10000 - cy - y, 1, by unfold B4; omega, by omega, by rw [if_pos (by omega)]; omega, by rw [if_pos (by omega)]; rfl, sub_step (by rw [HOL.out]; omega) HV.out (valB_take_some _ Hx.out) hQ (by unfold B4; omega)⟩
      by_cases hkq : k < m
      · obtain ⟨b2, off2, y, rfl, hy, hyB, hcy2⟩ := (hs.ext (by rw [← HG.out]; exact hbe)).at hkq
        have hy' : y < 10000 := hyB
        obtain ⟨d1, b, hd1, hb1, e1, e2, e3⟩ := key y hy' (valB_take_some _ hy)
        have E1 := hid e1; have E2 := hid e2; have E3 := hid e3
        clear key hy hyB e1 e2 e3
        by_cases hneg : (x : Int) - cy - y < 0
        · go_wp2
          go_roundw
          case rel =>
            have hv := hb.set k (.int .i64 (d1 : Int))
            rw [ints_set, E1.out, if_pos hneg] at hv
            exact ⟨k + 1, b, os.set k d1, by omega, by go_num, by rw [E2.out, if_pos hneg], hb1, by rw [List.length_set]; exact HOL.out, mem_set_lt hoB hd1 k, hv, hbe.setCell (Nat.le_refl _) _, E3.out⟩
          case measure => simp [intOf]; omega
        · go_wp2
          go_roundw
          case rel =>
            have hv := hb.set k (.int .i64 (d1 : Int))
            rw [ints_set, E1.out, if_neg (by omega)] at hv
            exact ⟨k + 1, b, os.set k d1, by omega, by go_num, by rw [E2.out, if_neg (by omega)], hb1, by rw [List.length_set]; exact HOL.out, mem_set_lt hoB hd1 k, hv, hbe.setCell (Nat.le_refl _) _, E3.out⟩
          case measure => simp [intOf]; omega
      · obtain ⟨d1, b, hd1, hb1, e1, e2, e3⟩ := key 0 (by omega) (by rw [valB_take_none _ (by rw [HQL.out]; omega)]; simp)
        have E1 := hid e1; have E2 := hid e2; have E3 := hid e3
        clear key e1 e2 e3
        by_cases hneg : (x : Int) - cy < 0
        · go_wp2
          go_roundw
          case rel =>
            have hv := hb.set k (.int .i64 (d1 : Int))
            rw [ints_set, E1.out, if_pos (by omega)] at hv
            refine ⟨k + 1, b, os.set k d1, by omega, by go_num, by rw [E2.out, if_pos (by omega)], hb1, by rw [List.length_set]; exact HOL.out, mem_set_lt hoB hd1 k, ?_, hbe.setCell (Nat.le_refl _) _, E3.out⟩
            rw [show (x : Int) - cy + 10000 = (x : Int) - cy - ((0 : Nat) : Int) + 10000 by omega]; exact hv
          case measure => simp [intOf]; omega
        · go_wp2
          go_roundw
          case rel =>
            have hv := hb.set k (.int .i64 (d1 : Int))
            rw [ints_set, E1.out, if_neg (by omega)] at hv
            refine ⟨k + 1, b, os.set k d1, by omega, by go_num, by rw [E2.out, if_neg (by omega)], hb1, by rw [List.length_set]; exact HOL.out, mem_set_lt hoB hd1 k, ?_, hbe.setCell (Nat.le_refl _) _, E3.out⟩
            rw [show (x : Int) - cy = (x : Int) - cy - ((0 : Nat) : Int) by omega]; exact hv
          case measure => simp [intOf]; omega
    · obtain rfl : k = n := by omega
      go_wp2_with fail
      have hrow := hb.rw hoB
      rw [HOL.out] at hrow
      refine (rcut_any _ _ _ _ _ (by omega) hrow).mono ?_
      rintro e w' ⟨r1, rfl, hr1', hres, rfl⟩
      go_wp2
      go_ret
      refine ⟨_, _, _, rfl, ?_, hr1', by rw [← HG.out]; exact hb.own (Nat.le_refl _) (by rw [ints_length, HOL.out]; exact Nat.le_refl _), by rw [← HG.out]; exact hbe⟩
      have hval : val4 os = M - N := by
        have h2 := HV.out
        rw [valB_take_all _ HPL.out, List.take_of_length_le (l := digs4 N) (by rw [HQL.out]; exact hmn), valB_take_all _ HOL.out] at h2
        have h3 := val4_lt hoB
        rw [HOL.out] at h3
        change val4 os + val4 (digs4 N) = val4 (digs4 M) + _ at h2
        rw [val4_digs4, val4_digs4] at h2
        have h4 := HLE.out
        have : cy = 0 ∨ cy = 1 := by omega
        rcases this with rfl | rfl
        · omega
        · rw [Nat.mul_one] at h2; omega
      rw [← hval]; exact hres

theorem subN_any (ao bo : Option Addr) (n c m d M N : Nat) (w : World) (hn : n ≤ 1073741824) (hm : m ≤ 1073741824) (hle : N ≤ M) (hr : Rw .i64 B4 w ao n c (digs4 M)) (hs : Rw .i64 B4 w bo m d (digs4 N)) :
    Calls Try.prog 70 #[.slice ao n c, .slice bo m d] w fun e w' => ∃ ro k c', e = .returned (.slice ro k c') ∧ Rw .i64 B4 w' ro k c' (digs4 (M - N)) ∧ k ≤ n ∧ Below w.heap.size w w' :=
  (subN_own ao bo n c m d M N w hn hm hle hr hs).mono fun e w' ⟨ro, k, c', he, h1, hk, _, h2⟩ => ⟨ro, k, c', he, h1, hk, h2⟩

end Go.Proofs.Ytkcagkcphobmfaa
