/-
  ROWS OF NUMBERS, and the walks of whole.Sum, whole.Product, whole.Gcd.
-/
import Derived.Test.YtkcagkcphobmfaaZq
set_option linter.unusedVariables false
set_option linter.unusedSimpArgs false
namespace Go.Proofs.Ytkcagkcphobmfaa
open Go.RowKit

/-- A row of numbers in any form, each of at most K limbs. -/
def In (K : Nat) (w : World) (ao : Option Addr) (n c : Nat) (zs : List Int) : Prop :=
  zs.length = n ∧ n ≤ c ∧ ∀ j (h : j < zs.length), ∃ b off s a m d, ao = some ⟨b, off, none⟩ ∧ w.cell? ⟨b, off + j * 2, none⟩ = some (.bool s) ∧ w.cell? ⟨b, off + j * 2 + 1, none⟩ = some (.slice a m d) ∧ Za K w s a m d zs[j]

theorem In.ext {K : Nat} {w w' : World} {ao : Option Addr} {n c : Nat} {zs : List Int} (h : In K w ao n c zs) (he : Below w.heap.size w w') : In K w' ao n c zs := by
  refine ⟨h.1, h.2.1, fun j hj => ?_⟩
  obtain ⟨b, off, s, a, m, d, e, h1, h2, h3⟩ := h.2.2 j hj
  exact ⟨b, off, s, a, m, d, e, (he.cell (World.block_lt_of_cell? w _ h1)).trans h1, (he.cell (World.block_lt_of_cell? w _ h2)).trans h2, h3.ext he⟩

/-- The element at k. -/
theorem In.get {K : Nat} {w : World} {ao : Option Addr} {n c : Nat} {zs : List Int} (h : In K w ao n c zs) {k : Nat} (hk : k < n) :
    ∃ b off s a m d z, ao = some ⟨b, off, none⟩ ∧ zs[k]? = some z ∧ w.cell? ⟨b, off + k * 2, none⟩ = some (.bool s) ∧ w.cell? ⟨b, off + k * 2 + 1, none⟩ = some (.slice a m d) ∧ Za K w s a m d z := by
  have hl : k < zs.length := by rw [h.1]; exact hk
  obtain ⟨b, off, s, a, m, d, e, h1, h2, h3⟩ := h.2.2 k hl
  exact ⟨b, off, s, a, m, d, zs[k], e, by simp [hl], h1, h2, h3⟩

def sumZ (zs : List Int) : Int := zs.foldl (· + ·) 0
theorem sumZ_take {zs : List Int} {k : Nat} {z : Int} (h : zs[k]? = some z) : sumZ (zs.take (k + 1)) = sumZ (zs.take k) + z := by
  obtain ⟨hl, rfl⟩ := List.getElem?_eq_some_iff.1 h
  unfold sumZ
  rw [List.take_succ_eq_append_getElem hl, List.foldl_append]; rfl

set_option maxRecDepth 100000 in
set_option maxHeartbeats 8000000 in
theorem wSum {K : Nat} {w : World} {ao : Option Addr} {n c : Nat} {zs : List Int} (h : In K w ao n c zs) (hK : K ≤ 1000000 := by omega) (hn : n ≤ 1000 := by omega) :
    Calls Try.prog 48 #[.slice ao n c] w (RetN (K + n) w (sumZ zs)) := by
  go_enter Try.func48, Try.ntmps48
  have hB := Below.refl w.heap.size w
  go_wp2_with fail
  obtain ⟨w1, g2, hw3, hg4, hb5, al6, ge7, sz8⟩ := mk_alloc w [(.bool false), (.slice none 0 0)] 24 (N := w.heap.size) rfl
  rw [← hw3]
  have G9 := below_ge hB ge7
  replace hB := ext_trans hB al6
  clear hw3 al6 ge7
  obtain ⟨w10, g11, hw12, hg13, hb14, al15, ge16, sz17⟩ := mk_alloc w1 [(.bool false), (.slice none 0 0)] 24 (N := w.heap.size + 1) sz8
  rw [← hw12]
  have Ng2_g11 := hb5.ne ge16
  have G18 := below_ge hB ge16
  replace hB := ext_trans hB al15
  replace hb5 := hb5.ext al15
  clear hw12 al15 ge16
  rw [← hg13]
  rw [← hg4]
  clear hg4 hg13 sz8 sz17
  have hl := h.1
  have HL := hid hl; clear hl
  have g0 : Zn (K + 0) w10 false none 0 0 (sumZ (zs.take 0)) := (Zn.zero _).mono (by omega)
  go_loopw [8] (fun s8 wr => ∃ (k : Nat) (r : Bool) (o : Option Addr) (m d : Nat), s8 = .int .i64 (k : Int) ∧ k ≤ n ∧ Blk wr g2 24 [.bool false, .slice none 0 0] ∧ Blk wr g11 24 [.bool r, .slice o m d] ∧
    Zn (K + k) wr r o m d (sumZ (zs.take k)) ∧ Below w.heap.size w wr) (fun s8 _ => n - (intOf s8).toNat)
  case atStart => exact ⟨0, _, _, _, _, rfl, by omega, hb5, hb14, g0, hB⟩
  case round =>
    clear g0 hB hb5 hb14
    obtain ⟨k, r, o, m, d, rfl, hk, hb5, hb14, g0, hB⟩ := hrel
    by_cases hkn : k < n
    · skip
      obtain ⟨b, off, s1, a1, m1, d1, z, rfl, hz, hc1, hc2, hza⟩ := (h.ext hB).get hkn
      have HZ := hid hz; clear hz
      have hkd : decide ((k : Int) < (n : Int)) = true := by rw [decide_eq_true_eq]; omega
      have hkx : decide (k < n) = true := decide_eq_true hkn
      obtain ⟨a19, a20, f21, f22⟩ := cells2 hb14
      have l23 := hb14.lt
      go_wp2_with fail
      clear a19 a20 f21 f22 l23
      obtain ⟨w24, g25, hw26, hg27, hb28, al29, ge30, sz31⟩ := mk_alloc wr [(.bool s1), (.slice a1 m1 d1)] 24 (N := wr.heap.size) rfl
      rw [← hw26]
      have Ng2_g25 := hb5.ne ge30
      have Ng11_g25 := hb14.ne ge30
      have G32 := below_ge hB ge30
      replace hB := ext_trans hB al29
      replace g0 := g0.ext al29
      replace hza := hza.ext al29
      replace hb5 := hb5.ext al29
      replace hb14 := hb14.ext al29
      clear hw26 al29 ge30
      rw [← hg27]
      clear hg27 sz31
      refine (wAdd g0.any hza).mono ?_
      rintro e w34 ⟨r33, o33, n33, c33, rfl, h33, _, hb35⟩
      replace g0 := g0.ext hb35
      replace hza := hza.ext hb35
      replace hb5 := hb5.ext hb35
      replace hb14 := hb14.ext hb35
      replace hb28 := hb28.ext hb35
      replace hB := ext_trans hB hb35
      clear hb35
      obtain ⟨a36, a37, f38, f39⟩ := cells2 hb14
      have l40 := hb14.lt
      go_wp2_with fail
      clear a36 a37 f38 f39 l40
      obtain ⟨w41, hw42, hu43, hb44, sz45⟩ := mk_set2 hb14 (.bool r33) (.slice o33 n33 c33) (N := w34.heap.size) rfl
      rw [← hw42]
      replace g0 := g0.upd hb14 (noInt_zz _ _ _ _) hu43
      replace hza := hza.upd hb14 (noInt_zz _ _ _ _) hu43
      replace h33 := h33.upd hb14 (noInt_zz _ _ _ _) hu43
      replace hB := below_upd hB G18.out hb14.lt hu43
      replace hb5 := hb5.upd Ng2_g11.out hu43
      have Mg25_g11 := hid_ne Ng11_g25
      replace hb28 := hb28.upd Mg25_g11.out hu43
      clear hw42 hu43 hb14
      clear sz45
      go_roundw
      case rel => exact ⟨k + 1, _, _, _, _, by go_num, by omega, hb5, hb44, (by rw [sumZ_take HZ.out]; exact h33.mono (by omega)), hB⟩
      case measure => simp [intOf]; omega
    · skip
      obtain rfl : k = n := by omega
      have hkd : decide ((k : Int) < (k : Int)) = false := by simp
      have hkx : decide (k < k) = false := by simp
      obtain ⟨a19, a20, f21, f22⟩ := cells2 hb14
      have l23 := hb14.lt
      obtain ⟨a24, a25, f26, f27⟩ := cells2 hb5
      have l28 := hb5.lt
      have Mg11_g2 := hid_ne Ng2_g11
      have e29 := Mg11_g2.out
      go_wp2_with fail
      clear a19 a20 f21 f22 l23 a24 a25 f26 f27 l28 e29
      obtain ⟨w30, hw31, hu32, hb33, sz34⟩ := mk_set2 hb5 (.bool r) (.slice o m d) (N := wr.heap.size) rfl
      rw [← hw31]
      replace g0 := g0.upd hb5 (noInt_zz _ _ _ _) hu32
      replace hB := below_upd hB G9.out hb5.lt hu32
      replace hb14 := hb14.upd Mg11_g2.out hu32
      clear hw31 hu32 hb5
      clear sz34
      obtain ⟨a35, a36, f37, f38⟩ := cells2 hb33
      have l39 := hb33.lt
      go_wp2
      refine bodyPost_ret (by simp [results, Try.results48, go_sem, a35, a36]; try rfl) rfl ?_
      rw [List.take_of_length_le (Nat.le_of_eq HL.out)] at g0
      exact ⟨_, _, _, _, rfl, g0, hB⟩

end Go.Proofs.Ytkcagkcphobmfaa
