/-
  WALKS: the cut number of a statement of chapter 2, and as it is reckoned with.
-/
import Derived.Test.YtkcagkcphobmfaaZe
set_option linter.unusedVariables false
set_option linter.unusedSimpArgs false
namespace Go.Proofs.Ytkcagkcphobmfaa
open Go.RowKit

/-- The post of 'of'. -/
def RetOf (k : Nat) (s : Bool) (ao : Option Addr) (c : Nat) (w : World) (e : Ending) (w' : World) : Prop := ∃ m z ro rk rc r, e = .returned (.tuple #[.agg #[.bool s, .slice ao m c], .agg #[.slice ro rk rc, .bool r]]) ∧ Za k w' s ao m c z ∧ Rn (3 * k) w' ro rk rc r z ∧ Below w.heap.size w w'

set_option maxHeartbeats 4000000 in
theorem lof {K : Nat} {w : World} {s : Bool} {ao : Option Addr} {n c : Nat} {x : Int} (k : Nat) (h : Za K w s ao n c x) (hk : k ≤ 1000000 := by omega) (hK : K ≤ 9223372036854775807 := by omega) :
    Calls Try.prog 14 #[.agg #[.bool s, .slice ao n c], .int .i64 (k : Int)] w (RetOf k s ao c w) := by
  go_enter Try.func14, Try.ntmps14
  have hB := Below.refl w.heap.size w
  go_wp2_with fail
  obtain ⟨w1, g2, hw3, hg4, hb5, al6, ge7, sz8⟩ := mk_alloc w [(.bool s), (.slice ao n c)] 24 (N := w.heap.size) rfl
  rw [← hw3]
  have G9 := below_ge hB ge7
  replace hB := ext_trans hB al6
  replace h := h.ext al6
  clear hw3 al6 ge7
  obtain ⟨w10, g11, hw12, hg13, hb14, al15, ge16, sz17⟩ := mk_alloc w1 [(.bool false), (.slice none 0 0)] 24 (N := w.heap.size + 1) sz8
  rw [← hw12]
  have Ng2_g11 := hb5.ne ge16
  have G18 := below_ge hB ge16
  replace hB := ext_trans hB al15
  replace h := h.ext al15
  replace hb5 := hb5.ext al15
  clear hw12 al15 ge16
  obtain ⟨w19, g20, hw21, hg22, hb23, al24, ge25, sz26⟩ := mk_alloc w10 [(.slice none 0 0), (.bool false)] 28 (N := w.heap.size + 1 + 1) sz17
  rw [← hw21]
  have Ng2_g20 := hb5.ne ge25
  have Ng11_g20 := hb14.ne ge25
  have G27 := below_ge hB ge25
  replace hB := ext_trans hB al24
  replace h := h.ext al24
  replace hb5 := hb5.ext al24
  replace hb14 := hb14.ext al24
  clear hw21 al24 ge25
  try rw [show w.heap.size + 2 = g20 from hg22.symm]
  try rw [← hg22]
  rw [← hg13]
  rw [← hg4]
  clear hg4 hg13 hg22 sz8 sz17 sz26
  refine (kInt (k := k) (by omega) (by omega) h).mono ?_
  rintro e w29 ⟨m28, z28, rfl, h28, hb30⟩
  replace h := h.ext hb30
  replace hb5 := hb5.ext hb30
  replace hb14 := hb14.ext hb30
  replace hb23 := hb23.ext hb30
  replace hB := ext_trans hB hb30
  clear hb30
  obtain ⟨a31, a32, f33, f34⟩ := cells2 hb5
  have l35 := hb5.lt
  go_wp2_with fail
  clear a31 a32 f33 f34 l35
  obtain ⟨w36, hw37, hu38, hb39, sz40⟩ := mk_set2 hb5 (.bool s) (.slice ao m28 c) (N := w29.heap.size) rfl
  rw [← hw37]
  replace h := h.upd hb5 (noInt_zz _ _ _ _) hu38
  replace h28 := h28.upd hb5 (noInt_zz _ _ _ _) hu38
  replace hB := below_upd hB G9.out hb5.lt hu38
  have Mg11_g2 := hid_ne Ng2_g11
  replace hb14 := hb14.upd Mg11_g2.out hu38
  have Mg20_g2 := hid_ne Ng2_g20
  replace hb23 := hb23.upd Mg20_g2.out hu38
  clear hw37 hu38 hb5
  clear sz40
  replace h := h.drew
  replace h28 := h28.drew
  replace hB := hB.drew
  replace hb39 := hb39.drew
  replace hb14 := hb14.drew
  replace hb23 := hb23.drew
  have hS41 : Hid (∀ w', Below w36.drew.heap.size w36.drew w' → w'.cell? ⟨g2, 0, none⟩ = some (.bool s) ∧ w'.cell? ⟨g2, 1, none⟩ = some (.slice ao m28 c)) := hid (fun w' hb => ⟨(cells2 (hb39.ext hb)).1, (cells2 (hb39.ext hb)).2.1⟩)
  have Q42 := Below.refl w36.drew.heap.size w36.drew
  have e55 := Ng11_g20.out
  have Mg20_g11 := hid_ne Ng11_g20
  have e56 := Mg20_g11.out
  go_region_held3 (fun w' => w'.cell? ⟨g2, 0, none⟩ = some (.bool s) ∧ w'.cell? ⟨g2, 1, none⟩ = some (.slice ao m28 c))
    (first | with_reducible exact hS41.out _ Q46 | with_reducible exact hS41.out _ Q42 | with_reducible exact ⟨(cells2 ((hb39.ext Q46).upd Ng2_g11.out (Upd.s2 _ _ _ _))).1, (cells2 ((hb39.ext Q46).upd Ng2_g11.out (Upd.s2 _ _ _ _))).2.1⟩ | with_reducible exact ⟨(cells2 ((hb39.ext Q46).upd Ng2_g20.out (Upd.s2 _ _ _ _))).1, (cells2 ((hb39.ext Q46).upd Ng2_g20.out (Upd.s2 _ _ _ _))).2.1⟩ | with_reducible exact ⟨(cells2 (((hb39.ext Q46).upd Ng2_g11.out (Upd.s2 _ _ _ _)).upd Ng2_g20.out (Upd.s2 _ _ _ _))).1, (cells2 (((hb39.ext Q46).upd Ng2_g11.out (Upd.s2 _ _ _ _)).upd Ng2_g20.out (Upd.s2 _ _ _ _))).2.1⟩ | with_reducible exact ⟨(cells2 (((hb39.ext Q46).upd Ng2_g20.out (Upd.s2 _ _ _ _)).upd Ng2_g11.out (Upd.s2 _ _ _ _))).1, (cells2 (((hb39.ext Q46).upd Ng2_g20.out (Upd.s2 _ _ _ _)).upd Ng2_g11.out (Upd.s2 _ _ _ _))).2.1⟩)
    (first
      | (go_at_call 53; (with_reducible refine (rFrom h28).mono ?_); rintro e w44 ⟨o43, n43, c43, r43, rfl, h43, hb45⟩; have Q46 := ext_trans Q42 hb45; replace h := h.ext hb45; replace h28 := h28.ext hb45; clear hb45; obtain ⟨a47, a48, a49, a50⟩ := cells2 (hb14.ext Q46); obtain ⟨a51, a52, a53, a54⟩ := cells2 (hb23.ext Q46)))
  all_goals
    replace hb39 := hb39.ext Q46
    replace hb14 := hb14.ext Q46
    replace hb23 := hb23.ext Q46
    replace hB := ext_trans hB Q46
    clear hS41 Q42 Q46 e55 e56
    clear a47 a48 a49 a50 a51 a52 a53 a54
    obtain ⟨w57, hw58, hu59, hb60, sz61⟩ := mk_set2 hb14 (.bool s) (.slice ao m28 c) (N := w44.heap.size) rfl
    rw [← hw58]
    replace h := h.upd hb14 (noInt_zz _ _ _ _) hu59
    replace h28 := h28.upd hb14 (noInt_zz _ _ _ _) hu59
    replace h43 := h43.upd hb14 (noInt_zz _ _ _ _) hu59
    replace hB := below_upd hB G18.out hb14.lt hu59
    replace hb39 := hb39.upd Ng2_g11.out hu59
    replace hb23 := hb23.upd Mg20_g11.out hu59
    clear hw58 hu59 hb14
    obtain ⟨w62, hw63, hu64, hb65, sz66⟩ := mk_set2 hb23 (.slice o43 n43 c43) (.bool r43) (N := w44.heap.size) sz61
    rw [← hw63]
    replace h := h.upd hb23 (noInt_rr _ _ _ _) hu64
    replace h28 := h28.upd hb23 (noInt_rr _ _ _ _) hu64
    replace h43 := h43.upd hb23 (noInt_rr _ _ _ _) hu64
    replace hB := below_upd hB G27.out hb23.lt hu64
    replace hb39 := hb39.upd Ng2_g20.out hu64
    replace hb60 := hb60.upd Ng11_g20.out hu64
    clear hw63 hu64 hb23
    clear sz61 sz66
    obtain ⟨a67, a68, f69, f70⟩ := cells2 hb60
    have l71 := hb60.lt
    obtain ⟨a72, a73, f74, f75⟩ := cells2 hb65
    have l76 := hb65.lt
    go_wp2
    refine bodyPost_ret (by simp [results, Try.results14, go_sem, a67, a68, a72, a73]; try rfl) rfl ?_
    exact ⟨_, _, _, _, _, _, rfl, h28, h43, hB⟩

end Go.Proofs.Ytkcagkcphobmfaa
