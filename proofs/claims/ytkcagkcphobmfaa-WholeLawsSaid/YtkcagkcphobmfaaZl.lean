/-
  WALKS: the plain reckoning's division.
-/
import Derived.Test.YtkcagkcphobmfaaZk
import Derived.Deep.CutBlock
import Derived.Deep.DeepCutAuto
set_option linter.unusedVariables false
set_option linter.unusedSimpArgs false
namespace Go.Proofs.Ytkcagkcphobmfaa
open Go.RowKit

theorem rmade_exact (ao : Option Addr) (n c M : Nat) (neg : Bool) (w : World) (hr : Rw .i64 B4 w ao n c (digs4 M)) :
    Calls Try.prog 59 #[.slice ao n c, .bool neg] w fun e w' => e = .returned (.agg #[.slice ao n c, .bool (neg && decide (0 < M))]) ∧ w' = w.alloc (.cells #[.slice ao n c, .bool (neg && decide (0 < M))] 28) := by
  have h0 := digs4_len_zero hr
  have hd : decide (0 < n) = decide (0 < M) := by rw [decide_eq_decide]; omega
  clear h0
  cases neg
  · go_enter Try.func59, Try.ntmps59
    go_wp2
    go_returns
    exact ⟨rfl, rfl⟩
  · rw [Bool.true_and, ← hd]
    go_enter Try.func59, Try.ntmps59
    by_cases hn : 0 < n
    · go_wp2
      go_returns
      rw [decide_eq_true hn]
      exact ⟨rfl, rfl⟩
    · obtain rfl : n = 0 := by omega
      go_wp2
      go_returns
      rw [decide_eq_false hn]
      exact ⟨rfl, rfl⟩

/-- Two new boxes, and what else was made; nothing elder is written. -/
def TwoNew (w : World) (t : TypeId) (p q : List Value) (g r : Nat) (w' : World) : Prop := Blk w' g t p ∧ Blk w' r t q ∧ g ≠ r ∧ w.heap.size ≤ g ∧ w.heap.size ≤ r ∧ Below w.heap.size w w'

theorem alloc_four (w : World) (A B C D : Obj) : let W := (((w.alloc A).alloc B).alloc C).alloc D
    W.heap[w.heap.size]? = some A ∧ W.heap[w.heap.size + 1]? = some B ∧ W.heap[w.heap.size + 2]? = some C ∧ W.heap[w.heap.size + 3]? = some D ∧ Below w.heap.size w W := by
  intro W
  have e1 : (w.alloc A).heap.size = w.heap.size + 1 := World.size_alloc _ _
  have e2 : ((w.alloc A).alloc B).heap.size = w.heap.size + 2 := by rw [World.size_alloc, e1]
  have e3 : (((w.alloc A).alloc B).alloc C).heap.size = w.heap.size + 3 := by rw [World.size_alloc, e2]
  have h4 := heap_alloc_new (((w.alloc A).alloc B).alloc C) D
  rw [e3] at h4
  have g3 := heap_alloc_new ((w.alloc A).alloc B) C
  rw [e2] at g3
  have h3 := ((alloc_ext (((w.alloc A).alloc B).alloc C) D).block (w.heap.size + 2) (by omega)).trans g3
  have g2 := heap_alloc_new (w.alloc A) B
  rw [e1] at g2
  have h2 := ((ext_trans (alloc_ext ((w.alloc A).alloc B) C) (alloc_ext _ D)).block (w.heap.size + 1) (by omega)).trans g2
  have h1 := ((ext_trans (ext_trans (alloc_ext (w.alloc A) B) (alloc_ext _ C)) (alloc_ext _ D)).block w.heap.size (by omega)).trans (heap_alloc_new w A)
  exact ⟨h1, h2, h3, h4, ext_trans (alloc_ext _ _) (ext_trans (alloc_ext _ _) (ext_trans (alloc_ext _ _) (alloc_ext _ _)))⟩

theorem twoNew_of {w : World} {A B C D : Obj} {t : TypeId} {p q : List Value} {i j : Nat} (hi : [A, B, C, D][i]? = some (.cells p.toArray t)) (hj : [A, B, C, D][j]? = some (.cells q.toArray t)) (hij : i ≠ j) :
    TwoNew w t p q (w.heap.size + i) (w.heap.size + j) ((((w.alloc A).alloc B).alloc C).alloc D).drew := by
  obtain ⟨h1, h2, h3, h4, hb⟩ := alloc_four w A B C D
  have key : ∀ (k : Nat) (o : Obj), [A, B, C, D][k]? = some o → ((((w.alloc A).alloc B).alloc C).alloc D).drew.heap[w.heap.size + k]? = some o := by
    intro k o hk
    match k, hk with
    | 0, hk => cases hk; exact h1
    | 1, hk => cases hk; exact h2
    | 2, hk => cases hk; exact h3
    | 3, hk => cases hk; exact h4
    | k + 4, hk => simp at hk
  exact ⟨key i _ hi, key j _ hj, by omega, by omega, by omega, hb.drew⟩

theorem rdiv_sum {x y : Int} : zv (decide (x < 0)) (x.natAbs % y.natAbs) + y * zv (decide (x < 0) != decide (y < 0)) (x.natAbs / y.natAbs) = x := by
  have h1 := zv_natAbs x
  have h2 := zv_natAbs y
  have h4 := congrArg (zv (decide (x < 0))) (Nat.mod_add_div x.natAbs y.natAbs)
  rw [zv_add, zv_nat_mul (decide (x < 0)) (decide (y < 0)), h1, h2] at h4
  exact h4
theorem rdiv_bound {x y : Int} (hy : y ≠ 0) : (zv (decide (x < 0)) (x.natAbs % y.natAbs)).natAbs < y.natAbs := by
  rw [zv_abs]; exact Nat.mod_lt _ (by omega)
theorem rdiv_keep {x y q r : Int} (hy : y ≠ 0) (hq : q = zv (decide (x < 0) != decide (y < 0)) (x.natAbs / y.natAbs)) (hr : r = zv (decide (x < 0)) (x.natAbs % y.natAbs)) (h : ¬ r < 0) : q = x / y ∧ r = x % y := by
  have h1 := rdiv_sum (x := x) (y := y)
  have h2 := rdiv_bound (x := x) hy
  rw [← hq, ← hr] at h1
  rw [← hr] at h2
  exact ediv_of hy h1 (by omega) (by omega)
theorem rdiv_neg {x y q r : Int} (hy : y ≠ 0) (hq : q = zv (decide (x < 0) != decide (y < 0)) (x.natAbs / y.natAbs)) (hr : r = zv (decide (x < 0)) (x.natAbs % y.natAbs)) (h : r < 0) (hn : y < 0) : q + 1 = x / y ∧ r - y = x % y := by
  have h1 := rdiv_sum (x := x) (y := y)
  have h2 := rdiv_bound (x := x) hy
  rw [← hq, ← hr] at h1
  rw [← hr] at h2
  exact ediv_of hy (by rw [Int.mul_add, Int.mul_one]; omega) (by omega) (by omega)
theorem rdiv_pos {x y q r : Int} (hy : y ≠ 0) (hq : q = zv (decide (x < 0) != decide (y < 0)) (x.natAbs / y.natAbs)) (hr : r = zv (decide (x < 0)) (x.natAbs % y.natAbs)) (h : r < 0) (hn : ¬ y < 0) : q - 1 = x / y ∧ r + y = x % y := by
  have h1 := rdiv_sum (x := x) (y := y)
  have h2 := rdiv_bound (x := x) hy
  rw [← hq, ← hr] at h1
  rw [← hr] at h2
  exact ediv_of hy (by rw [Int.mul_sub, Int.mul_one]; omega) (by omega) (by omega)

/-- The post of the plain division. -/
def RetRR (K L : Nat) (w : World) (q r : Int) (e : Ending) (w' : World) : Prop := ∃ ao n c s bo m d t, e = .returned (.tuple #[.agg #[.slice ao n c, .bool s], .agg #[.slice bo m d, .bool t]]) ∧ Rn K w' ao n c s q ∧ Rn L w' bo m d t r ∧ Below w.heap.size w w'

set_option maxHeartbeats 16000000 in
theorem rDiv {K L : Nat} {w : World} {s t : Bool} {ao bo : Option Addr} {n c m d : Nat} {x y : Int} (h : Rn K w ao n c s x) (k : Rn L w bo m d t y) (hy : y ≠ 0) (hK : K ≤ 99999900 := by omega) (hL : L ≤ 99999900 := by omega) :
    Calls Try.prog 19 #[.agg #[.slice ao n c, .bool s], .agg #[.slice bo m d, .bool t]] w (RetRR (K + 65) (K + L + 65) w (x / y) (x % y)) := by
  have HS : Hid (s = decide (x < 0)) := hid h.sgn
  have HT : Hid (t = decide (y < 0)) := hid k.sgn
  go_enter Try.func19, Try.ntmps19
  have hB := Below.refl w.heap.size w
  go_wp2_with fail
  obtain ⟨w1, g2, hw3, hg4, hb5, al6, ge7, sz8⟩ := mk_alloc w [(.slice ao n c), (.bool s)] 28 (N := w.heap.size) rfl
  rw [← hw3]
  have G9 := below_ge hB ge7
  replace hB := ext_trans hB al6
  replace h := h.ext al6
  replace k := k.ext al6
  clear hw3 al6 ge7
  obtain ⟨w10, g11, hw12, hg13, hb14, al15, ge16, sz17⟩ := mk_alloc w1 [(.slice bo m d), (.bool t)] 28 (N := w.heap.size + 1) sz8
  rw [← hw12]
  have Ng2_g11 := hb5.ne ge16
  have G18 := below_ge hB ge16
  replace hB := ext_trans hB al15
  replace h := h.ext al15
  replace k := k.ext al15
  replace hb5 := hb5.ext al15
  clear hw12 al15 ge16
  obtain ⟨w19, g20, hw21, hg22, hb23, al24, ge25, sz26⟩ := mk_alloc w10 [(.slice none 0 0), (.bool false)] 28 (N := w.heap.size + 1 + 1) sz17
  rw [← hw21]
  have Ng2_g20 := hb5.ne ge25
  have Ng11_g20 := hb14.ne ge25
  have G27 := below_ge hB ge25
  replace hB := ext_trans hB al24
  replace h := h.ext al24
  replace k := k.ext al24
  replace hb5 := hb5.ext al24
  replace hb14 := hb14.ext al24
  clear hw21 al24 ge25
  obtain ⟨w28, g29, hw30, hg31, hb32, al33, ge34, sz35⟩ := mk_alloc w19 [(.slice none 0 0), (.bool false)] 28 (N := w.heap.size + 1 + 1 + 1) sz26
  rw [← hw30]
  have Ng2_g29 := hb5.ne ge34
  have Ng11_g29 := hb14.ne ge34
  have Ng20_g29 := hb23.ne ge34
  have G36 := below_ge hB ge34
  replace hB := ext_trans hB al33
  replace h := h.ext al33
  replace k := k.ext al33
  replace hb5 := hb5.ext al33
  replace hb14 := hb14.ext al33
  replace hb23 := hb23.ext al33
  clear hw30 al33 ge34
  try rw [show w.heap.size + 3 = g29 from hg31.symm]
  try rw [← hg31]
  try rw [show w.heap.size + 2 = g20 from hg22.symm]
  try rw [← hg22]
  rw [← hg13]
  rw [← hg4]
  clear hg4 hg13 hg22 hg31 sz8 sz17 sz26 sz35
  refine (nDiv h.dg k.dg (by omega)).mono ?_
  rintro e w39 ⟨qo, qn, qc, ro, rn, rc, rfl, h37, h38, hb40⟩
  replace h := h.ext hb40
  replace k := k.ext hb40
  replace hb5 := hb5.ext hb40
  replace hb14 := hb14.ext hb40
  replace hb23 := hb23.ext hb40
  replace hb32 := hb32.ext hb40
  replace hB := ext_trans hB hb40
  clear hb40
  obtain ⟨q0, hq0⟩ : ∃ q, q = zv (decide (x < 0) != decide (y < 0)) (x.natAbs / y.natAbs) := ⟨_, rfl⟩
  obtain ⟨r0, hr0⟩ : ∃ r, r = zv (decide (x < 0)) (x.natAbs % y.natAbs) := ⟨_, rfl⟩
  obtain ⟨sq, hsq⟩ : ∃ b, b = ((!s == t) && decide (0 < x.natAbs / y.natAbs)) := ⟨_, rfl⟩
  obtain ⟨sr, hsr⟩ : ∃ b, b = (s && decide (0 < x.natAbs % y.natAbs)) := ⟨_, rfl⟩
  have HQ0 := hid hq0; have HR0 := hid hr0; have HSQ := hid hsq; have HSR := hid hsr; clear hq0 hr0 hsq hsr
  obtain ⟨a41, a42, f43, f44⟩ := cells2 hb5
  have l45 := hb5.lt
  obtain ⟨a46, a47, f48, f49⟩ := cells2 hb14
  have l50 := hb14.lt
  go_upto_region 2 with (fail)
  clear a41 a42 f43 f44 l45 a46 a47 f48 f49 l50
  go_cut [8, 9] (fun s8 s9 wx => ∃ g8 g9, s8 = .pointer (some ⟨g8, 0, none⟩) ∧ s9 = .pointer (some ⟨g9, 0, none⟩) ∧ TwoNew w39 28 [.slice qo qn qc, .bool sq] [.slice ro rn rc, .bool sr] g8 g9 wx)
  case first =>
    have hS : Hid (∀ w', Below w39.heap.size w39 w' → w'.cell? ⟨g2, 1, none⟩ = some (.bool s) ∧ w'.cell? ⟨g11, 1, none⟩ = some (.bool t)) := hid (fun w' hb => ⟨(cells2 (hb5.ext hb)).2.1, (cells2 (hb14.ext hb)).2.1⟩)
    clear h k hB hb5 hb14 hb23 hb32
    have hq := h37.2; have hr := h38.2
    clear h37 h38
    go_region_held3 (fun w' => w'.cell? ⟨g2, 1, none⟩ = some (.bool s) ∧ w'.cell? ⟨g11, 1, none⟩ = some (.bool t))
      (first | with_reducible exact hS.out _ (Below.refl _ _).drew | with_reducible exact hS.out _ (alloc_ext _ _).drew | with_reducible exact hS.out _ (ext_trans (alloc_ext _ _) (alloc_ext _ _)).drew | with_reducible exact hS.out _ (ext_trans (ext_trans (alloc_ext _ _) (alloc_ext _ _)) (alloc_ext _ _)).drew | with_reducible exact hS.out _ (ext_trans (ext_trans (ext_trans (alloc_ext _ _) (alloc_ext _ _)) (alloc_ext _ _)) (alloc_ext _ _)).drew)
      (first
        | (go_at_call 59; (with_reducible refine (rmade_exact qo qn qc (x.natAbs / y.natAbs) (!s == t) _ (hq.ext (Below.refl _ _).drew)).mono ?_); rintro e _ ⟨rfl, rfl⟩; rw [← HSQ.out])
        | (go_at_call 59; (with_reducible refine (rmade_exact qo qn qc (x.natAbs / y.natAbs) (!s == t) _ (hq.ext (alloc_ext _ _).drew)).mono ?_); rintro e _ ⟨rfl, rfl⟩; rw [← HSQ.out])
        | (go_at_call 59; (with_reducible refine (rmade_exact qo qn qc (x.natAbs / y.natAbs) (!s == t) _ (hq.ext (ext_trans (alloc_ext _ _) (alloc_ext _ _)).drew)).mono ?_); rintro e _ ⟨rfl, rfl⟩; rw [← HSQ.out])
        | (go_at_call 59; (with_reducible refine (rmade_exact qo qn qc (x.natAbs / y.natAbs) (!s == t) _ (hq.ext (ext_trans (ext_trans (alloc_ext _ _) (alloc_ext _ _)) (alloc_ext _ _)).drew)).mono ?_); rintro e _ ⟨rfl, rfl⟩; rw [← HSQ.out])
        | (go_at_call 59; (with_reducible refine (rmade_exact ro rn rc (x.natAbs % y.natAbs) s _ (hr.ext (Below.refl _ _).drew)).mono ?_); rintro e _ ⟨rfl, rfl⟩; rw [← HSR.out])
        | (go_at_call 59; (with_reducible refine (rmade_exact ro rn rc (x.natAbs % y.natAbs) s _ (hr.ext (alloc_ext _ _).drew)).mono ?_); rintro e _ ⟨rfl, rfl⟩; rw [← HSR.out])
        | (go_at_call 59; (with_reducible refine (rmade_exact ro rn rc (x.natAbs % y.natAbs) s _ (hr.ext (ext_trans (alloc_ext _ _) (alloc_ext _ _)).drew)).mono ?_); rintro e _ ⟨rfl, rfl⟩; rw [← HSR.out])
        | (go_at_call 59; (with_reducible refine (rmade_exact ro rn rc (x.natAbs % y.natAbs) s _ (hr.ext (ext_trans (ext_trans (alloc_ext _ _) (alloc_ext _ _)) (alloc_ext _ _)).drew)).mono ?_); rintro e _ ⟨rfl, rfl⟩; rw [← HSR.out]))
    all_goals (go_wp2_with fail)
    all_goals go_meet
    all_goals refine ⟨_, _, rfl, rfl, ?_⟩
    all_goals first | exact twoNew_of (i := 0) (j := 1) rfl rfl (by decide) | exact twoNew_of (i := 0) (j := 2) rfl rfl (by decide) | exact twoNew_of (i := 0) (j := 3) rfl rfl (by decide) | exact twoNew_of (i := 1) (j := 0) rfl rfl (by decide) | exact twoNew_of (i := 1) (j := 2) rfl rfl (by decide) | exact twoNew_of (i := 1) (j := 3) rfl rfl (by decide) | exact twoNew_of (i := 2) (j := 0) rfl rfl (by decide) | exact twoNew_of (i := 2) (j := 1) rfl rfl (by decide) | exact twoNew_of (i := 2) (j := 3) rfl rfl (by decide) | exact twoNew_of (i := 3) (j := 0) rfl rfl (by decide) | exact twoNew_of (i := 3) (j := 1) rfl rfl (by decide) | exact twoNew_of (i := 3) (j := 2) rfl rfl (by decide)
  case rest =>
    obtain ⟨g8, g9, rfl, rfl, hb8, hb9, hne89, hge8, hge9, hbx⟩ := hcut
    have Ng2_g8 := hb5.ne hge8
    have Ng2_g9 := hb5.ne hge9
    have Ng11_g8 := hb14.ne hge8
    have Ng11_g9 := hb14.ne hge9
    have Ng20_g8 := hb23.ne hge8
    have Ng20_g9 := hb23.ne hge9
    have Ng29_g8 := hb32.ne hge8
    have Ng29_g9 := hb32.ne hge9
    have Ng8_g9 := hid hne89
    have Gx8 := below_ge hB hge8
    have Gx9 := below_ge hB hge9
    replace h := h.ext hbx
    replace k := k.ext hbx
    replace h37 := h37.ext hbx
    replace h38 := h38.ext hbx
    replace hb5 := hb5.ext hbx
    replace hb14 := hb14.ext hbx
    replace hb23 := hb23.ext hbx
    replace hb32 := hb32.ext hbx
    replace hB := ext_trans hB hbx
    clear hbx hne89 hge8 hge9
    have hx : Rn K wc qo qn qc sq q0 := by rw [HSQ.out]; exact Rn.mk (sg := (!s == t)) h37.2 (by rw [HQ0.out, HS.out, HT.out]; cases decide (x < 0) <;> cases decide (y < 0) <;> rfl) h37.lt
    have hr : Rn L wc ro rn rc sr r0 := by rw [HSR.out]; exact Rn.mk (sg := s) h38.2 (by rw [HR0.out, HS.out]) h38.lt
    by_cases hneg : r0 < 0
    · obtain rfl : sr = true := by rw [hr.sgn]; exact decide_eq_true hneg
      by_cases hyn : y < 0
      · obtain rfl : t = true := by rw [HT.out]; exact decide_eq_true hyn
        obtain ⟨a51, a52, f53, f54⟩ := cells2 hb9
        have l55 := hb9.lt
        obtain ⟨a56, a57, f58, f59⟩ := cells2 hb14
        have l60 := hb14.lt
        go_wp2_with fail
        clear a51 a52 f53 f54 l55 a56 a57 f58 f59 l60
        replace h := h.drew
        replace k := k.drew
        replace h37 := h37.drew
        replace h38 := h38.drew
        replace hx := hx.drew
        replace hr := hr.drew
        replace hB := hB.drew
        replace hb5 := hb5.drew
        replace hb14 := hb14.drew
        replace hb23 := hb23.drew
        replace hb32 := hb32.drew
        replace hb8 := hb8.drew
        replace hb9 := hb9.drew
        have hS61 : Hid (∀ w', Below wc.drew.heap.size wc.drew w' → w'.cell? ⟨g8, 0, none⟩ = some (.slice qo qn qc) ∧ w'.cell? ⟨g8, 1, none⟩ = some (.bool sq) ∧ w'.cell? ⟨g9, 0, none⟩ = some (.slice ro rn rc) ∧ w'.cell? ⟨g9, 1, none⟩ = some (.bool true) ∧ w'.cell? ⟨g11, 0, none⟩ = some (.slice bo m d) ∧ w'.cell? ⟨g11, 1, none⟩ = some (.bool true)) := hid (fun w' hb => ⟨(cells2 (hb8.ext hb)).1, (cells2 (hb8.ext hb)).2.1, (cells2 (hb9.ext hb)).1, (cells2 (hb9.ext hb)).2.1, (cells2 (hb14.ext hb)).1, (cells2 (hb14.ext hb)).2.1⟩)
        have Q62 := Below.refl wc.drew.heap.size wc.drew
        have Mg8_g20 := hid_ne Ng20_g8
        have Mg9_g20 := hid_ne Ng20_g9
        have Mg8_g29 := hid_ne Ng29_g8
        have Mg9_g29 := hid_ne Ng29_g9
        have e83 := Ng20_g29.out
        have Mg29_g20 := hid_ne Ng20_g29
        have e84 := Mg29_g20.out
        go_region_held3 (fun w' => w'.cell? ⟨g8, 0, none⟩ = some (.slice qo qn qc) ∧ w'.cell? ⟨g8, 1, none⟩ = some (.bool sq) ∧ w'.cell? ⟨g9, 0, none⟩ = some (.slice ro rn rc) ∧ w'.cell? ⟨g9, 1, none⟩ = some (.bool true) ∧ w'.cell? ⟨g11, 0, none⟩ = some (.slice bo m d) ∧ w'.cell? ⟨g11, 1, none⟩ = some (.bool true))
          (first | with_reducible exact hS61.out _ Q74 | with_reducible exact hS61.out _ Q70 | with_reducible exact hS61.out _ Q66 | with_reducible exact hS61.out _ Q62 | with_reducible exact ⟨(cells2 ((hb8.ext Q74).upd Mg8_g20.out (Upd.s2 _ _ _ _))).1, (cells2 ((hb8.ext Q74).upd Mg8_g20.out (Upd.s2 _ _ _ _))).2.1, (cells2 ((hb9.ext Q74).upd Mg9_g20.out (Upd.s2 _ _ _ _))).1, (cells2 ((hb9.ext Q74).upd Mg9_g20.out (Upd.s2 _ _ _ _))).2.1, (cells2 ((hb14.ext Q74).upd Ng11_g20.out (Upd.s2 _ _ _ _))).1, (cells2 ((hb14.ext Q74).upd Ng11_g20.out (Upd.s2 _ _ _ _))).2.1⟩ | with_reducible exact ⟨(cells2 ((hb8.ext Q74).upd Mg8_g29.out (Upd.s2 _ _ _ _))).1, (cells2 ((hb8.ext Q74).upd Mg8_g29.out (Upd.s2 _ _ _ _))).2.1, (cells2 ((hb9.ext Q74).upd Mg9_g29.out (Upd.s2 _ _ _ _))).1, (cells2 ((hb9.ext Q74).upd Mg9_g29.out (Upd.s2 _ _ _ _))).2.1, (cells2 ((hb14.ext Q74).upd Ng11_g29.out (Upd.s2 _ _ _ _))).1, (cells2 ((hb14.ext Q74).upd Ng11_g29.out (Upd.s2 _ _ _ _))).2.1⟩ | with_reducible exact ⟨(cells2 (((hb8.ext Q74).upd Mg8_g20.out (Upd.s2 _ _ _ _)).upd Mg8_g29.out (Upd.s2 _ _ _ _))).1, (cells2 (((hb8.ext Q74).upd Mg8_g20.out (Upd.s2 _ _ _ _)).upd Mg8_g29.out (Upd.s2 _ _ _ _))).2.1, (cells2 (((hb9.ext Q74).upd Mg9_g20.out (Upd.s2 _ _ _ _)).upd Mg9_g29.out (Upd.s2 _ _ _ _))).1, (cells2 (((hb9.ext Q74).upd Mg9_g20.out (Upd.s2 _ _ _ _)).upd Mg9_g29.out (Upd.s2 _ _ _ _))).2.1, (cells2 (((hb14.ext Q74).upd Ng11_g20.out (Upd.s2 _ _ _ _)).upd Ng11_g29.out (Upd.s2 _ _ _ _))).1, (cells2 (((hb14.ext Q74).upd Ng11_g20.out (Upd.s2 _ _ _ _)).upd Ng11_g29.out (Upd.s2 _ _ _ _))).2.1⟩ | with_reducible exact ⟨(cells2 (((hb8.ext Q74).upd Mg8_g29.out (Upd.s2 _ _ _ _)).upd Mg8_g20.out (Upd.s2 _ _ _ _))).1, (cells2 (((hb8.ext Q74).upd Mg8_g29.out (Upd.s2 _ _ _ _)).upd Mg8_g20.out (Upd.s2 _ _ _ _))).2.1, (cells2 (((hb9.ext Q74).upd Mg9_g29.out (Upd.s2 _ _ _ _)).upd Mg9_g20.out (Upd.s2 _ _ _ _))).1, (cells2 (((hb9.ext Q74).upd Mg9_g29.out (Upd.s2 _ _ _ _)).upd Mg9_g20.out (Upd.s2 _ _ _ _))).2.1, (cells2 (((hb14.ext Q74).upd Ng11_g29.out (Upd.s2 _ _ _ _)).upd Ng11_g20.out (Upd.s2 _ _ _ _))).1, (cells2 (((hb14.ext Q74).upd Ng11_g29.out (Upd.s2 _ _ _ _)).upd Ng11_g20.out (Upd.s2 _ _ _ _))).2.1⟩)
          (first
            | (go_at_call 24; (with_reducible refine (rOf 1 _ (by omega) (by omega)).mono ?_); rintro e w64 ⟨o63, n63, c63, r63, rfl, h63, hb65⟩; have Q66 := ext_trans Q62 hb65; replace h := h.ext hb65; replace k := k.ext hb65; replace h37 := h37.ext hb65; replace h38 := h38.ext hb65; replace hx := hx.ext hb65; replace hr := hr.ext hb65; clear hb65)
            | (go_at_call 39; (with_reducible refine (rAdd hx h63).mono ?_); rintro e w68 ⟨o67, n67, c67, r67, rfl, h67, hb69⟩; have Q70 := ext_trans Q66 hb69; replace h := h.ext hb69; replace k := k.ext hb69; replace h37 := h37.ext hb69; replace h38 := h38.ext hb69; replace hx := hx.ext hb69; replace hr := hr.ext hb69; replace h63 := h63.ext hb69; clear hb69)
            | (go_at_call 40; (with_reducible refine (rSub hr k).mono ?_); rintro e w72 ⟨o71, n71, c71, r71, rfl, h71, hb73⟩; have Q74 := ext_trans Q70 hb73; replace h := h.ext hb73; replace k := k.ext hb73; replace h37 := h37.ext hb73; replace h38 := h38.ext hb73; replace hx := hx.ext hb73; replace hr := hr.ext hb73; replace h63 := h63.ext hb73; replace h67 := h67.ext hb73; clear hb73; obtain ⟨a75, a76, a77, a78⟩ := cells2 (hb23.ext Q74); obtain ⟨a79, a80, a81, a82⟩ := cells2 (hb32.ext Q74)))
        all_goals
          replace hb5 := hb5.ext Q74
          replace hb14 := hb14.ext Q74
          replace hb23 := hb23.ext Q74
          replace hb32 := hb32.ext Q74
          replace hb8 := hb8.ext Q74
          replace hb9 := hb9.ext Q74
          replace hB := ext_trans hB Q74
          clear hS61 Q62 Q66 Q70 Q74 e83 e84
          clear a75 a76 a77 a78 a79 a80 a81 a82
          obtain ⟨w85, hw86, hu87, hb88, sz89⟩ := mk_set2 hb23 (.slice o67 n67 c67) (.bool r67) (N := w72.heap.size) rfl
          rw [← hw86]
          replace h := h.upd hb23 (noInt_rr _ _ _ _) hu87
          replace k := k.upd hb23 (noInt_rr _ _ _ _) hu87
          replace h37 := h37.upd hb23 (noInt_rr _ _ _ _) hu87
          replace h38 := h38.upd hb23 (noInt_rr _ _ _ _) hu87
          replace hx := hx.upd hb23 (noInt_rr _ _ _ _) hu87
          replace hr := hr.upd hb23 (noInt_rr _ _ _ _) hu87
          replace h63 := h63.upd hb23 (noInt_rr _ _ _ _) hu87
          replace h67 := h67.upd hb23 (noInt_rr _ _ _ _) hu87
          replace h71 := h71.upd hb23 (noInt_rr _ _ _ _) hu87
          replace hB := below_upd hB G27.out hb23.lt hu87
          replace hb5 := hb5.upd Ng2_g20.out hu87
          replace hb14 := hb14.upd Ng11_g20.out hu87
          replace hb32 := hb32.upd Mg29_g20.out hu87
          replace hb8 := hb8.upd Mg8_g20.out hu87
          replace hb9 := hb9.upd Mg9_g20.out hu87
          clear hw86 hu87 hb23
          obtain ⟨w90, hw91, hu92, hb93, sz94⟩ := mk_set2 hb32 (.slice o71 n71 c71) (.bool r71) (N := w72.heap.size) sz89
          rw [← hw91]
          replace h := h.upd hb32 (noInt_rr _ _ _ _) hu92
          replace k := k.upd hb32 (noInt_rr _ _ _ _) hu92
          replace h37 := h37.upd hb32 (noInt_rr _ _ _ _) hu92
          replace h38 := h38.upd hb32 (noInt_rr _ _ _ _) hu92
          replace hx := hx.upd hb32 (noInt_rr _ _ _ _) hu92
          replace hr := hr.upd hb32 (noInt_rr _ _ _ _) hu92
          replace h63 := h63.upd hb32 (noInt_rr _ _ _ _) hu92
          replace h67 := h67.upd hb32 (noInt_rr _ _ _ _) hu92
          replace h71 := h71.upd hb32 (noInt_rr _ _ _ _) hu92
          replace hB := below_upd hB G36.out hb32.lt hu92
          replace hb5 := hb5.upd Ng2_g29.out hu92
          replace hb14 := hb14.upd Ng11_g29.out hu92
          replace hb88 := hb88.upd Ng20_g29.out hu92
          replace hb8 := hb8.upd Mg8_g29.out hu92
          replace hb9 := hb9.upd Mg9_g29.out hu92
          clear hw91 hu92 hb32
          clear sz89 sz94
          obtain ⟨a95, a96, f97, f98⟩ := cells2 hb88
          have l99 := hb88.lt
          obtain ⟨a100, a101, f102, f103⟩ := cells2 hb93
          have l104 := hb93.lt
          go_wp2
          refine bodyPost_ret (by simp [results, Try.results19, go_sem, a95, a96, a100, a101]; try rfl) rfl ?_
          obtain ⟨e1, e2⟩ := rdiv_neg hy HQ0.out HR0.out (by omega) (by omega)
          rw [e1] at h67
          rw [e2] at h71
          exact ⟨_, _, _, _, _, _, _, _, rfl, h67.mono (by omega), h71.mono (by omega), hB⟩
      · obtain rfl : t = false := by rw [HT.out]; exact decide_eq_false hyn
        obtain ⟨a51, a52, f53, f54⟩ := cells2 hb9
        have l55 := hb9.lt
        obtain ⟨a56, a57, f58, f59⟩ := cells2 hb14
        have l60 := hb14.lt
        go_wp2_with fail
        clear a51 a52 f53 f54 l55 a56 a57 f58 f59 l60
        replace h := h.drew
        replace k := k.drew
        replace h37 := h37.drew
        replace h38 := h38.drew
        replace hx := hx.drew
        replace hr := hr.drew
        replace hB := hB.drew
        replace hb5 := hb5.drew
        replace hb14 := hb14.drew
        replace hb23 := hb23.drew
        replace hb32 := hb32.drew
        replace hb8 := hb8.drew
        replace hb9 := hb9.drew
        have hS61 : Hid (∀ w', Below wc.drew.heap.size wc.drew w' → w'.cell? ⟨g8, 0, none⟩ = some (.slice qo qn qc) ∧ w'.cell? ⟨g8, 1, none⟩ = some (.bool sq) ∧ w'.cell? ⟨g9, 0, none⟩ = some (.slice ro rn rc) ∧ w'.cell? ⟨g9, 1, none⟩ = some (.bool true) ∧ w'.cell? ⟨g11, 0, none⟩ = some (.slice bo m d) ∧ w'.cell? ⟨g11, 1, none⟩ = some (.bool false)) := hid (fun w' hb => ⟨(cells2 (hb8.ext hb)).1, (cells2 (hb8.ext hb)).2.1, (cells2 (hb9.ext hb)).1, (cells2 (hb9.ext hb)).2.1, (cells2 (hb14.ext hb)).1, (cells2 (hb14.ext hb)).2.1⟩)
        have Q62 := Below.refl wc.drew.heap.size wc.drew
        have Mg8_g20 := hid_ne Ng20_g8
        have Mg9_g20 := hid_ne Ng20_g9
        have Mg8_g29 := hid_ne Ng29_g8
        have Mg9_g29 := hid_ne Ng29_g9
        have e83 := Ng20_g29.out
        have Mg29_g20 := hid_ne Ng20_g29
        have e84 := Mg29_g20.out
        go_region_held3 (fun w' => w'.cell? ⟨g8, 0, none⟩ = some (.slice qo qn qc) ∧ w'.cell? ⟨g8, 1, none⟩ = some (.bool sq) ∧ w'.cell? ⟨g9, 0, none⟩ = some (.slice ro rn rc) ∧ w'.cell? ⟨g9, 1, none⟩ = some (.bool true) ∧ w'.cell? ⟨g11, 0, none⟩ = some (.slice bo m d) ∧ w'.cell? ⟨g11, 1, none⟩ = some (.bool false))
          (first | with_reducible exact hS61.out _ Q74 | with_reducible exact hS61.out _ Q70 | with_reducible exact hS61.out _ Q66 | with_reducible exact hS61.out _ Q62 | with_reducible exact ⟨(cells2 ((hb8.ext Q74).upd Mg8_g20.out (Upd.s2 _ _ _ _))).1, (cells2 ((hb8.ext Q74).upd Mg8_g20.out (Upd.s2 _ _ _ _))).2.1, (cells2 ((hb9.ext Q74).upd Mg9_g20.out (Upd.s2 _ _ _ _))).1, (cells2 ((hb9.ext Q74).upd Mg9_g20.out (Upd.s2 _ _ _ _))).2.1, (cells2 ((hb14.ext Q74).upd Ng11_g20.out (Upd.s2 _ _ _ _))).1, (cells2 ((hb14.ext Q74).upd Ng11_g20.out (Upd.s2 _ _ _ _))).2.1⟩ | with_reducible exact ⟨(cells2 ((hb8.ext Q74).upd Mg8_g29.out (Upd.s2 _ _ _ _))).1, (cells2 ((hb8.ext Q74).upd Mg8_g29.out (Upd.s2 _ _ _ _))).2.1, (cells2 ((hb9.ext Q74).upd Mg9_g29.out (Upd.s2 _ _ _ _))).1, (cells2 ((hb9.ext Q74).upd Mg9_g29.out (Upd.s2 _ _ _ _))).2.1, (cells2 ((hb14.ext Q74).upd Ng11_g29.out (Upd.s2 _ _ _ _))).1, (cells2 ((hb14.ext Q74).upd Ng11_g29.out (Upd.s2 _ _ _ _))).2.1⟩ | with_reducible exact ⟨(cells2 (((hb8.ext Q74).upd Mg8_g20.out (Upd.s2 _ _ _ _)).upd Mg8_g29.out (Upd.s2 _ _ _ _))).1, (cells2 (((hb8.ext Q74).upd Mg8_g20.out (Upd.s2 _ _ _ _)).upd Mg8_g29.out (Upd.s2 _ _ _ _))).2.1, (cells2 (((hb9.ext Q74).upd Mg9_g20.out (Upd.s2 _ _ _ _)).upd Mg9_g29.out (Upd.s2 _ _ _ _))).1, (cells2 (((hb9.ext Q74).upd Mg9_g20.out (Upd.s2 _ _ _ _)).upd Mg9_g29.out (Upd.s2 _ _ _ _))).2.1, (cells2 (((hb14.ext Q74).upd Ng11_g20.out (Upd.s2 _ _ _ _)).upd Ng11_g29.out (Upd.s2 _ _ _ _))).1, (cells2 (((hb14.ext Q74).upd Ng11_g20.out (Upd.s2 _ _ _ _)).upd Ng11_g29.out (Upd.s2 _ _ _ _))).2.1⟩ | with_reducible exact ⟨(cells2 (((hb8.ext Q74).upd Mg8_g29.out (Upd.s2 _ _ _ _)).upd Mg8_g20.out (Upd.s2 _ _ _ _))).1, (cells2 (((hb8.ext Q74).upd Mg8_g29.out (Upd.s2 _ _ _ _)).upd Mg8_g20.out (Upd.s2 _ _ _ _))).2.1, (cells2 (((hb9.ext Q74).upd Mg9_g29.out (Upd.s2 _ _ _ _)).upd Mg9_g20.out (Upd.s2 _ _ _ _))).1, (cells2 (((hb9.ext Q74).upd Mg9_g29.out (Upd.s2 _ _ _ _)).upd Mg9_g20.out (Upd.s2 _ _ _ _))).2.1, (cells2 (((hb14.ext Q74).upd Ng11_g29.out (Upd.s2 _ _ _ _)).upd Ng11_g20.out (Upd.s2 _ _ _ _))).1, (cells2 (((hb14.ext Q74).upd Ng11_g29.out (Upd.s2 _ _ _ _)).upd Ng11_g20.out (Upd.s2 _ _ _ _))).2.1⟩)
          (first
            | (go_at_call 24; (with_reducible refine (rOf 1 _ (by omega) (by omega)).mono ?_); rintro e w64 ⟨o63, n63, c63, r63, rfl, h63, hb65⟩; have Q66 := ext_trans Q62 hb65; replace h := h.ext hb65; replace k := k.ext hb65; replace h37 := h37.ext hb65; replace h38 := h38.ext hb65; replace hx := hx.ext hb65; replace hr := hr.ext hb65; clear hb65)
            | (go_at_call 40; (with_reducible refine (rSub hx h63).mono ?_); rintro e w68 ⟨o67, n67, c67, r67, rfl, h67, hb69⟩; have Q70 := ext_trans Q66 hb69; replace h := h.ext hb69; replace k := k.ext hb69; replace h37 := h37.ext hb69; replace h38 := h38.ext hb69; replace hx := hx.ext hb69; replace hr := hr.ext hb69; replace h63 := h63.ext hb69; clear hb69)
            | (go_at_call 39; (with_reducible refine (rAdd hr k).mono ?_); rintro e w72 ⟨o71, n71, c71, r71, rfl, h71, hb73⟩; have Q74 := ext_trans Q70 hb73; replace h := h.ext hb73; replace k := k.ext hb73; replace h37 := h37.ext hb73; replace h38 := h38.ext hb73; replace hx := hx.ext hb73; replace hr := hr.ext hb73; replace h63 := h63.ext hb73; replace h67 := h67.ext hb73; clear hb73; obtain ⟨a75, a76, a77, a78⟩ := cells2 (hb23.ext Q74); obtain ⟨a79, a80, a81, a82⟩ := cells2 (hb32.ext Q74)))
        all_goals
          replace hb5 := hb5.ext Q74
          replace hb14 := hb14.ext Q74
          replace hb23 := hb23.ext Q74
          replace hb32 := hb32.ext Q74
          replace hb8 := hb8.ext Q74
          replace hb9 := hb9.ext Q74
          replace hB := ext_trans hB Q74
          clear hS61 Q62 Q66 Q70 Q74 e83 e84
          clear a75 a76 a77 a78 a79 a80 a81 a82
          obtain ⟨w85, hw86, hu87, hb88, sz89⟩ := mk_set2 hb23 (.slice o67 n67 c67) (.bool r67) (N := w72.heap.size) rfl
          rw [← hw86]
          replace h := h.upd hb23 (noInt_rr _ _ _ _) hu87
          replace k := k.upd hb23 (noInt_rr _ _ _ _) hu87
          replace h37 := h37.upd hb23 (noInt_rr _ _ _ _) hu87
          replace h38 := h38.upd hb23 (noInt_rr _ _ _ _) hu87
          replace hx := hx.upd hb23 (noInt_rr _ _ _ _) hu87
          replace hr := hr.upd hb23 (noInt_rr _ _ _ _) hu87
          replace h63 := h63.upd hb23 (noInt_rr _ _ _ _) hu87
          replace h67 := h67.upd hb23 (noInt_rr _ _ _ _) hu87
          replace h71 := h71.upd hb23 (noInt_rr _ _ _ _) hu87
          replace hB := below_upd hB G27.out hb23.lt hu87
          replace hb5 := hb5.upd Ng2_g20.out hu87
          replace hb14 := hb14.upd Ng11_g20.out hu87
          replace hb32 := hb32.upd Mg29_g20.out hu87
          replace hb8 := hb8.upd Mg8_g20.out hu87
          replace hb9 := hb9.upd Mg9_g20.out hu87
          clear hw86 hu87 hb23
          obtain ⟨w90, hw91, hu92, hb93, sz94⟩ := mk_set2 hb32 (.slice o71 n71 c71) (.bool r71) (N := w72.heap.size) sz89
          rw [← hw91]
          replace h := h.upd hb32 (noInt_rr _ _ _ _) hu92
          replace k := k.upd hb32 (noInt_rr _ _ _ _) hu92
          replace h37 := h37.upd hb32 (noInt_rr _ _ _ _) hu92
          replace h38 := h38.upd hb32 (noInt_rr _ _ _ _) hu92
          replace hx := hx.upd hb32 (noInt_rr _ _ _ _) hu92
          replace hr := hr.upd hb32 (noInt_rr _ _ _ _) hu92
          replace h63 := h63.upd hb32 (noInt_rr _ _ _ _) hu92
          replace h67 := h67.upd hb32 (noInt_rr _ _ _ _) hu92
          replace h71 := h71.upd hb32 (noInt_rr _ _ _ _) hu92
          replace hB := below_upd hB G36.out hb32.lt hu92
          replace hb5 := hb5.upd Ng2_g29.out hu92
          replace hb14 := hb14.upd Ng11_g29.out hu92
          replace hb88 := hb88.upd Ng20_g29.out hu92
          replace hb8 := hb8.upd Mg8_g29.out hu92
          replace hb9 := hb9.upd Mg9_g29.out hu92
          clear hw91 hu92 hb32
          clear sz89 sz94
          obtain ⟨a95, a96, f97, f98⟩ := cells2 hb88
          have l99 := hb88.lt
          obtain ⟨a100, a101, f102, f103⟩ := cells2 hb93
          have l104 := hb93.lt
          go_wp2
          refine bodyPost_ret (by simp [results, Try.results19, go_sem, a95, a96, a100, a101]; try rfl) rfl ?_
          obtain ⟨e1, e2⟩ := rdiv_pos hy HQ0.out HR0.out (by omega) (by omega)
          rw [e1] at h67
          rw [e2] at h71
          exact ⟨_, _, _, _, _, _, _, _, rfl, h67.mono (by omega), h71.mono (by omega), hB⟩
    · obtain rfl : sr = false := by rw [hr.sgn]; exact decide_eq_false hneg
      obtain ⟨a51, a52, f53, f54⟩ := cells2 hb9
      have l55 := hb9.lt
      go_wp2_with fail
      clear a51 a52 f53 f54 l55
      obtain ⟨a56, a57, f58, f59⟩ := cells2 hb8
      have l60 := hb8.lt
      obtain ⟨a61, a62, f63, f64⟩ := cells2 hb9
      have l65 := hb9.lt
      obtain ⟨a66, a67, f68, f69⟩ := cells2 hb23
      have l70 := hb23.lt
      obtain ⟨a71, a72, f73, f74⟩ := cells2 hb32
      have l75 := hb32.lt
      have Mg8_g20 := hid_ne Ng20_g8
      have e76 := Mg8_g20.out
      have Mg8_g29 := hid_ne Ng29_g8
      have e77 := Mg8_g29.out
      have Mg9_g20 := hid_ne Ng20_g9
      have e78 := Mg9_g20.out
      have Mg9_g29 := hid_ne Ng29_g9
      have e79 := Mg9_g29.out
      have e80 := Ng20_g29.out
      have Mg29_g20 := hid_ne Ng20_g29
      have e81 := Mg29_g20.out
      go_region
      all_goals
        clear a56 a57 f58 f59 l60 a61 a62 f63 f64 l65 a66 a67 f68 f69 l70 a71 a72 f73 f74 l75 e76 e77 e78 e79 e80 e81
        obtain ⟨w82, hw83, hu84, hb85, sz86⟩ := mk_set2 hb23 (.slice qo qn qc) (.bool sq) (N := wc.heap.size) rfl
        rw [← hw83]
        replace h := h.upd hb23 (noInt_rr _ _ _ _) hu84
        replace k := k.upd hb23 (noInt_rr _ _ _ _) hu84
        replace h37 := h37.upd hb23 (noInt_rr _ _ _ _) hu84
        replace h38 := h38.upd hb23 (noInt_rr _ _ _ _) hu84
        replace hx := hx.upd hb23 (noInt_rr _ _ _ _) hu84
        replace hr := hr.upd hb23 (noInt_rr _ _ _ _) hu84
        replace hB := below_upd hB G27.out hb23.lt hu84
        replace hb5 := hb5.upd Ng2_g20.out hu84
        replace hb14 := hb14.upd Ng11_g20.out hu84
        replace hb32 := hb32.upd Mg29_g20.out hu84
        replace hb8 := hb8.upd Mg8_g20.out hu84
        replace hb9 := hb9.upd Mg9_g20.out hu84
        clear hw83 hu84 hb23
        obtain ⟨w87, hw88, hu89, hb90, sz91⟩ := mk_set2 hb32 (.slice ro rn rc) (.bool false) (N := wc.heap.size) sz86
        rw [← hw88]
        replace h := h.upd hb32 (noInt_rr _ _ _ _) hu89
        replace k := k.upd hb32 (noInt_rr _ _ _ _) hu89
        replace h37 := h37.upd hb32 (noInt_rr _ _ _ _) hu89
        replace h38 := h38.upd hb32 (noInt_rr _ _ _ _) hu89
        replace hx := hx.upd hb32 (noInt_rr _ _ _ _) hu89
        replace hr := hr.upd hb32 (noInt_rr _ _ _ _) hu89
        replace hB := below_upd hB G36.out hb32.lt hu89
        replace hb5 := hb5.upd Ng2_g29.out hu89
        replace hb14 := hb14.upd Ng11_g29.out hu89
        replace hb85 := hb85.upd Ng20_g29.out hu89
        replace hb8 := hb8.upd Mg8_g29.out hu89
        replace hb9 := hb9.upd Mg9_g29.out hu89
        clear hw88 hu89 hb32
        clear sz86 sz91
        replace h := h.drew
        replace k := k.drew
        replace h37 := h37.drew
        replace h38 := h38.drew
        replace hx := hx.drew
        replace hr := hr.drew
        replace hB := hB.drew
        replace hb5 := hb5.drew
        replace hb14 := hb14.drew
        replace hb85 := hb85.drew
        replace hb90 := hb90.drew
        replace hb8 := hb8.drew
        replace hb9 := hb9.drew
        generalize w87.drew = w92 at h k h37 h38 hx hr hB hb5 hb14 hb85 hb90 hb8 hb9 ⊢
        obtain ⟨a93, a94, f95, f96⟩ := cells2 hb85
        have l97 := hb85.lt
        obtain ⟨a98, a99, f100, f101⟩ := cells2 hb90
        have l102 := hb90.lt
        go_wp2
        refine bodyPost_ret (by simp [results, Try.results19, go_sem, a93, a94, a98, a99]; try rfl) rfl ?_
        obtain ⟨e1, e2⟩ := rdiv_keep hy HQ0.out HR0.out (by omega)
        rw [e1] at hx
        rw [e2] at hr
        exact ⟨_, _, _, _, _, _, _, _, rfl, hx.mono (by omega), hr.mono (by omega), hB⟩

end Go.Proofs.Ytkcagkcphobmfaa
