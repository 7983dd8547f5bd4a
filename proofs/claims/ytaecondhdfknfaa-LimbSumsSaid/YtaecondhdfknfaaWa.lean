/-
  WALKS: the helps of the statements on limbs: from, is, wakes.
-/
import Derived.Test.YtaecondhdfknfaaLg
import Derived.Test.YtaecondhdfknfaaKa
import Derived.Test.YtaecondhdfknfaaRc
set_option linter.unusedVariables false
set_option linter.unusedSimpArgs false
namespace Go.Proofs.Ytaecondhdfknfaa
open Go.RowKit

theorem lit_rw (w : World) (x : Nat) (hx : x < B32) (t : TypeId) : Rw .u32 B32 (w.alloc (.cells #[.int .u32 (x : Int)] t)) (some ⟨w.heap.size, 0, none⟩) 1 1 [x] := by
  have h := (Blk.new w t (ints .u32 [x])).rw (B := B32) (by intro y hy; rw [List.mem_singleton.1 hy]; exact hx)
  exact h

theorem alloc_ext (w : World) (o : Obj) : Below w.heap.size w (w.alloc o) := (Below.refl _ _).alloc (Nat.le_refl _) _

theorem from_any (ao : Option Addr) (n cp : Nat) (xs : List Nat) (w : World) (hn : n ≤ 100000000) (hr : Rw .u32 B32 w ao n cp xs) :
    Calls Try.prog 16 #[.slice ao n cp] w fun e w' => ∃ ro k c', e = .returned (.slice ro k c') ∧ Rw .i64 B4 w' ro k c' (digs4 (val xs)) ∧ k ≤ 3 * n ∧ Below w.heap.size w w' := by
  go_enter Try.func16, Try.ntmps16
  go_wp2_with fail
  refine (fromN_any _ _ _ _ _ hn hr).mono ?_
  rintro e w' ⟨ro, k, c', rfl, h1, h2, h3⟩
  go_wp2
  go_ret
  exact ⟨_, _, _, rfl, h1, h2, h3⟩

theorem is_any (ao bo : Option Addr) (n c m d N : Nat) (xs : List Nat) (w : World) (hn : n ≤ 1000000000) (hm : m ≤ 1073741824) (hr : Rw .i64 B4 w ao n c (digs4 N)) (hs : Rw .u32 B32 w bo m d xs) :
    Calls Try.prog 19 #[.slice ao n c, .slice bo m d] w fun e w' => e = .returned (.bool (decide (limbs N = xs))) ∧ Below w.heap.size w w' := by
  go_enter Try.func19, Try.ntmps19
  go_wp2_with fail
  refine (toN_any _ _ _ _ _ hn hr).mono ?_
  rintro e w1 ⟨ro, k, c', rfl, h1, h2, hb1⟩
  have hs1 := hs.ext hb1
  go_wp2_with fail
  refine (same_any _ _ _ _ _ _ _ _ _ (by omega) hm h1 hs1).mono ?_
  rintro e w2 ⟨rfl, hb2⟩
  go_wp2
  go_ret
  exact ⟨rfl, ext_trans hb1 hb2⟩

set_option maxHeartbeats 1000000 in
theorem wakes_any (w : World) : Calls Try.prog 17 #[] w fun e w' => e = .returned (.bool true) ∧ Below w.heap.size w w' := by
  go_enter Try.func17, Try.ntmps17
  go_wp2_with fail
  refine (sub_any none _ 0 0 1 1 [] [1] _ (by omega) (by omega) (Rw.nil _ _ _) (lit_rw w 1 (by decide) _)).mono ?_
  rintro e w1 ⟨ro, k, c', rfl, h1, h2, hb1⟩
  have hb1' := ext_trans (alloc_ext w _) hb1
  have e1 : decide (val [1] ≤ val []) = false := by decide
  rw [e1]
  clear h1 h2 hb1
  have hb1 : w.heap.size ≤ w1.heap.size := hb1'.size
  go_wp2_with fail
  have hA := (lit_rw w1 7 (by decide) 38).ext (alloc_ext _ (.cells #[.int .u32 2] 38))
  have hB := lit_rw (w1.alloc (.cells #[.int .u32 7] 38)) 2 (by decide) 38
  rw [World.size_alloc] at hB
  have hbA : Below w1.heap.size w1 ((w1.alloc (.cells #[.int .u32 7] 38)).alloc (.cells #[.int .u32 2] 38)) := ext_trans (alloc_ext _ _) (alloc_ext _ _)
  refine (divmod_any _ _ 1 1 1 1 [7] [2] _ (by omega) (by omega) hA hB).mono ?_
  rintro e w2 ⟨qo, qn, qc, ro2, rn, rc, rfl, hq, _, hr, _, hb2⟩
  have hb2' := ext_trans (ext_trans hb1' hbA) hb2
  have e2 : divErr (val [2]) = 0 := by decide
  have e3 : limbs (val [7] / val [2]) = [3] := by decide
  have e4 : limbs (modZ (val [7]) (val [2])) = [1] := by decide
  rw [e2]
  rw [e3] at hq
  rw [e4] at hr
  clear hA hB hbA hb2 hb1' e1 e2 e3 e4
  go_wp2_with fail
  have h3 := lit_rw w2 3 (by decide) 38
  refine (same_any _ _ _ _ 1 1 [3] [3] _ (by have := hq.len; simp at this; omega) (by omega) (hq.ext (alloc_ext _ _)) h3).mono ?_
  rintro e w3 ⟨rfl, hb3⟩
  rw [show decide ([3] = [3]) = true from rfl]
  have hb3' := ext_trans (alloc_ext _ _) hb3
  have hr3 := hr.ext hb3'
  have hb4 := ext_trans hb2' hb3'
  clear h3 hq hr hb3 hb3' hb2'
  go_wp2_with fail
  have h3 := lit_rw w3 1 (by decide) 38
  refine (same_any _ _ _ _ 1 1 [1] [1] _ (by have := hr3.len; simp at this; omega) (by omega) (hr3.ext (alloc_ext _ _)) h3).mono ?_
  rintro e w4 ⟨rfl, hb5⟩
  rw [show decide ([1] = [1]) = true from rfl]
  go_wp2
  go_ret
  exact ⟨rfl, ext_trans hb4 (ext_trans (alloc_ext _ _) hb5)⟩

end Go.Proofs.Ytaecondhdfknfaa
