/-
  Row: the first limbs of a row.
-/
import Derived.Test.YtkcagkcphobmfaaLa
import Derived.Deep.DeepCutAuto
set_option linter.unusedVariables false
set_option linter.unusedSimpArgs false
namespace Go.Proofs.Ytkcagkcphobmfaa
open Go.RowKit

/-- Row: the first k limbs at most. -/
theorem row_any (ao : Option Addr) (n c k : Nat) (xs : List Nat) (w : World) (hn : n ≤ 9223372036854775807) (hk : k ≤ 1000000) (hr : Rw .u32 B32 w ao n c xs) :
    Calls Try.prog 73 #[.slice ao n c, .int .i64 (k : Int)] w fun e w' => ∃ m, e = .returned (.slice ao m c) ∧ m ≤ k ∧ m ≤ n ∧ Rw .u32 B32 w ao m c (xs.take k) ∧ w = w' := by
  have hlc := hr.le
  by_cases h : n ≤ k
  · go_enter Try.func73, Try.ntmps73
    go_wp2
    go_ret
    exact ⟨_, rfl, h, Nat.le_refl _, by rw [List.take_of_length_le (by rw [hr.len]; exact h)]; exact hr, rfl⟩
  · have hkc : k ≤ c := by omega
    go_enter Try.func73, Try.ntmps73
    go_wp2
    go_ret
    exact ⟨_, rfl, Nat.le_refl _, by omega, hr.take (by omega), rfl⟩

end Go.Proofs.Ytkcagkcphobmfaa
