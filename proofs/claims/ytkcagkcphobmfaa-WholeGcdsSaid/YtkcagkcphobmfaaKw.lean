/-
  Within: any number as one from 0 to n - 1.
-/
import Derived.Test.YtkcagkcphobmfaaLa
import Derived.Deep.DeepCutAuto
set_option linter.unusedVariables false
set_option linter.unusedSimpArgs false
namespace Go.Proofs.Ytkcagkcphobmfaa
open Go.RowKit

/-- Within: any number as one from 0 to n - 1. -/
theorem within_any (v : Int) (n : Nat) (w : World) (hn : 1 ≤ n) (hn2 : n ≤ 1000000) (hv1 : -9223372036854775808 ≤ v) (hv2 : v ≤ 9223372036854775807) :
    Calls Try.prog 31 #[.int .i64 v, .int .i64 (n : Int)] w fun e w' => e = .returned (.int .i64 (v % (n : Int))) ∧ w = w' := by
  have hn0 : ((n : Int) == 0) = false := by rw [beq_eq_false_iff_ne]; omega
  obtain ⟨t, ht⟩ : ∃ t, t = v.tmod (n : Int) := ⟨_, rfl⟩
  have hte : v.tmod (n : Int) = t := ht.symm
  have hb1 : -(n : Int) < t ∧ t < n := by
    have h1 := Int.tmod_lt_of_pos v (show (0 : Int) < n by omega)
    have h2 := Int.lt_tmod_of_pos v (show (0 : Int) < n by omega)
    omega
  have hem : v % (n : Int) = if t < 0 then t + n else t := by
    have hv : v = t + n * (v.tdiv n) := by rw [ht]; exact (Int.tmod_add_mul_tdiv v n).symm
    rw [hv, Int.add_mul_emod_self_left]
    split
    · have h3 : t % (n : Int) = (t + n) % (n : Int) := by simp
      rw [h3, Int.emod_eq_of_lt (by omega) (by omega)]
    · rw [Int.emod_eq_of_lt (by omega) (by omega)]
  have HEM := hid hem; clear hem ht
  obtain ⟨hb1, hb2⟩ := hb1
  by_cases ht0 : t < 0
  · have hd : decide (t < 0) = true := by simpa using ht0
    by_cases hv0 : 0 ≤ v
    · exfalso
      have := Int.tmod_nonneg (n : Int) hv0
      omega
    · go_enter Try.func31, Try.ntmps31
      go_wp2
      go_ret
      exact ⟨ret_int (by rw [HEM.out, if_pos (by omega)]), rfl⟩
  · have hd : decide (t < 0) = false := by simpa using ht0
    by_cases hv0 : 0 ≤ v
    · have hvt : v % (n : Int) = t := by rw [← hte, Int.tmod_eq_emod_of_nonneg hv0]
      clear HEM
      go_enter Try.func31, Try.ntmps31
      go_wp2
      go_ret
      exact ⟨rfl, rfl⟩
    · go_enter Try.func31, Try.ntmps31
      go_wp2
      go_ret
      exact ⟨ret_int (by rw [HEM.out, if_neg (by omega)]), rfl⟩

end Go.Proofs.Ytkcagkcphobmfaa
