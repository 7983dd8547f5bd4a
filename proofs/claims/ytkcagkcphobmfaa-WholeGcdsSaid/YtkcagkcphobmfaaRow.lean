/-
  A SLICE OF INTEGERS THAT CAME IN, AS THE WALKS READ IT ('Rw').
-/
import Derived.Test.YtkcagkcphobmfaaMem
set_option linter.unusedVariables false
set_option linter.unusedSimpArgs false
namespace Go.Proofs.Ytkcagkcphobmfaa
open Go.RowKit

/-- A row that came in (in the words of the rows' shells) is a row as the walks read it: kind k, each from 0 to B - 1. -/
theorem rw_in {k : IntKind} {B : Nat} {w : World} {a : Option Addr} {len cap : Nat} {zs : List Int}
    (h : (a = none ∧ len = 0 ∧ cap = 0 ∧ zs = []) ∨ ∃ x, a = some x ∧ len ≤ cap ∧ cap ≤ maxLen ∧ zs.length = cap ∧ (∀ i, i < zs.length → w.cell? (x.add i) = some (.int k (zs.getD i 0))) ∧ ∀ n ∈ zs, (Lit.int k n).wf = true)
    (hk : ∀ z : Int, (Lit.int k z).wf = true → 0 ≤ z ∧ z < (B : Int)) :
    len ≤ 9223372036854775807 ∧ ∃ xs, Rw k B w a len cap xs := by
  rcases h with ⟨rfl, rfl, rfl, rfl⟩ | ⟨x, rfl, hlc, hcm, hz, hcell, hwf⟩
  · exact ⟨by omega, [], Rw.nil k B w⟩
  · have hm : maxLen = 9223372036854775807 := by decide
    refine ⟨by omega, (zs.take len).map Int.toNat, by rw [List.length_map, List.length_take]; omega, hlc, (fun e => nomatch e), ?_, ?_⟩
    · intro n hn
      obtain ⟨z, hz, rfl⟩ := List.mem_map.1 hn
      have := hk z (hwf z (List.mem_of_mem_take hz))
      omega
    · by_cases h0 : len = 0
      · left; subst h0; rfl
      · right
        obtain ⟨b, off, sp⟩ := x
        have hc0 := hcell 0 (by omega)
        obtain rfl : sp = none := by
          cases sp with
          | none => rfl
          | some s =>
            exfalso
            simp only [Addr.add, if_true, World.cell?] at hc0
            split at hc0 <;> simp_all
        refine ⟨b, off, rfl, fun j hj => ?_⟩
        have hj2 : j < len := by simp [ints] at hj; omega
        have hcj := hcell j (by omega)
        have hzj : zs.getD j 0 = zs[j]'(by omega) := by rw [List.getD_eq_getElem?_getD, List.getElem?_eq_getElem (by omega)]; rfl
        have e1 : (⟨b, off, none⟩ : Addr).add j = ⟨b, off + j, none⟩ := by
          unfold Addr.add
          split
          · next h => subst h; rfl
          · rfl
        rw [e1, hzj] at hcj
        rw [hcj]
        have hw := hk _ (hwf _ (List.getElem_mem (l := zs) (n := j) (by omega)))
        simp only [ints, List.map_map, List.getElem_map, List.getElem_take, Function.comp]
        rw [Int.toNat_of_nonneg hw.1]

theorem wf_u32 (z : Int) (h : (Lit.int .u32 z).wf = true) : 0 ≤ z ∧ z < (B32 : Int) := by
  simp only [Lit.wf, Bool.and_eq_true, decide_eq_true_eq] at h
  have h1 : IntKind.u32.min = 0 := by decide
  have h2 : IntKind.u32.max = 4294967295 := by decide
  have h3 : (B32 : Int) = 4294967296 := by decide
  omega

theorem wf_int {z : Int} (h : (Lit.int .i64 z).wf = true) : -9223372036854775808 ≤ z ∧ z ≤ 9223372036854775807 := by
  simp only [Lit.wf, Bool.and_eq_true, decide_eq_true_eq] at h
  have h1 : IntKind.i64.min = -9223372036854775808 := by decide
  have h2 : IntKind.i64.max = 9223372036854775807 := by decide
  omega

end Go.Proofs.Ytkcagkcphobmfaa
