/-
  THE TABLE OF TYPES: printed by a program of this work, and held against the program.
-/
import Derived.Test.YtkcagkcphobmfaaMl
import Derived.Test.YtkcagkcphobmfaaProg
set_option linter.unusedVariables false
namespace Go.Proofs.Ytkcagkcphobmfaa
open Go.RowKit

def TL : List (Nat × TI) := [
  (3, ⟨1, false, [.int .i64 0], [], none, 8, some .i64, false⟩),
  (4, ⟨1, false, [.bool false], [], none, 1, none, true⟩),
  (5, ⟨1, false, [.int .u8 0], [], none, 1, some .u8, false⟩),
  (9, ⟨1, false, [.string ⟨#[]⟩], [], none, 16, none, false⟩),
  (22, ⟨1, false, [.slice none 0 0], [], some 68, 24, none, false⟩),
  (24, ⟨2, true, [.bool false, .slice none 0 0], [(0, 4), (1, 22)], none, 32, none, false⟩),
  (26, ⟨1, false, [.slice none 0 0], [], some 3, 24, none, false⟩),
  (28, ⟨2, true, [.slice none 0 0, .bool false], [(0, 26), (1, 4)], none, 32, none, false⟩),
  (31, ⟨1, false, [.int .i64 0], [], none, 8, some .i64, false⟩),
  (45, ⟨1, false, [.slice none 0 0], [], some 24, 24, none, false⟩),
  (68, ⟨1, false, [.int .u32 0], [], none, 4, some .u32, false⟩),
  (85, ⟨1, false, [.int .u64 0], [], none, 8, some .u64, false⟩),
  (90, ⟨1, false, [.int .u64 0], [], none, 8, some .u64, false⟩)]
def TT : TypeId → Option TI := lk TL

theorem tt3 : tiOf Try.prog 3 = some ⟨1, false, [.int .i64 0], [], none, 8, some .i64, false⟩ := by kernel_rfl
theorem tt4 : tiOf Try.prog 4 = some ⟨1, false, [.bool false], [], none, 1, none, true⟩ := by kernel_rfl
theorem tt5 : tiOf Try.prog 5 = some ⟨1, false, [.int .u8 0], [], none, 1, some .u8, false⟩ := by kernel_rfl
theorem tt9 : tiOf Try.prog 9 = some ⟨1, false, [.string ⟨#[]⟩], [], none, 16, none, false⟩ := by kernel_rfl
theorem tt22 : tiOf Try.prog 22 = some ⟨1, false, [.slice none 0 0], [], some 68, 24, none, false⟩ := by kernel_rfl
theorem tt24 : tiOf Try.prog 24 = some ⟨2, true, [.bool false, .slice none 0 0], [(0, 4), (1, 22)], none, 32, none, false⟩ := by kernel_rfl
theorem tt26 : tiOf Try.prog 26 = some ⟨1, false, [.slice none 0 0], [], some 3, 24, none, false⟩ := by kernel_rfl
theorem tt28 : tiOf Try.prog 28 = some ⟨2, true, [.slice none 0 0, .bool false], [(0, 26), (1, 4)], none, 32, none, false⟩ := by kernel_rfl
theorem tt31 : tiOf Try.prog 31 = some ⟨1, false, [.int .i64 0], [], none, 8, some .i64, false⟩ := by kernel_rfl
theorem tt45 : tiOf Try.prog 45 = some ⟨1, false, [.slice none 0 0], [], some 24, 24, none, false⟩ := by kernel_rfl
theorem tt68 : tiOf Try.prog 68 = some ⟨1, false, [.int .u32 0], [], none, 4, some .u32, false⟩ := by kernel_rfl
theorem tt85 : tiOf Try.prog 85 = some ⟨1, false, [.int .u64 0], [], none, 8, some .u64, false⟩ := by kernel_rfl
theorem tt90 : tiOf Try.prog 90 = some ⟨1, false, [.int .u64 0], [], none, 8, some .u64, false⟩ := by kernel_rfl
theorem hTT : TOk Try.prog TT := by
  intro t ti h
  have hm := lk_mem h
  unfold TL at hm
  simp only [List.mem_cons, List.not_mem_nil, or_false, Prod.mk.injEq] at hm
  rcases hm with ⟨rfl, rfl⟩ | ⟨rfl, rfl⟩ | ⟨rfl, rfl⟩ | ⟨rfl, rfl⟩ | ⟨rfl, rfl⟩ | ⟨rfl, rfl⟩ | ⟨rfl, rfl⟩ | ⟨rfl, rfl⟩ | ⟨rfl, rfl⟩ | ⟨rfl, rfl⟩ | ⟨rfl, rfl⟩ | ⟨rfl, rfl⟩ | ⟨rfl, rfl⟩
  · exact tt3
  · exact tt4
  · exact tt5
  · exact tt9
  · exact tt22
  · exact tt24
  · exact tt26
  · exact tt28
  · exact tt31
  · exact tt45
  · exact tt68
  · exact tt85
  · exact tt90

end Go.Proofs.Ytkcagkcphobmfaa
