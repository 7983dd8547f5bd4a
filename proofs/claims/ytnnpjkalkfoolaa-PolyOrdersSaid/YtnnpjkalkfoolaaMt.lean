/-
  THE TABLE OF TYPES: printed by a program of this work, and held against the program.
-/
import Derived.Test.YtnnpjkalkfoolaaMl
import Derived.Test.YtnnpjkalkfoolaaProg
set_option linter.unusedVariables false
namespace Go.Proofs.Ytnnpjkalkfoolaa
open Go.RowKit

def TL : List (Nat × TI) := [
  (3, ⟨1, false, [.int .i64 0], [], none, 8, some .i64, false⟩),
  (4, ⟨1, false, [.bool false], [], none, 1, none, true⟩),
  (5, ⟨1, false, [.int .u8 0], [], none, 1, some .u8, false⟩),
  (9, ⟨1, false, [.string ⟨#[]⟩], [], none, 16, none, false⟩),
  (22, ⟨1, false, [.slice none 0 0], [], some 26, 24, none, false⟩),
  (23, ⟨1, false, [.slice none 0 0], [], some 26, 24, none, false⟩),
  (24, ⟨1, false, [.slice none 0 0], [], some 105, 24, none, false⟩),
  (26, ⟨2, true, [.bool false, .slice none 0 0], [(0, 4), (1, 24)], none, 32, none, false⟩),
  (28, ⟨1, false, [.slice none 0 0], [], some 43, 24, none, false⟩),
  (32, ⟨1, false, [.int .i64 0], [], none, 8, some .i64, false⟩),
  (35, ⟨1, false, [.slice none 0 0], [], some 3, 24, none, false⟩),
  (36, ⟨1, false, [.slice none 0 0], [], some 3, 24, none, false⟩),
  (38, ⟨2, true, [.slice none 0 0, .bool false], [(0, 36), (1, 4)], none, 32, none, false⟩),
  (43, ⟨4, true, [.slice none 0 0, .bool false, .slice none 0 0, .bool false], [(0, 38), (2, 38)], none, 64, none, false⟩),
  (51, ⟨1, false, [.slice none 0 0], [], some 23, 24, none, false⟩),
  (67, ⟨1, false, [.nilFunc], [], none, 8, none, false⟩),
  (73, ⟨4, true, [.bool false, .slice none 0 0, .bool false, .slice none 0 0], [(0, 26), (2, 26)], none, 64, none, false⟩),
  (105, ⟨1, false, [.int .u32 0], [], none, 4, some .u32, false⟩),
  (111, ⟨1, false, [.int .u64 0], [], none, 8, some .u64, false⟩),
  (113, ⟨1, false, [.int .u64 0], [], none, 8, some .u64, false⟩),
  (141, ⟨1, false, [.slice none 0 0], [], some 73, 24, none, false⟩)]
def TT : TypeId → Option TI := lk TL

theorem tt3 : tiOf Try.prog 3 = some ⟨1, false, [.int .i64 0], [], none, 8, some .i64, false⟩ := by kernel_rfl
theorem tt4 : tiOf Try.prog 4 = some ⟨1, false, [.bool false], [], none, 1, none, true⟩ := by kernel_rfl
theorem tt5 : tiOf Try.prog 5 = some ⟨1, false, [.int .u8 0], [], none, 1, some .u8, false⟩ := by kernel_rfl
theorem tt9 : tiOf Try.prog 9 = some ⟨1, false, [.string ⟨#[]⟩], [], none, 16, none, false⟩ := by kernel_rfl
theorem tt22 : tiOf Try.prog 22 = some ⟨1, false, [.slice none 0 0], [], some 26, 24, none, false⟩ := by kernel_rfl
theorem tt23 : tiOf Try.prog 23 = some ⟨1, false, [.slice none 0 0], [], some 26, 24, none, false⟩ := by kernel_rfl
theorem tt24 : tiOf Try.prog 24 = some ⟨1, false, [.slice none 0 0], [], some 105, 24, none, false⟩ := by kernel_rfl
theorem tt26 : tiOf Try.prog 26 = some ⟨2, true, [.bool false, .slice none 0 0], [(0, 4), (1, 24)], none, 32, none, false⟩ := by kernel_rfl
theorem tt28 : tiOf Try.prog 28 = some ⟨1, false, [.slice none 0 0], [], some 43, 24, none, false⟩ := by kernel_rfl
theorem tt32 : tiOf Try.prog 32 = some ⟨1, false, [.int .i64 0], [], none, 8, some .i64, false⟩ := by kernel_rfl
theorem tt35 : tiOf Try.prog 35 = some ⟨1, false, [.slice none 0 0], [], some 3, 24, none, false⟩ := by kernel_rfl
theorem tt36 : tiOf Try.prog 36 = some ⟨1, false, [.slice none 0 0], [], some 3, 24, none, false⟩ := by kernel_rfl
theorem tt38 : tiOf Try.prog 38 = some ⟨2, true, [.slice none 0 0, .bool false], [(0, 36), (1, 4)], none, 32, none, false⟩ := by kernel_rfl
theorem tt43 : tiOf Try.prog 43 = some ⟨4, true, [.slice none 0 0, .bool false, .slice none 0 0, .bool false], [(0, 38), (2, 38)], none, 64, none, false⟩ := by kernel_rfl
theorem tt51 : tiOf Try.prog 51 = some ⟨1, false, [.slice none 0 0], [], some 23, 24, none, false⟩ := by kernel_rfl
theorem tt67 : tiOf Try.prog 67 = some ⟨1, false, [.nilFunc], [], none, 8, none, false⟩ := by kernel_rfl
theorem tt73 : tiOf Try.prog 73 = some ⟨4, true, [.bool false, .slice none 0 0, .bool false, .slice none 0 0], [(0, 26), (2, 26)], none, 64, none, false⟩ := by kernel_rfl
theorem tt105 : tiOf Try.prog 105 = some ⟨1, false, [.int .u32 0], [], none, 4, some .u32, false⟩ := by kernel_rfl
theorem tt111 : tiOf Try.prog 111 = some ⟨1, false, [.int .u64 0], [], none, 8, some .u64, false⟩ := by kernel_rfl
theorem tt113 : tiOf Try.prog 113 = some ⟨1, false, [.int .u64 0], [], none, 8, some .u64, false⟩ := by kernel_rfl
theorem tt141 : tiOf Try.prog 141 = some ⟨1, false, [.slice none 0 0], [], some 73, 24, none, false⟩ := by kernel_rfl
theorem hTT : TOk Try.prog TT := by
  intro t ti h
  have hm := lk_mem h
  unfold TL at hm
  simp only [List.mem_cons, List.not_mem_nil, or_false, Prod.mk.injEq] at hm
  rcases hm with ⟨rfl, rfl⟩ | ⟨rfl, rfl⟩ | ⟨rfl, rfl⟩ | ⟨rfl, rfl⟩ | ⟨rfl, rfl⟩ | ⟨rfl, rfl⟩ | ⟨rfl, rfl⟩ | ⟨rfl, rfl⟩ | ⟨rfl, rfl⟩ | ⟨rfl, rfl⟩ | ⟨rfl, rfl⟩ | ⟨rfl, rfl⟩ | ⟨rfl, rfl⟩ | ⟨rfl, rfl⟩ | ⟨rfl, rfl⟩ | ⟨rfl, rfl⟩ | ⟨rfl, rfl⟩ | ⟨rfl, rfl⟩ | ⟨rfl, rfl⟩ | ⟨rfl, rfl⟩ | ⟨rfl, rfl⟩
  · exact tt3
  · exact tt4
  · exact tt5
  · exact tt9
  · exact tt22
  · exact tt23
  · exact tt24
  · exact tt26
  · exact tt28
  · exact tt32
  · exact tt35
  · exact tt36
  · exact tt38
  · exact tt43
  · exact tt51
  · exact tt67
  · exact tt73
  · exact tt105
  · exact tt111
  · exact tt113
  · exact tt141

end Go.Proofs.Ytnnpjkalkfoolaa
