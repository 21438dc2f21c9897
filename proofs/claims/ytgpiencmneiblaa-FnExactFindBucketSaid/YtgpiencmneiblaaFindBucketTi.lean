/-
  Helper text: the types of the program, as the layer reads them. No conditions.
-/
import Derived.Test.YtgpiencmneiblaaFindBucketMod
import Derived.Test.YtgpiencmneiblaaProg
import Derived.KernelRfl
namespace Go.Proofs.Ytgpiencmneiblaa.gen
open Go Go.Sh
set_option linter.unusedVariables false
set_option linter.unusedSimpArgs false
theorem mixed : Try.prog.follows .mixedOrders = true := by kernel_rfl
theorem ti3 : tiOf Try.prog 3 = some { k := .int .i64, size := 1, bytes := 8, zero := [.dat (.int .i64 0)] } := by kernel_rfl
theorem ti4 : tiOf Try.prog 4 = some { k := .bool, size := 1, bytes := 1, zero := [.dat (.bool false)] } := by kernel_rfl
theorem ti5 : tiOf Try.prog 5 = some { k := .int .u8, size := 1, bytes := 1, zero := [.dat (.int .u8 0)] } := by kernel_rfl
theorem ti9 : tiOf Try.prog 9 = some { k := .str, size := 1, bytes := 16, zero := [.dat (.str ⟨#[]⟩)] } := by kernel_rfl
theorem ti22 : tiOf Try.prog 22 = some { k := .slice 84, size := 1, bytes := 24, zero := [.nil] } := by kernel_rfl
theorem ti24 : tiOf Try.prog 24 = some { k := .struct [(0, 1, false)], size := 1, bytes := 24, zero := [.nil] } := by kernel_rfl
theorem ti27 : tiOf Try.prog 27 = some { k := .slice 57, size := 1, bytes := 24, zero := [.nil] } := by kernel_rfl
theorem ti29 : tiOf Try.prog 29 = some { k := .struct [(0, 1, false)], size := 1, bytes := 24, zero := [.nil] } := by kernel_rfl
theorem ti35 : tiOf Try.prog 35 = some { k := .struct [(0, 1, false), (1, 1, false), (2, 1, false), (3, 1, false)], size := 4, bytes := 40, zero := [.dat (.str ⟨#[]⟩), .dat (.int .i64 0), .dat (.int .i64 0), .dat (.int .i64 0)], cmp := [.str, .int, .int, .int] } := by kernel_rfl
theorem ti36 : tiOf Try.prog 36 = some { k := .slice 124, size := 1, bytes := 24, zero := [.nil] } := by kernel_rfl
theorem ti38 : tiOf Try.prog 38 = some { k := .struct [(0, 1, false)], size := 1, bytes := 24, zero := [.nil] } := by kernel_rfl
theorem ti39 : tiOf Try.prog 39 = some { k := .slice 48, size := 1, bytes := 24, zero := [.nil] } := by kernel_rfl
theorem ti40 : tiOf Try.prog 40 = some { k := .slice 149, size := 1, bytes := 24, zero := [.nil] } := by kernel_rfl
theorem ti42 : tiOf Try.prog 42 = some { k := .struct [(0, 1, false), (1, 1, false), (2, 1, false), (3, 1, false)], size := 4, bytes := 72, zero := [.dat (.str ⟨#[]⟩), .dat (.int .i64 0), .nil, .nil] } := by kernel_rfl
theorem ti43 : tiOf Try.prog 43 = some { k := .slice 5, size := 1, bytes := 24, zero := [.nil] } := by kernel_rfl
theorem ti45 : tiOf Try.prog 45 = some { k := .struct [(0, 4, true), (4, 1, false), (5, 1, false)], size := 6, bytes := 104, zero := [.dat (.str ⟨#[]⟩), .dat (.int .i64 0), .nil, .nil, .nil, .dat (.int .i64 0)] } := by kernel_rfl
theorem ti46 : tiOf Try.prog 46 = some { k := .slice 156, size := 1, bytes := 24, zero := [.nil] } := by kernel_rfl
theorem ti48 : tiOf Try.prog 48 = some { k := .struct [(0, 1, false), (1, 1, false), (2, 1, false)], size := 3, bytes := 48, zero := [.dat (.str ⟨#[]⟩), .nil, .dat (.int .i64 0)] } := by kernel_rfl
theorem ti49 : tiOf Try.prog 49 = some { k := .slice 180, size := 1, bytes := 24, zero := [.nil] } := by kernel_rfl
theorem ti51 : tiOf Try.prog 51 = some { k := .struct [(0, 1, false), (1, 1, false), (2, 1, false)], size := 3, bytes := 40, zero := [.dat (.int .i64 0), .dat (.int .i64 0), .nil] } := by kernel_rfl
theorem ti53 : tiOf Try.prog 53 = some { k := .struct [(0, 3, true), (3, 1, false), (4, 1, false)], size := 5, bytes := 56, zero := [.dat (.int .i64 0), .dat (.int .i64 0), .nil, .dat (.int .i64 0), .dat (.int .i64 0)] } := by kernel_rfl
theorem ti55 : tiOf Try.prog 55 = some { k := .struct [(0, 3, true), (3, 1, false), (4, 5, true)], size := 9, bytes := 112, zero := [.dat (.str ⟨#[]⟩), .nil, .dat (.int .i64 0), .dat (.int .i64 0), .dat (.int .i64 0), .dat (.int .i64 0), .nil, .dat (.int .i64 0), .dat (.int .i64 0)] } := by kernel_rfl
theorem ti57 : tiOf Try.prog 57 = some { k := .struct [(0, 1, false), (1, 1, false), (2, 4, true), (6, 1, true), (7, 6, true), (13, 9, true), (22, 1, false), (23, 1, false)], size := 24, bytes := 328, zero := [.dat (.str ⟨#[]⟩), .dat (.str ⟨#[]⟩), .dat (.str ⟨#[]⟩), .dat (.int .i64 0), .dat (.int .i64 0), .dat (.int .i64 0), .nil, .dat (.str ⟨#[]⟩), .dat (.int .i64 0), .nil, .nil, .nil, .dat (.int .i64 0), .dat (.str ⟨#[]⟩), .nil, .dat (.int .i64 0), .dat (.int .i64 0), .dat (.int .i64 0), .dat (.int .i64 0), .nil, .dat (.int .i64 0), .dat (.int .i64 0), .dat (.int .i64 0), .dat (.bool false)] } := by kernel_rfl
theorem ti63 : tiOf Try.prog 63 = some { k := .struct [(0, 1, false), (1, 1, false), (2, 1, false), (3, 1, false)], size := 4, bytes := 40, zero := [.dat (.str ⟨#[]⟩), .dat (.int .i64 0), .dat (.int .i64 0), .dat (.int .i64 0)], cmp := [.str, .int, .int, .int] } := by kernel_rfl
theorem ti64 : tiOf Try.prog 64 = some { k := .slice 117, size := 1, bytes := 24, zero := [.nil] } := by kernel_rfl
theorem ti66 : tiOf Try.prog 66 = some { k := .struct [(0, 1, false)], size := 1, bytes := 24, zero := [.nil] } := by kernel_rfl
theorem ti67 : tiOf Try.prog 67 = some { k := .slice 75, size := 1, bytes := 24, zero := [.nil] } := by kernel_rfl
theorem ti68 : tiOf Try.prog 68 = some { k := .slice 138, size := 1, bytes := 24, zero := [.nil] } := by kernel_rfl
theorem ti70 : tiOf Try.prog 70 = some { k := .struct [(0, 1, false), (1, 1, false), (2, 1, false), (3, 1, false)], size := 4, bytes := 72, zero := [.dat (.str ⟨#[]⟩), .dat (.int .i64 0), .nil, .nil] } := by kernel_rfl
theorem ti72 : tiOf Try.prog 72 = some { k := .struct [(0, 4, true), (4, 1, false), (5, 1, false)], size := 6, bytes := 104, zero := [.dat (.str ⟨#[]⟩), .dat (.int .i64 0), .nil, .nil, .nil, .dat (.int .i64 0)] } := by kernel_rfl
theorem ti73 : tiOf Try.prog 73 = some { k := .slice 146, size := 1, bytes := 24, zero := [.nil] } := by kernel_rfl
theorem ti75 : tiOf Try.prog 75 = some { k := .struct [(0, 1, false), (1, 1, false), (2, 1, false)], size := 3, bytes := 48, zero := [.dat (.str ⟨#[]⟩), .nil, .dat (.int .i64 0)] } := by kernel_rfl
theorem ti76 : tiOf Try.prog 76 = some { k := .slice 172, size := 1, bytes := 24, zero := [.nil] } := by kernel_rfl
theorem ti78 : tiOf Try.prog 78 = some { k := .struct [(0, 1, false), (1, 1, false), (2, 1, false)], size := 3, bytes := 40, zero := [.dat (.int .i64 0), .dat (.int .i64 0), .nil] } := by kernel_rfl
theorem ti80 : tiOf Try.prog 80 = some { k := .struct [(0, 3, true), (3, 1, false), (4, 1, false)], size := 5, bytes := 56, zero := [.dat (.int .i64 0), .dat (.int .i64 0), .nil, .dat (.int .i64 0), .dat (.int .i64 0)] } := by kernel_rfl
theorem ti82 : tiOf Try.prog 82 = some { k := .struct [(0, 3, true), (3, 1, false), (4, 5, true)], size := 9, bytes := 112, zero := [.dat (.str ⟨#[]⟩), .nil, .dat (.int .i64 0), .dat (.int .i64 0), .dat (.int .i64 0), .dat (.int .i64 0), .nil, .dat (.int .i64 0), .dat (.int .i64 0)] } := by kernel_rfl
theorem ti84 : tiOf Try.prog 84 = some { k := .struct [(0, 1, false), (1, 1, false), (2, 4, true), (6, 1, true), (7, 6, true), (13, 9, true), (22, 1, false), (23, 1, false)], size := 24, bytes := 328, zero := [.dat (.str ⟨#[]⟩), .dat (.str ⟨#[]⟩), .dat (.str ⟨#[]⟩), .dat (.int .i64 0), .dat (.int .i64 0), .dat (.int .i64 0), .nil, .dat (.str ⟨#[]⟩), .dat (.int .i64 0), .nil, .nil, .nil, .dat (.int .i64 0), .dat (.str ⟨#[]⟩), .nil, .dat (.int .i64 0), .dat (.int .i64 0), .dat (.int .i64 0), .dat (.int .i64 0), .nil, .dat (.int .i64 0), .dat (.int .i64 0), .dat (.int .i64 0), .dat (.bool false)] } := by kernel_rfl
theorem ti115 : tiOf Try.prog 115 = some { k := .slice 167, size := 1, bytes := 24, zero := [.nil] } := by kernel_rfl
theorem ti117 : tiOf Try.prog 117 = some { k := .struct [(0, 1, false), (1, 1, false)], size := 2, bytes := 32, zero := [.dat (.int .i64 0), .nil] } := by kernel_rfl
theorem ti122 : tiOf Try.prog 122 = some { k := .slice 175, size := 1, bytes := 24, zero := [.nil] } := by kernel_rfl
theorem ti124 : tiOf Try.prog 124 = some { k := .struct [(0, 1, false), (1, 1, false)], size := 2, bytes := 32, zero := [.dat (.int .i64 0), .nil] } := by kernel_rfl
theorem ti138 : tiOf Try.prog 138 = some { k := .struct [(0, 1, false), (1, 1, false)], size := 2, bytes := 32, zero := [.dat (.str ⟨#[]⟩), .dat (.str ⟨#[]⟩)], cmp := [.str, .str] } := by kernel_rfl
theorem ti141 : tiOf Try.prog 141 = some { k := .struct [(0, 1, false), (1, 1, false), (2, 1, false)], size := 3, bytes := 32, zero := [.dat (.int .i64 0), .dat (.int .i64 0), .dat (.str ⟨#[]⟩)], cmp := [.int, .int, .str] } := by kernel_rfl
theorem ti142 : tiOf Try.prog 142 = some { k := .slice 194, size := 1, bytes := 24, zero := [.nil] } := by kernel_rfl
theorem ti144 : tiOf Try.prog 144 = some { k := .struct [(0, 1, false)], size := 1, bytes := 24, zero := [.nil] } := by kernel_rfl
theorem ti146 : tiOf Try.prog 146 = some { k := .struct [(0, 3, true), (3, 1, true)], size := 4, bytes := 56, zero := [.dat (.int .i64 0), .dat (.int .i64 0), .dat (.str ⟨#[]⟩), .nil] } := by kernel_rfl
theorem ti149 : tiOf Try.prog 149 = some { k := .struct [(0, 1, false), (1, 1, false)], size := 2, bytes := 32, zero := [.dat (.str ⟨#[]⟩), .dat (.str ⟨#[]⟩)], cmp := [.str, .str] } := by kernel_rfl
theorem ti151 : tiOf Try.prog 151 = some { k := .struct [(0, 1, false), (1, 1, false), (2, 1, false)], size := 3, bytes := 32, zero := [.dat (.int .i64 0), .dat (.int .i64 0), .dat (.str ⟨#[]⟩)], cmp := [.int, .int, .str] } := by kernel_rfl
theorem ti152 : tiOf Try.prog 152 = some { k := .slice 195, size := 1, bytes := 24, zero := [.nil] } := by kernel_rfl
theorem ti154 : tiOf Try.prog 154 = some { k := .struct [(0, 1, false)], size := 1, bytes := 24, zero := [.nil] } := by kernel_rfl
theorem ti156 : tiOf Try.prog 156 = some { k := .struct [(0, 3, true), (3, 1, true)], size := 4, bytes := 56, zero := [.dat (.int .i64 0), .dat (.int .i64 0), .dat (.str ⟨#[]⟩), .nil] } := by kernel_rfl
theorem ti165 : tiOf Try.prog 165 = some { k := .struct [(0, 1, false), (1, 1, false), (2, 1, false), (3, 1, false), (4, 1, false)], size := 5, bytes := 56, zero := [.dat (.int .i64 0), .dat (.int .i64 0), .dat (.int .i64 0), .nil, .dat (.bool false)] } := by kernel_rfl
theorem ti167 : tiOf Try.prog 167 = some { k := .struct [(0, 1, false), (1, 1, false), (2, 5, true)], size := 7, bytes := 88, zero := [.dat (.str ⟨#[]⟩), .dat (.str ⟨#[]⟩), .dat (.int .i64 0), .dat (.int .i64 0), .dat (.int .i64 0), .nil, .dat (.bool false)] } := by kernel_rfl
theorem ti172 : tiOf Try.prog 172 = some { k := .struct [(0, 1, false), (1, 1, false), (2, 3, true), (5, 1, false), (6, 1, false)], size := 7, bytes := 72, zero := [.dat (.int .i64 0), .dat (.int .i64 0), .dat (.int .i64 0), .dat (.int .i64 0), .dat (.str ⟨#[]⟩), .dat (.str ⟨#[]⟩), .dat (.int .i64 0)], cmp := [.int, .int, .int, .int, .str, .str, .int] } := by kernel_rfl
theorem ti173 : tiOf Try.prog 173 = some { k := .struct [(0, 1, false), (1, 1, false), (2, 1, false), (3, 1, false), (4, 1, false)], size := 5, bytes := 56, zero := [.dat (.int .i64 0), .dat (.int .i64 0), .dat (.int .i64 0), .nil, .dat (.bool false)] } := by kernel_rfl
theorem ti175 : tiOf Try.prog 175 = some { k := .struct [(0, 1, false), (1, 1, false), (2, 5, true)], size := 7, bytes := 88, zero := [.dat (.str ⟨#[]⟩), .dat (.str ⟨#[]⟩), .dat (.int .i64 0), .dat (.int .i64 0), .dat (.int .i64 0), .nil, .dat (.bool false)] } := by kernel_rfl
theorem ti180 : tiOf Try.prog 180 = some { k := .struct [(0, 1, false), (1, 1, false), (2, 3, true), (5, 1, false), (6, 1, false)], size := 7, bytes := 72, zero := [.dat (.int .i64 0), .dat (.int .i64 0), .dat (.int .i64 0), .dat (.int .i64 0), .dat (.str ⟨#[]⟩), .dat (.str ⟨#[]⟩), .dat (.int .i64 0)], cmp := [.int, .int, .int, .int, .str, .str, .int] } := by kernel_rfl
theorem ti194 : tiOf Try.prog 194 = some { k := .struct [(0, 1, false), (1, 1, false)], size := 2, bytes := 24, zero := [.dat (.str ⟨#[]⟩), .dat (.int .i64 0)], cmp := [.str, .int] } := by kernel_rfl
theorem ti195 : tiOf Try.prog 195 = some { k := .struct [(0, 1, false), (1, 1, false)], size := 2, bytes := 24, zero := [.dat (.str ⟨#[]⟩), .dat (.int .i64 0)], cmp := [.str, .int] } := by kernel_rfl
end Go.Proofs.Ytgpiencmneiblaa.gen
