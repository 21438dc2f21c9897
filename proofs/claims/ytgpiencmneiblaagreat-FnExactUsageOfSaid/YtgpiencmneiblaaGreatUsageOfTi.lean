/-
  Helper text: the types of the program, as the layer reads them. No conditions.
-/
import Derived.Test.YtgpiencmneiblaaGreatUsageOfMod
import Derived.Test.YtgpiencmneiblaaGreatProg
import Derived.KernelRfl
namespace Go.Proofs.YtgpiencmneiblaaGreat.gen
open Go Go.Sh
set_option linter.unusedVariables false
set_option linter.unusedSimpArgs false
theorem mixed : Tryz.prog.follows .mixedOrders = true := by kernel_rfl
theorem ti3 : tiOf Tryz.prog 3 = some { k := .int .i64, size := 1, bytes := 8, zero := [.dat (.int .i64 0)] } := by kernel_rfl
theorem ti4 : tiOf Tryz.prog 4 = some { k := .bool, size := 1, bytes := 1, zero := [.dat (.bool false)] } := by kernel_rfl
theorem ti5 : tiOf Tryz.prog 5 = some { k := .int .u8, size := 1, bytes := 1, zero := [.dat (.int .u8 0)] } := by kernel_rfl
theorem ti9 : tiOf Tryz.prog 9 = some { k := .str, size := 1, bytes := 16, zero := [.dat (.str ⟨#[]⟩)] } := by kernel_rfl
theorem ti23 : tiOf Tryz.prog 23 = some { k := .struct [(0, 1, false), (1, 1, false), (2, 1, false), (3, 1, false)], size := 4, bytes := 40, zero := [.dat (.str ⟨#[]⟩), .dat (.int .i64 0), .dat (.int .i64 0), .dat (.int .i64 0)], cmp := [.str, .int, .int, .int] } := by kernel_rfl
theorem ti24 : tiOf Tryz.prog 24 = some { k := .slice 254, size := 1, bytes := 24, zero := [.nil] } := by kernel_rfl
theorem ti26 : tiOf Tryz.prog 26 = some { k := .struct [(0, 1, false)], size := 1, bytes := 24, zero := [.nil] } := by kernel_rfl
theorem ti27 : tiOf Tryz.prog 27 = some { k := .slice 36, size := 1, bytes := 24, zero := [.nil] } := by kernel_rfl
theorem ti28 : tiOf Tryz.prog 28 = some { k := .slice 302, size := 1, bytes := 24, zero := [.nil] } := by kernel_rfl
theorem ti30 : tiOf Tryz.prog 30 = some { k := .struct [(0, 1, false), (1, 1, false), (2, 1, false), (3, 1, false)], size := 4, bytes := 72, zero := [.dat (.str ⟨#[]⟩), .dat (.int .i64 0), .nil, .nil] } := by kernel_rfl
theorem ti31 : tiOf Tryz.prog 31 = some { k := .slice 5, size := 1, bytes := 24, zero := [.nil] } := by kernel_rfl
theorem ti33 : tiOf Tryz.prog 33 = some { k := .struct [(0, 4, true), (4, 1, false), (5, 1, false)], size := 6, bytes := 104, zero := [.dat (.str ⟨#[]⟩), .dat (.int .i64 0), .nil, .nil, .nil, .dat (.int .i64 0)] } := by kernel_rfl
theorem ti34 : tiOf Tryz.prog 34 = some { k := .slice 312, size := 1, bytes := 24, zero := [.nil] } := by kernel_rfl
theorem ti36 : tiOf Tryz.prog 36 = some { k := .struct [(0, 1, false), (1, 1, false), (2, 1, false)], size := 3, bytes := 48, zero := [.dat (.str ⟨#[]⟩), .nil, .dat (.int .i64 0)] } := by kernel_rfl
theorem ti37 : tiOf Tryz.prog 37 = some { k := .slice 341, size := 1, bytes := 24, zero := [.nil] } := by kernel_rfl
theorem ti39 : tiOf Tryz.prog 39 = some { k := .struct [(0, 1, false), (1, 1, false), (2, 1, false)], size := 3, bytes := 40, zero := [.dat (.int .i64 0), .dat (.int .i64 0), .nil] } := by kernel_rfl
theorem ti41 : tiOf Tryz.prog 41 = some { k := .struct [(0, 3, true), (3, 1, false), (4, 1, false)], size := 5, bytes := 56, zero := [.dat (.int .i64 0), .dat (.int .i64 0), .nil, .dat (.int .i64 0), .dat (.int .i64 0)] } := by kernel_rfl
theorem ti43 : tiOf Tryz.prog 43 = some { k := .struct [(0, 3, true), (3, 1, false), (4, 5, true)], size := 9, bytes := 112, zero := [.dat (.str ⟨#[]⟩), .nil, .dat (.int .i64 0), .dat (.int .i64 0), .dat (.int .i64 0), .dat (.int .i64 0), .nil, .dat (.int .i64 0), .dat (.int .i64 0)] } := by kernel_rfl
theorem ti45 : tiOf Tryz.prog 45 = some { k := .struct [(0, 1, false), (1, 1, false), (2, 4, true), (6, 1, true), (7, 6, true), (13, 9, true), (22, 1, false), (23, 1, false)], size := 24, bytes := 328, zero := [.dat (.str ⟨#[]⟩), .dat (.str ⟨#[]⟩), .dat (.str ⟨#[]⟩), .dat (.int .i64 0), .dat (.int .i64 0), .dat (.int .i64 0), .nil, .dat (.str ⟨#[]⟩), .dat (.int .i64 0), .nil, .nil, .nil, .dat (.int .i64 0), .dat (.str ⟨#[]⟩), .nil, .dat (.int .i64 0), .dat (.int .i64 0), .dat (.int .i64 0), .dat (.int .i64 0), .nil, .dat (.int .i64 0), .dat (.int .i64 0), .dat (.int .i64 0), .dat (.bool false)] } := by kernel_rfl
theorem ti48 : tiOf Tryz.prog 48 = some { k := .struct [(0, 1, false), (1, 1, false), (2, 1, false), (3, 1, false)], size := 4, bytes := 40, zero := [.dat (.str ⟨#[]⟩), .dat (.int .i64 0), .dat (.int .i64 0), .dat (.int .i64 0)], cmp := [.str, .int, .int, .int] } := by kernel_rfl
theorem ti49 : tiOf Tryz.prog 49 = some { k := .slice 185, size := 1, bytes := 24, zero := [.nil] } := by kernel_rfl
theorem ti51 : tiOf Tryz.prog 51 = some { k := .struct [(0, 1, false)], size := 1, bytes := 24, zero := [.nil] } := by kernel_rfl
theorem ti52 : tiOf Tryz.prog 52 = some { k := .slice 60, size := 1, bytes := 24, zero := [.nil] } := by kernel_rfl
theorem ti53 : tiOf Tryz.prog 53 = some { k := .slice 225, size := 1, bytes := 24, zero := [.nil] } := by kernel_rfl
theorem ti55 : tiOf Tryz.prog 55 = some { k := .struct [(0, 1, false), (1, 1, false), (2, 1, false), (3, 1, false)], size := 4, bytes := 72, zero := [.dat (.str ⟨#[]⟩), .dat (.int .i64 0), .nil, .nil] } := by kernel_rfl
theorem ti57 : tiOf Tryz.prog 57 = some { k := .struct [(0, 4, true), (4, 1, false), (5, 1, false)], size := 6, bytes := 104, zero := [.dat (.str ⟨#[]⟩), .dat (.int .i64 0), .nil, .nil, .nil, .dat (.int .i64 0)] } := by kernel_rfl
theorem ti58 : tiOf Tryz.prog 58 = some { k := .slice 208, size := 1, bytes := 24, zero := [.nil] } := by kernel_rfl
theorem ti60 : tiOf Tryz.prog 60 = some { k := .struct [(0, 1, false), (1, 1, false), (2, 1, false)], size := 3, bytes := 48, zero := [.dat (.str ⟨#[]⟩), .nil, .dat (.int .i64 0)] } := by kernel_rfl
theorem ti61 : tiOf Tryz.prog 61 = some { k := .slice 285, size := 1, bytes := 24, zero := [.nil] } := by kernel_rfl
theorem ti63 : tiOf Tryz.prog 63 = some { k := .struct [(0, 1, false), (1, 1, false), (2, 1, false)], size := 3, bytes := 40, zero := [.dat (.int .i64 0), .dat (.int .i64 0), .nil] } := by kernel_rfl
theorem ti65 : tiOf Tryz.prog 65 = some { k := .struct [(0, 3, true), (3, 1, false), (4, 1, false)], size := 5, bytes := 56, zero := [.dat (.int .i64 0), .dat (.int .i64 0), .nil, .dat (.int .i64 0), .dat (.int .i64 0)] } := by kernel_rfl
theorem ti67 : tiOf Tryz.prog 67 = some { k := .struct [(0, 3, true), (3, 1, false), (4, 5, true)], size := 9, bytes := 112, zero := [.dat (.str ⟨#[]⟩), .nil, .dat (.int .i64 0), .dat (.int .i64 0), .dat (.int .i64 0), .dat (.int .i64 0), .nil, .dat (.int .i64 0), .dat (.int .i64 0)] } := by kernel_rfl
theorem ti69 : tiOf Tryz.prog 69 = some { k := .struct [(0, 1, false), (1, 1, false), (2, 4, true), (6, 1, true), (7, 6, true), (13, 9, true), (22, 1, false), (23, 1, false)], size := 24, bytes := 328, zero := [.dat (.str ⟨#[]⟩), .dat (.str ⟨#[]⟩), .dat (.str ⟨#[]⟩), .dat (.int .i64 0), .dat (.int .i64 0), .dat (.int .i64 0), .nil, .dat (.str ⟨#[]⟩), .dat (.int .i64 0), .nil, .nil, .nil, .dat (.int .i64 0), .dat (.str ⟨#[]⟩), .nil, .dat (.int .i64 0), .dat (.int .i64 0), .dat (.int .i64 0), .dat (.int .i64 0), .nil, .dat (.int .i64 0), .dat (.int .i64 0), .dat (.int .i64 0), .dat (.bool false)] } := by kernel_rfl
theorem ti183 : tiOf Tryz.prog 183 = some { k := .slice 189, size := 1, bytes := 24, zero := [.nil] } := by kernel_rfl
theorem ti185 : tiOf Tryz.prog 185 = some { k := .struct [(0, 1, false), (1, 1, false)], size := 2, bytes := 32, zero := [.dat (.int .i64 0), .nil] } := by kernel_rfl
theorem ti187 : tiOf Tryz.prog 187 = some { k := .struct [(0, 1, false), (1, 1, false), (2, 1, false), (3, 1, false), (4, 1, false)], size := 5, bytes := 56, zero := [.dat (.int .i64 0), .dat (.int .i64 0), .dat (.int .i64 0), .nil, .dat (.bool false)] } := by kernel_rfl
theorem ti189 : tiOf Tryz.prog 189 = some { k := .struct [(0, 1, false), (1, 1, false), (2, 5, true)], size := 7, bytes := 88, zero := [.dat (.str ⟨#[]⟩), .dat (.str ⟨#[]⟩), .dat (.int .i64 0), .dat (.int .i64 0), .dat (.int .i64 0), .nil, .dat (.bool false)] } := by kernel_rfl
theorem ti203 : tiOf Tryz.prog 203 = some { k := .struct [(0, 1, false), (1, 1, false), (2, 1, false)], size := 3, bytes := 32, zero := [.dat (.int .i64 0), .dat (.int .i64 0), .dat (.str ⟨#[]⟩)], cmp := [.int, .int, .str] } := by kernel_rfl
theorem ti204 : tiOf Tryz.prog 204 = some { k := .slice 273, size := 1, bytes := 24, zero := [.nil] } := by kernel_rfl
theorem ti206 : tiOf Tryz.prog 206 = some { k := .struct [(0, 1, false)], size := 1, bytes := 24, zero := [.nil] } := by kernel_rfl
theorem ti208 : tiOf Tryz.prog 208 = some { k := .struct [(0, 3, true), (3, 1, true)], size := 4, bytes := 56, zero := [.dat (.int .i64 0), .dat (.int .i64 0), .dat (.str ⟨#[]⟩), .nil] } := by kernel_rfl
theorem ti225 : tiOf Tryz.prog 225 = some { k := .struct [(0, 1, false), (1, 1, false)], size := 2, bytes := 32, zero := [.dat (.str ⟨#[]⟩), .dat (.str ⟨#[]⟩)], cmp := [.str, .str] } := by kernel_rfl
theorem ti252 : tiOf Tryz.prog 252 = some { k := .slice 336, size := 1, bytes := 24, zero := [.nil] } := by kernel_rfl
theorem ti254 : tiOf Tryz.prog 254 = some { k := .struct [(0, 1, false), (1, 1, false)], size := 2, bytes := 32, zero := [.dat (.int .i64 0), .nil] } := by kernel_rfl
theorem ti273 : tiOf Tryz.prog 273 = some { k := .struct [(0, 1, false), (1, 1, false)], size := 2, bytes := 24, zero := [.dat (.str ⟨#[]⟩), .dat (.int .i64 0)], cmp := [.str, .int] } := by kernel_rfl
theorem ti285 : tiOf Tryz.prog 285 = some { k := .struct [(0, 1, false), (1, 1, false), (2, 3, true), (5, 1, false), (6, 1, false)], size := 7, bytes := 72, zero := [.dat (.int .i64 0), .dat (.int .i64 0), .dat (.int .i64 0), .dat (.int .i64 0), .dat (.str ⟨#[]⟩), .dat (.str ⟨#[]⟩), .dat (.int .i64 0)], cmp := [.int, .int, .int, .int, .str, .str, .int] } := by kernel_rfl
theorem ti302 : tiOf Tryz.prog 302 = some { k := .struct [(0, 1, false), (1, 1, false)], size := 2, bytes := 32, zero := [.dat (.str ⟨#[]⟩), .dat (.str ⟨#[]⟩)], cmp := [.str, .str] } := by kernel_rfl
theorem ti307 : tiOf Tryz.prog 307 = some { k := .struct [(0, 1, false), (1, 1, false), (2, 1, false)], size := 3, bytes := 32, zero := [.dat (.int .i64 0), .dat (.int .i64 0), .dat (.str ⟨#[]⟩)], cmp := [.int, .int, .str] } := by kernel_rfl
theorem ti308 : tiOf Tryz.prog 308 = some { k := .slice 358, size := 1, bytes := 24, zero := [.nil] } := by kernel_rfl
theorem ti310 : tiOf Tryz.prog 310 = some { k := .struct [(0, 1, false)], size := 1, bytes := 24, zero := [.nil] } := by kernel_rfl
theorem ti312 : tiOf Tryz.prog 312 = some { k := .struct [(0, 3, true), (3, 1, true)], size := 4, bytes := 56, zero := [.dat (.int .i64 0), .dat (.int .i64 0), .dat (.str ⟨#[]⟩), .nil] } := by kernel_rfl
theorem ti334 : tiOf Tryz.prog 334 = some { k := .struct [(0, 1, false), (1, 1, false), (2, 1, false), (3, 1, false), (4, 1, false)], size := 5, bytes := 56, zero := [.dat (.int .i64 0), .dat (.int .i64 0), .dat (.int .i64 0), .nil, .dat (.bool false)] } := by kernel_rfl
theorem ti336 : tiOf Tryz.prog 336 = some { k := .struct [(0, 1, false), (1, 1, false), (2, 5, true)], size := 7, bytes := 88, zero := [.dat (.str ⟨#[]⟩), .dat (.str ⟨#[]⟩), .dat (.int .i64 0), .dat (.int .i64 0), .dat (.int .i64 0), .nil, .dat (.bool false)] } := by kernel_rfl
theorem ti341 : tiOf Tryz.prog 341 = some { k := .struct [(0, 1, false), (1, 1, false), (2, 3, true), (5, 1, false), (6, 1, false)], size := 7, bytes := 72, zero := [.dat (.int .i64 0), .dat (.int .i64 0), .dat (.int .i64 0), .dat (.int .i64 0), .dat (.str ⟨#[]⟩), .dat (.str ⟨#[]⟩), .dat (.int .i64 0)], cmp := [.int, .int, .int, .int, .str, .str, .int] } := by kernel_rfl
theorem ti358 : tiOf Tryz.prog 358 = some { k := .struct [(0, 1, false), (1, 1, false)], size := 2, bytes := 24, zero := [.dat (.str ⟨#[]⟩), .dat (.int .i64 0)], cmp := [.str, .int] } := by kernel_rfl
end Go.Proofs.YtgpiencmneiblaaGreat.gen
