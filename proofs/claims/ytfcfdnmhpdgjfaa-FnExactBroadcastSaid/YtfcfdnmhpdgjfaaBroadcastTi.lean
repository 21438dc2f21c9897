/-
  Helper text: the types of the program, as the layer reads them. No conditions.
-/
import Derived.Test.YtfcfdnmhpdgjfaaBroadcastMod
import Derived.Test.YtfcfdnmhpdgjfaaProg
import Derived.KernelRfl
namespace Go.Proofs.Ytfcfdnmhpdgjfaa.gen
open Go Go.Sh
set_option linter.unusedVariables false
set_option linter.unusedSimpArgs false
theorem mixed : Try.prog.follows .mixedOrders = true := by kernel_rfl
theorem ti3 : tiOf Try.prog 3 = some { k := .int .i64, size := 1, bytes := 8, zero := [.dat (.int .i64 0)] } := by kernel_rfl
theorem ti4 : tiOf Try.prog 4 = some { k := .bool, size := 1, bytes := 1, zero := [.dat (.bool false)] } := by kernel_rfl
theorem ti5 : tiOf Try.prog 5 = some { k := .int .u8, size := 1, bytes := 1, zero := [.dat (.int .u8 0)] } := by kernel_rfl
theorem ti9 : tiOf Try.prog 9 = some { k := .str, size := 1, bytes := 16, zero := [.dat (.str ⟨#[]⟩)] } := by kernel_rfl
theorem ti24 : tiOf Try.prog 24 = some { k := .slice 132, size := 1, bytes := 24, zero := [.nil] } := by kernel_rfl
theorem ti26 : tiOf Try.prog 26 = some { k := .struct [(0, 1, false)], size := 1, bytes := 24, zero := [.nil] } := by kernel_rfl
theorem ti28 : tiOf Try.prog 28 = some { k := .slice 32, size := 1, bytes := 24, zero := [.nil] } := by kernel_rfl
theorem ti30 : tiOf Try.prog 30 = some { k := .struct [(0, 1, false)], size := 1, bytes := 24, zero := [.nil] } := by kernel_rfl
theorem ti32 : tiOf Try.prog 32 = some { k := .struct [(0, 1, false), (1, 1, false), (2, 1, false)], size := 3, bytes := 24, zero := [.dat (.int .i64 0), .dat (.int .i64 0), .dat (.int .i64 0)], cmp := [.int, .int, .int] } := by kernel_rfl
theorem ti40 : tiOf Try.prog 40 = some { k := .slice 135, size := 1, bytes := 24, zero := [.nil] } := by kernel_rfl
theorem ti41 : tiOf Try.prog 41 = some { k := .slice 171, size := 1, bytes := 24, zero := [.nil] } := by kernel_rfl
theorem ti42 : tiOf Try.prog 42 = some { k := .slice 3, size := 1, bytes := 24, zero := [.nil] } := by kernel_rfl
theorem ti44 : tiOf Try.prog 44 = some { k := .struct [(0, 1, false), (1, 1, false), (2, 1, false), (3, 1, false), (4, 1, false), (5, 1, false)], size := 6, bytes := 72, zero := [.nil, .dat (.int .i64 0), .nil, .dat (.int .i64 0), .dat (.bool false), .dat (.bool false)] } := by kernel_rfl
theorem ti46 : tiOf Try.prog 46 = some { k := .struct [(0, 1, false), (1, 1, false), (2, 1, false), (3, 1, false), (4, 1, false), (5, 6, true)], size := 11, bytes := 144, zero := [.dat (.int .i64 0), .dat (.str ⟨#[]⟩), .dat (.str ⟨#[]⟩), .dat (.int .i64 0), .nil, .nil, .dat (.int .i64 0), .nil, .dat (.int .i64 0), .dat (.bool false), .dat (.bool false)] } := by kernel_rfl
theorem ti49 : tiOf Try.prog 49 = some { k := .slice 137, size := 1, bytes := 24, zero := [.nil] } := by kernel_rfl
theorem ti50 : tiOf Try.prog 50 = some { k := .slice 169, size := 1, bytes := 24, zero := [.nil] } := by kernel_rfl
theorem ti52 : tiOf Try.prog 52 = some { k := .struct [(0, 1, false), (1, 1, false), (2, 1, false), (3, 1, false), (4, 1, false), (5, 1, false)], size := 6, bytes := 72, zero := [.nil, .dat (.int .i64 0), .nil, .dat (.int .i64 0), .dat (.bool false), .dat (.bool false)] } := by kernel_rfl
theorem ti54 : tiOf Try.prog 54 = some { k := .struct [(0, 1, false), (1, 1, false), (2, 1, false), (3, 1, false), (4, 1, false), (5, 6, true)], size := 11, bytes := 144, zero := [.dat (.int .i64 0), .dat (.str ⟨#[]⟩), .dat (.str ⟨#[]⟩), .dat (.int .i64 0), .nil, .nil, .dat (.int .i64 0), .nil, .dat (.int .i64 0), .dat (.bool false), .dat (.bool false)] } := by kernel_rfl
theorem ti57 : tiOf Try.prog 57 = some { k := .slice 5, size := 1, bytes := 24, zero := [.nil] } := by kernel_rfl
theorem ti59 : tiOf Try.prog 59 = some { k := .slice 54, size := 1, bytes := 24, zero := [.nil] } := by kernel_rfl
theorem ti84 : tiOf Try.prog 84 = some { k := .slice 46, size := 1, bytes := 24, zero := [.nil] } := by kernel_rfl
theorem ti132 : tiOf Try.prog 132 = some { k := .struct [(0, 1, false), (1, 1, false), (2, 1, false)], size := 3, bytes := 24, zero := [.dat (.int .i64 0), .dat (.int .i64 0), .dat (.int .i64 0)], cmp := [.int, .int, .int] } := by kernel_rfl
theorem ti135 : tiOf Try.prog 135 = some { k := .struct [(0, 1, false), (1, 1, false)], size := 2, bytes := 24, zero := [.dat (.str ⟨#[]⟩), .dat (.int .i64 0)], cmp := [.str, .int] } := by kernel_rfl
theorem ti137 : tiOf Try.prog 137 = some { k := .struct [(0, 1, false), (1, 1, false)], size := 2, bytes := 24, zero := [.dat (.str ⟨#[]⟩), .dat (.int .i64 0)], cmp := [.str, .int] } := by kernel_rfl
theorem ti169 : tiOf Try.prog 169 = some { k := .struct [(0, 1, false), (1, 1, false), (2, 1, false), (3, 1, false)], size := 4, bytes := 40, zero := [.dat (.int .i64 0), .dat (.int .i64 0), .dat (.int .i64 0), .dat (.str ⟨#[]⟩)], cmp := [.int, .int, .int, .str] } := by kernel_rfl
theorem ti171 : tiOf Try.prog 171 = some { k := .struct [(0, 1, false), (1, 1, false), (2, 1, false), (3, 1, false)], size := 4, bytes := 40, zero := [.dat (.int .i64 0), .dat (.int .i64 0), .dat (.int .i64 0), .dat (.str ⟨#[]⟩)], cmp := [.int, .int, .int, .str] } := by kernel_rfl
end Go.Proofs.Ytfcfdnmhpdgjfaa.gen
