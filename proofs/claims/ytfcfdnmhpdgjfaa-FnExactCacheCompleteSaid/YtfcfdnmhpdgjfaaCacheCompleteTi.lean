/-
  Helper text: the types of the program, as the layer reads them. No conditions.
-/
import Derived.Test.YtfcfdnmhpdgjfaaCacheCompleteMod
import Derived.Test.YtfcfdnmhpdgjfaaProg
import Derived.KernelRfl
namespace Go.Proofs.Ytfcfdnmhpdgjfaa.gen
open Go Go.Sh
set_option linter.unusedVariables false
set_option linter.unusedSimpArgs false
theorem mixed : Try.prog.follows .mixedOrders = true := by kernel_rfl
theorem ti3 : tiOf Try.prog 3 = some { k := .int .i64, size := 1, bytes := 8, zero := [.dat (.int .i64 0)] } := by kernel_rfl
theorem ti4 : tiOf Try.prog 4 = some { k := .bool, size := 1, bytes := 1, zero := [.dat (.bool false)] } := by kernel_rfl
theorem ti5 : tiOf Try.prog 5 = some { k := .int .u8, size := 1, bytes := 1, zero := [.dat (.int .u8 0)] } := by kernel_rfl
theorem ti9 : tiOf Try.prog 9 = some { k := .str, size := 1, bytes := 16, zero := [.dat (.str ⟨#[]⟩)] } := by kernel_rfl
theorem ti42 : tiOf Try.prog 42 = some { k := .slice 3, size := 1, bytes := 24, zero := [.nil] } := by kernel_rfl
theorem ti57 : tiOf Try.prog 57 = some { k := .slice 5, size := 1, bytes := 24, zero := [.nil] } := by kernel_rfl
theorem ti66 : tiOf Try.prog 66 = some { k := .slice 153, size := 1, bytes := 24, zero := [.nil] } := by kernel_rfl
theorem ti68 : tiOf Try.prog 68 = some { k := .struct [(0, 1, false)], size := 1, bytes := 24, zero := [.nil] } := by kernel_rfl
theorem ti69 : tiOf Try.prog 69 = some { k := .slice 9, size := 1, bytes := 24, zero := [.nil] } := by kernel_rfl
theorem ti71 : tiOf Try.prog 71 = some { k := .struct [(0, 1, false), (1, 1, false), (2, 1, false), (3, 1, false)], size := 4, bytes := 56, zero := [.dat (.str ⟨#[]⟩), .dat (.int .i64 0), .nil, .dat (.bool false)] } := by kernel_rfl
theorem ti75 : tiOf Try.prog 75 = some { k := .slice 158, size := 1, bytes := 24, zero := [.nil] } := by kernel_rfl
theorem ti77 : tiOf Try.prog 77 = some { k := .struct [(0, 1, false)], size := 1, bytes := 24, zero := [.nil] } := by kernel_rfl
theorem ti79 : tiOf Try.prog 79 = some { k := .struct [(0, 1, false), (1, 1, false), (2, 1, false), (3, 1, false)], size := 4, bytes := 56, zero := [.dat (.str ⟨#[]⟩), .dat (.int .i64 0), .nil, .dat (.bool false)] } := by kernel_rfl
theorem ti117 : tiOf Try.prog 117 = some { k := .struct [(0, 1, false), (1, 1, false), (2, 1, false), (3, 1, false), (4, 1, false)], size := 5, bytes := 56, zero := [.dat (.int .i64 0), .dat (.int .i64 0), .dat (.int .i64 0), .nil, .dat (.bool false)] } := by kernel_rfl
theorem ti151 : tiOf Try.prog 151 = some { k := .slice 196, size := 1, bytes := 24, zero := [.nil] } := by kernel_rfl
theorem ti153 : tiOf Try.prog 153 = some { k := .struct [(0, 1, false), (1, 1, false)], size := 2, bytes := 32, zero := [.dat (.int .i64 0), .nil] } := by kernel_rfl
theorem ti156 : tiOf Try.prog 156 = some { k := .slice 161, size := 1, bytes := 24, zero := [.nil] } := by kernel_rfl
theorem ti158 : tiOf Try.prog 158 = some { k := .struct [(0, 1, false), (1, 1, false)], size := 2, bytes := 32, zero := [.dat (.int .i64 0), .nil] } := by kernel_rfl
theorem ti161 : tiOf Try.prog 161 = some { k := .struct [(0, 1, false), (1, 1, false), (2, 5, true)], size := 7, bytes := 88, zero := [.dat (.str ⟨#[]⟩), .dat (.str ⟨#[]⟩), .dat (.int .i64 0), .dat (.int .i64 0), .dat (.int .i64 0), .nil, .dat (.bool false)] } := by kernel_rfl
theorem ti194 : tiOf Try.prog 194 = some { k := .struct [(0, 1, false), (1, 1, false), (2, 1, false), (3, 1, false), (4, 1, false)], size := 5, bytes := 56, zero := [.dat (.int .i64 0), .dat (.int .i64 0), .dat (.int .i64 0), .nil, .dat (.bool false)] } := by kernel_rfl
theorem ti196 : tiOf Try.prog 196 = some { k := .struct [(0, 1, false), (1, 1, false), (2, 5, true)], size := 7, bytes := 88, zero := [.dat (.str ⟨#[]⟩), .dat (.str ⟨#[]⟩), .dat (.int .i64 0), .dat (.int .i64 0), .dat (.int .i64 0), .nil, .dat (.bool false)] } := by kernel_rfl
end Go.Proofs.Ytfcfdnmhpdgjfaa.gen
