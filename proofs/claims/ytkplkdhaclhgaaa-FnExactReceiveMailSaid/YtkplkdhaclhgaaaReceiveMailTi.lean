/-
  Helper text: the types of the program, as the layer reads them. No conditions.
-/
import Derived.Test.YtkplkdhaclhgaaaReceiveMailMod
import Derived.Test.YtkplkdhaclhgaaaProg
import Derived.KernelRfl
namespace Go.Proofs.Ytkplkdhaclhgaaa.gen
open Go Go.Sh
set_option linter.unusedVariables false
set_option linter.unusedSimpArgs false
theorem mixed : Try.prog.follows .mixedOrders = true := by kernel_rfl
theorem ti3 : tiOf Try.prog 3 = some { k := .int .i64, size := 1, bytes := 8, zero := [.dat (.int .i64 0)] } := by kernel_rfl
theorem ti4 : tiOf Try.prog 4 = some { k := .bool, size := 1, bytes := 1, zero := [.dat (.bool false)] } := by kernel_rfl
theorem ti22 : tiOf Try.prog 22 = some { k := .slice 47, size := 1, bytes := 24, zero := [.nil] } := by kernel_rfl
theorem ti24 : tiOf Try.prog 24 = some { k := .struct [(0, 1, false)], size := 1, bytes := 24, zero := [.nil] } := by kernel_rfl
theorem ti26 : tiOf Try.prog 26 = some { k := .slice 30, size := 1, bytes := 24, zero := [.nil] } := by kernel_rfl
theorem ti28 : tiOf Try.prog 28 = some { k := .struct [(0, 1, false)], size := 1, bytes := 24, zero := [.nil] } := by kernel_rfl
theorem ti30 : tiOf Try.prog 30 = some { k := .struct [(0, 1, false), (1, 1, false), (2, 1, false)], size := 3, bytes := 24, zero := [.dat (.int .i64 0), .dat (.int .i64 0), .dat (.int .i64 0)], cmp := [.int, .int, .int] } := by kernel_rfl
theorem ti47 : tiOf Try.prog 47 = some { k := .struct [(0, 1, false), (1, 1, false), (2, 1, false)], size := 3, bytes := 24, zero := [.dat (.int .i64 0), .dat (.int .i64 0), .dat (.int .i64 0)], cmp := [.int, .int, .int] } := by kernel_rfl
theorem TB : type_of% (And.intro ti3 (And.intro ti4 (And.intro ti22 (And.intro ti24 (And.intro ti26 (And.intro ti28 (And.intro ti30 (ti47)))))))) :=
  And.intro ti3 (And.intro ti4 (And.intro ti22 (And.intro ti24 (And.intro ti26 (And.intro ti28 (And.intro ti30 (ti47)))))))
theorem EN : type_of% (And.intro (@enI.eq_1) (And.intro (@enB.eq_1) (And.intro (@enS.eq_1) (And.intro (@enT.eq_1) (And.intro (@enL.eq_1) (And.intro (@enI.fl) (And.intro (@enB.fl) (And.intro (@enS.fl) (And.intro (@enT.fl) (And.intro (@bytesD_en) (And.intro (@strOf_en) (And.intro (@strOf_one) (And.intro (@M.Mail.en.eq_1) (And.intro (@M.Mail.en.fl) (@M.Channel.en.eq_1))))))))))))))) :=
  And.intro (@enI.eq_1) (And.intro (@enB.eq_1) (And.intro (@enS.eq_1) (And.intro (@enT.eq_1) (And.intro (@enL.eq_1) (And.intro (@enI.fl) (And.intro (@enB.fl) (And.intro (@enS.fl) (And.intro (@enT.fl) (And.intro (@bytesD_en) (And.intro (@strOf_en) (And.intro (@strOf_one) (And.intro (@M.Mail.en.eq_1) (And.intro (@M.Mail.en.fl) (@M.Channel.en.eq_1))))))))))))))

end Go.Proofs.Ytkplkdhaclhgaaa.gen
