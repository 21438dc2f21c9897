/-
  Helper text. No conditions.
-/
import Derived.Test.YtimblbmbfdopgaaGreatOpenPageMod
import Derived.Test.YtimblbmbfdopgaaGreatProg
import Derived.KernelRfl
set_option linter.unusedVariables false
set_option linter.unusedSimpArgs false
namespace Go.Proofs.YtimblbmbfdopgaaGreat.gen
open Go Go.Sh
theorem mixed:Tryz.prog.follows .mixedOrders=true:=by kernel_rfl
theorem ti3:dK Tryz.prog 3=some { k:=.int .i64,size:=1,bytes:=8,zero:=[.dat (.int .i64 0)] }:=by kernel_rfl
theorem ti4:dK Tryz.prog 4=some { k:=.bool,size:=1,bytes:=1,zero:=[.dat (.bool false)] }:=by kernel_rfl
theorem ti5:dK Tryz.prog 5=some { k:=.int .u8,size:=1,bytes:=1,zero:=[.dat (.int .u8 0)] }:=by kernel_rfl
theorem ti9:dK Tryz.prog 9=some { k:=.str,size:=1,bytes:=16,zero:=[.dat (.str ⟨#[]⟩)] }:=by kernel_rfl
theorem aYs:dK Tryz.prog 22=some { k:=.slice 421,size:=1,bytes:=24,zero:=[.nil],sl:=[some (421,24)] }:=by kernel_rfl
theorem aYm:dK Tryz.prog 24=some { k:=.struct [(0,1,false)],size:=1,bytes:=24,zero:=[.nil],sl:=[some (421,24)] }:=by kernel_rfl
theorem aZJ:dK Tryz.prog 25=some { k:=.slice 42,size:=1,bytes:=24,zero:=[.nil],sl:=[some (42,11)] }:=by kernel_rfl
theorem aY6:dK Tryz.prog 26=some { k:=.slice 423,size:=1,bytes:=24,zero:=[.nil],sl:=[some (423,4)] }:=by kernel_rfl
theorem aYz:dK Tryz.prog 28=some { k:=.struct [(0,1,false)],size:=1,bytes:=24,zero:=[.nil],sl:=[some (423,4)] }:=by kernel_rfl
theorem aZC:dK Tryz.prog 29=some { k:=.slice 438,size:=1,bytes:=24,zero:=[.nil],sl:=[some (438,3)] }:=by kernel_rfl
theorem aYu:dK Tryz.prog 31=some { k:=.struct [(0,1,false)],size:=1,bytes:=24,zero:=[.nil],sl:=[some (438,3)] }:=by kernel_rfl
theorem aY9:dK Tryz.prog 32=some { k:=.slice 288,size:=1,bytes:=24,zero:=[.nil],sl:=[some (288,4)] }:=by kernel_rfl
theorem aY1:dK Tryz.prog 33=some { k:=.slice 296,size:=1,bytes:=24,zero:=[.nil],sl:=[some (296,5)] }:=by kernel_rfl
theorem aPt:dK Tryz.prog 35=some { k:=.struct [(0,1,false),(1,1,false),(2,1,false),(3,1,true),(4,1,false),(5,1,false),(6,1,true),(7,1,true),(8,1,false),(9,1,false)],size:=10,bytes:=176,zero:=[.dat (.int .i64 0),.dat (.bool false),.dat (.int .i64 0),.nil,.nil,.dat (.int .i64 0),.nil,.nil,.nil,.nil],sl:=[none,none,none,some (421,24),some (42,11),none,some (423,4),some (438,3),some (288,4),some (296,5)] }:=by kernel_rfl
theorem aYf:dK Tryz.prog 36=some { k:=.slice 299,size:=1,bytes:=24,zero:=[.nil],sl:=[some (299,2)] }:=by kernel_rfl
theorem aYn:dK Tryz.prog 37=some { k:=.slice 272,size:=1,bytes:=24,zero:=[.nil],sl:=[some (272,4)] }:=by kernel_rfl
theorem aTY:dK Tryz.prog 38=some { k:=.slice 3,size:=1,bytes:=24,zero:=[.nil],sl:=[some (3,1)] }:=by kernel_rfl
theorem aY3:dK Tryz.prog 40=some { k:=.struct [(0,1,false),(1,1,false),(2,1,false),(3,1,false),(4,1,false),(5,1,false)],size:=6,bytes:=72,zero:=[.nil,.dat (.int .i64 0),.nil,.dat (.int .i64 0),.dat (.bool false),.dat (.bool false)],sl:=[some (272,4),none,some (3,1),none,none,none] }:=by kernel_rfl
theorem aY7:dK Tryz.prog 42=some { k:=.struct [(0,1,false),(1,1,false),(2,1,false),(3,1,false),(4,1,false),(5,6,true)],size:=11,bytes:=144,zero:=[.dat (.int .i64 0),.dat (.str ⟨#[]⟩),.dat (.str ⟨#[]⟩),.dat (.int .i64 0),.nil,.nil,.dat (.int .i64 0),.nil,.dat (.int .i64 0),.dat (.bool false),.dat (.bool false)],sl:=[none,none,none,none,some (299,2),some (272,4),none,some (3,1),none,none,none] }:=by kernel_rfl
theorem aSr:dK Tryz.prog 45=some { k:=.slice 98,size:=1,bytes:=24,zero:=[.nil],sl:=[some (98,24)] }:=by kernel_rfl
theorem aQ2:dK Tryz.prog 47=some { k:=.struct [(0,1,false)],size:=1,bytes:=24,zero:=[.nil],sl:=[some (98,24)] }:=by kernel_rfl
theorem aYj:dK Tryz.prog 48=some { k:=.slice 67,size:=1,bytes:=24,zero:=[.nil],sl:=[some (67,11)] }:=by kernel_rfl
theorem aZE:dK Tryz.prog 49=some { k:=.slice 249,size:=1,bytes:=24,zero:=[.nil],sl:=[some (249,4)] }:=by kernel_rfl
theorem aZM:dK Tryz.prog 51=some { k:=.struct [(0,1,false)],size:=1,bytes:=24,zero:=[.nil],sl:=[some (249,4)] }:=by kernel_rfl
theorem aYc:dK Tryz.prog 52=some { k:=.slice 252,size:=1,bytes:=24,zero:=[.nil],sl:=[some (252,3)] }:=by kernel_rfl
theorem aZA:dK Tryz.prog 54=some { k:=.struct [(0,1,false)],size:=1,bytes:=24,zero:=[.nil],sl:=[some (252,3)] }:=by kernel_rfl
theorem aYx:dK Tryz.prog 55=some { k:=.slice 131,size:=1,bytes:=24,zero:=[.nil],sl:=[some (131,4)] }:=by kernel_rfl
theorem aYi:dK Tryz.prog 56=some { k:=.slice 234,size:=1,bytes:=24,zero:=[.nil],sl:=[some (234,5)] }:=by kernel_rfl
theorem aLs:dK Tryz.prog 58=some { k:=.struct [(0,1,false),(1,1,false),(2,1,false),(3,1,true),(4,1,false),(5,1,false),(6,1,true),(7,1,true),(8,1,false),(9,1,false)],size:=10,bytes:=176,zero:=[.dat (.int .i64 0),.dat (.bool false),.dat (.int .i64 0),.nil,.nil,.dat (.int .i64 0),.nil,.nil,.nil,.nil],sl:=[none,none,none,some (98,24),some (67,11),none,some (249,4),some (252,3),some (131,4),some (234,5)] }:=by kernel_rfl
theorem aY5:dK Tryz.prog 62=some { k:=.slice 324,size:=1,bytes:=24,zero:=[.nil],sl:=[some (324,2)] }:=by kernel_rfl
theorem aYd:dK Tryz.prog 63=some { k:=.slice 279,size:=1,bytes:=24,zero:=[.nil],sl:=[some (279,4)] }:=by kernel_rfl
theorem aSz:dK Tryz.prog 65=some { k:=.struct [(0,1,false),(1,1,false),(2,1,false),(3,1,false),(4,1,false),(5,1,false)],size:=6,bytes:=72,zero:=[.nil,.dat (.int .i64 0),.nil,.dat (.int .i64 0),.dat (.bool false),.dat (.bool false)],sl:=[some (279,4),none,some (3,1),none,none,none] }:=by kernel_rfl
theorem aYq:dK Tryz.prog 67=some { k:=.struct [(0,1,false),(1,1,false),(2,1,false),(3,1,false),(4,1,false),(5,6,true)],size:=11,bytes:=144,zero:=[.dat (.int .i64 0),.dat (.str ⟨#[]⟩),.dat (.str ⟨#[]⟩),.dat (.int .i64 0),.nil,.nil,.dat (.int .i64 0),.nil,.dat (.int .i64 0),.dat (.bool false),.dat (.bool false)],sl:=[none,none,none,none,some (324,2),some (279,4),none,some (3,1),none,none,none] }:=by kernel_rfl
theorem aZD:dK Tryz.prog 74=some { k:=.slice 5,size:=1,bytes:=24,zero:=[.nil],sl:=[some (5,1)] }:=by kernel_rfl
theorem aYb:dK Tryz.prog 77=some { k:=.struct [(0,1,false),(1,1,false),(2,1,false),(3,1,false)],size:=4,bytes:=40,zero:=[.dat (.str ⟨#[]⟩),.dat (.int .i64 0),.dat (.int .i64 0),.dat (.int .i64 0)],cmp:=[.str,.int,.int,.int] }:=by kernel_rfl
theorem aYl:dK Tryz.prog 78=some { k:=.slice 354,size:=1,bytes:=24,zero:=[.nil],sl:=[some (354,2)] }:=by kernel_rfl
theorem aY0:dK Tryz.prog 80=some { k:=.struct [(0,1,false)],size:=1,bytes:=24,zero:=[.nil],sl:=[some (354,2)] }:=by kernel_rfl
theorem aYh:dK Tryz.prog 81=some { k:=.slice 89,size:=1,bytes:=24,zero:=[.nil],sl:=[some (89,3)] }:=by kernel_rfl
theorem aY2:dK Tryz.prog 82=some { k:=.slice 375,size:=1,bytes:=24,zero:=[.nil],sl:=[some (375,2)] }:=by kernel_rfl
theorem aY4:dK Tryz.prog 84=some { k:=.struct [(0,1,false),(1,1,false),(2,1,false),(3,1,false)],size:=4,bytes:=72,zero:=[.dat (.str ⟨#[]⟩),.dat (.int .i64 0),.nil,.nil],sl:=[none,none,some (89,3),some (375,2)] }:=by kernel_rfl
theorem aYo:dK Tryz.prog 86=some { k:=.struct [(0,4,true),(4,1,false),(5,1,false)],size:=6,bytes:=104,zero:=[.dat (.str ⟨#[]⟩),.dat (.int .i64 0),.nil,.nil,.nil,.dat (.int .i64 0)],sl:=[none,none,some (89,3),some (375,2),some (5,1),none] }:=by kernel_rfl
theorem aZL:dK Tryz.prog 87=some { k:=.slice 310,size:=1,bytes:=24,zero:=[.nil],sl:=[some (310,4)] }:=by kernel_rfl
theorem aYv:dK Tryz.prog 89=some { k:=.struct [(0,1,false),(1,1,false),(2,1,false)],size:=3,bytes:=48,zero:=[.dat (.str ⟨#[]⟩),.nil,.dat (.int .i64 0)],sl:=[none,some (310,4),none] }:=by kernel_rfl
theorem aYy:dK Tryz.prog 90=some { k:=.slice 387,size:=1,bytes:=24,zero:=[.nil],sl:=[some (387,7)] }:=by kernel_rfl
theorem aZF:dK Tryz.prog 92=some { k:=.struct [(0,1,false),(1,1,false),(2,1,false)],size:=3,bytes:=40,zero:=[.dat (.int .i64 0),.dat (.int .i64 0),.nil],sl:=[none,none,some (387,7)] }:=by kernel_rfl
theorem aYw:dK Tryz.prog 94=some { k:=.struct [(0,3,true),(3,1,false),(4,1,false)],size:=5,bytes:=56,zero:=[.dat (.int .i64 0),.dat (.int .i64 0),.nil,.dat (.int .i64 0),.dat (.int .i64 0)],sl:=[none,none,some (387,7),none,none] }:=by kernel_rfl
theorem aYp:dK Tryz.prog 96=some { k:=.struct [(0,3,true),(3,1,false),(4,5,true)],size:=9,bytes:=112,zero:=[.dat (.str ⟨#[]⟩),.nil,.dat (.int .i64 0),.dat (.int .i64 0),.dat (.int .i64 0),.dat (.int .i64 0),.nil,.dat (.int .i64 0),.dat (.int .i64 0)],sl:=[none,some (310,4),none,none,none,none,some (387,7),none,none] }:=by kernel_rfl
theorem aPy:dK Tryz.prog 98=some { k:=.struct [(0,1,false),(1,1,false),(2,4,true),(6,1,true),(7,6,true),(13,9,true),(22,1,false),(23,1,false)],size:=24,bytes:=328,zero:=[.dat (.str ⟨#[]⟩),.dat (.str ⟨#[]⟩),.dat (.str ⟨#[]⟩),.dat (.int .i64 0),.dat (.int .i64 0),.dat (.int .i64 0),.nil,.dat (.str ⟨#[]⟩),.dat (.int .i64 0),.nil,.nil,.nil,.dat (.int .i64 0),.dat (.str ⟨#[]⟩),.nil,.dat (.int .i64 0),.dat (.int .i64 0),.dat (.int .i64 0),.dat (.int .i64 0),.nil,.dat (.int .i64 0),.dat (.int .i64 0),.dat (.int .i64 0),.dat (.bool false)],sl:=[none,none,none,none,none,none,some (354,2),none,none,some (89,3),some (375,2),some (5,1),none,none,some (310,4),none,none,none,none,some (387,7),none,none,none,none] }:=by kernel_rfl
theorem aSH:dK Tryz.prog 119=some { k:=.slice 9,size:=1,bytes:=24,zero:=[.nil],sl:=[some (9,1)] }:=by kernel_rfl
theorem aST:dK Tryz.prog 131=some { k:=.struct [(0,1,false),(1,1,false),(2,1,false),(3,1,false)],size:=4,bytes:=56,zero:=[.dat (.str ⟨#[]⟩),.dat (.int .i64 0),.nil,.dat (.bool false)],sl:=[none,none,some (9,1),none] }:=by kernel_rfl
theorem aTM:dK Tryz.prog 152=some { k:=.slice 312,size:=1,bytes:=24,zero:=[.nil],sl:=[some (312,2)] }:=by kernel_rfl
theorem aSF:dK Tryz.prog 154=some { k:=.struct [(0,1,false)],size:=1,bytes:=24,zero:=[.nil],sl:=[some (312,2)] }:=by kernel_rfl
theorem aR8:dK Tryz.prog 161=some { k:=.struct [(0,1,false),(1,1,false),(2,1,false)],size:=3,bytes:=32,zero:=[.dat (.int .i64 0),.dat (.int .i64 0),.dat (.str ⟨#[]⟩)],cmp:=[.int,.int,.str] }:=by kernel_rfl
theorem aS4:dK Tryz.prog 232=some { k:=.slice 385,size:=1,bytes:=24,zero:=[.nil],sl:=[some (385,2)] }:=by kernel_rfl
theorem aTC:dK Tryz.prog 234=some { k:=.struct [(0,3,true),(3,1,false),(4,1,false)],size:=5,bytes:=96,zero:=[.dat (.str ⟨#[]⟩),.nil,.dat (.int .i64 0),.nil,.nil],sl:=[none,some (310,4),none,some (385,2),some (387,7)] }:=by kernel_rfl
theorem aTE:dK Tryz.prog 249=some { k:=.struct [(0,1,false),(1,1,false),(2,1,false),(3,1,false)],size:=4,bytes:=32,zero:=[.dat (.str ⟨#[]⟩),.dat (.int .i64 0),.dat (.bool false),.dat (.bool false)],cmp:=[.str,.int,.bool,.bool] }:=by kernel_rfl
theorem aTF:dK Tryz.prog 252=some { k:=.struct [(0,1,false),(1,1,false),(2,1,false)],size:=3,bytes:=24,zero:=[.dat (.int .i64 0),.dat (.int .i64 0),.dat (.int .i64 0)],cmp:=[.int,.int,.int] }:=by kernel_rfl
theorem aTR:dK Tryz.prog 272=some { k:=.struct [(0,1,false),(1,1,false),(2,1,false),(3,1,false)],size:=4,bytes:=40,zero:=[.dat (.int .i64 0),.dat (.int .i64 0),.dat (.int .i64 0),.dat (.str ⟨#[]⟩)],cmp:=[.int,.int,.int,.str] }:=by kernel_rfl
theorem aSB:dK Tryz.prog 277=some { k:=.struct [(0,1,false),(1,1,false),(2,1,false),(3,1,false),(4,1,false)],size:=5,bytes:=56,zero:=[.dat (.int .i64 0),.dat (.int .i64 0),.dat (.int .i64 0),.nil,.dat (.bool false)],sl:=[none,none,none,some (5,1),none] }:=by kernel_rfl
theorem aSI:dK Tryz.prog 279=some { k:=.struct [(0,1,false),(1,1,false),(2,1,false),(3,1,false)],size:=4,bytes:=40,zero:=[.dat (.int .i64 0),.dat (.int .i64 0),.dat (.int .i64 0),.dat (.str ⟨#[]⟩)],cmp:=[.int,.int,.int,.str] }:=by kernel_rfl
theorem aSZ:dK Tryz.prog 288=some { k:=.struct [(0,1,false),(1,1,false),(2,1,false),(3,1,false)],size:=4,bytes:=56,zero:=[.dat (.str ⟨#[]⟩),.dat (.int .i64 0),.nil,.dat (.bool false)],sl:=[none,none,some (9,1),none] }:=by kernel_rfl
theorem aTV:dK Tryz.prog 290=some { k:=.slice 573,size:=1,bytes:=24,zero:=[.nil],sl:=[some (573,4)] }:=by kernel_rfl
theorem aTQ:dK Tryz.prog 292=some { k:=.struct [(0,1,false),(1,1,false),(2,1,false)],size:=3,bytes:=48,zero:=[.dat (.str ⟨#[]⟩),.nil,.dat (.int .i64 0)],sl:=[none,some (573,4),none] }:=by kernel_rfl
theorem aTa:dK Tryz.prog 293=some { k:=.slice 525,size:=1,bytes:=24,zero:=[.nil],sl:=[some (525,2)] }:=by kernel_rfl
theorem aSv:dK Tryz.prog 294=some { k:=.slice 511,size:=1,bytes:=24,zero:=[.nil],sl:=[some (511,7)] }:=by kernel_rfl
theorem aSR:dK Tryz.prog 296=some { k:=.struct [(0,3,true),(3,1,false),(4,1,false)],size:=5,bytes:=96,zero:=[.dat (.str ⟨#[]⟩),.nil,.dat (.int .i64 0),.nil,.nil],sl:=[none,some (573,4),none,some (525,2),some (511,7)] }:=by kernel_rfl
theorem aS0:dK Tryz.prog 299=some { k:=.struct [(0,1,false),(1,1,false)],size:=2,bytes:=24,zero:=[.dat (.str ⟨#[]⟩),.dat (.int .i64 0)],cmp:=[.str,.int] }:=by kernel_rfl
theorem aTb:dK Tryz.prog 310=some { k:=.struct [(0,3,true),(3,1,true)],size:=4,bytes:=56,zero:=[.dat (.int .i64 0),.dat (.int .i64 0),.dat (.str ⟨#[]⟩),.nil],sl:=[none,none,none,some (312,2)] }:=by kernel_rfl
theorem aTD:dK Tryz.prog 312=some { k:=.struct [(0,1,false),(1,1,false)],size:=2,bytes:=24,zero:=[.dat (.str ⟨#[]⟩),.dat (.int .i64 0)],cmp:=[.str,.int] }:=by kernel_rfl
theorem aS8:dK Tryz.prog 324=some { k:=.struct [(0,1,false),(1,1,false)],size:=2,bytes:=24,zero:=[.dat (.str ⟨#[]⟩),.dat (.int .i64 0)],cmp:=[.str,.int] }:=by kernel_rfl
theorem aS2:dK Tryz.prog 352=some { k:=.slice 361,size:=1,bytes:=24,zero:=[.nil],sl:=[some (361,7)] }:=by kernel_rfl
theorem aS9:dK Tryz.prog 354=some { k:=.struct [(0,1,false),(1,1,false)],size:=2,bytes:=32,zero:=[.dat (.int .i64 0),.nil],sl:=[none,some (361,7)] }:=by kernel_rfl
theorem aSb:dK Tryz.prog 361=some { k:=.struct [(0,1,false),(1,1,false),(2,5,true)],size:=7,bytes:=88,zero:=[.dat (.str ⟨#[]⟩),.dat (.str ⟨#[]⟩),.dat (.int .i64 0),.dat (.int .i64 0),.dat (.int .i64 0),.nil,.dat (.bool false)],sl:=[none,none,none,none,none,some (5,1),none] }:=by kernel_rfl
theorem aTP:dK Tryz.prog 375=some { k:=.struct [(0,1,false),(1,1,false)],size:=2,bytes:=32,zero:=[.dat (.str ⟨#[]⟩),.dat (.str ⟨#[]⟩)],cmp:=[.str,.str] }:=by kernel_rfl
theorem aSt:dK Tryz.prog 385=some { k:=.struct [(0,1,false),(1,1,false)],size:=2,bytes:=16,zero:=[.dat (.int .i64 0),.dat (.int .i64 0)],cmp:=[.int,.int] }:=by kernel_rfl
theorem aTX:dK Tryz.prog 387=some { k:=.struct [(0,1,false),(1,1,false),(2,3,true),(5,1,false),(6,1,false)],size:=7,bytes:=72,zero:=[.dat (.int .i64 0),.dat (.int .i64 0),.dat (.int .i64 0),.dat (.int .i64 0),.dat (.str ⟨#[]⟩),.dat (.str ⟨#[]⟩),.dat (.int .i64 0)],cmp:=[.int,.int,.int,.int,.str,.str,.int] }:=by kernel_rfl
theorem aSm:dK Tryz.prog 404=some { k:=.struct [(0,1,false),(1,1,false),(2,1,false),(3,1,false)],size:=4,bytes:=40,zero:=[.dat (.str ⟨#[]⟩),.dat (.int .i64 0),.dat (.int .i64 0),.dat (.int .i64 0)],cmp:=[.str,.int,.int,.int] }:=by kernel_rfl
theorem aSU:dK Tryz.prog 405=some { k:=.slice 601,size:=1,bytes:=24,zero:=[.nil],sl:=[some (601,2)] }:=by kernel_rfl
theorem aSy:dK Tryz.prog 407=some { k:=.struct [(0,1,false)],size:=1,bytes:=24,zero:=[.nil],sl:=[some (601,2)] }:=by kernel_rfl
theorem aTS:dK Tryz.prog 408=some { k:=.slice 292,size:=1,bytes:=24,zero:=[.nil],sl:=[some (292,3)] }:=by kernel_rfl
theorem aSA:dK Tryz.prog 409=some { k:=.slice 619,size:=1,bytes:=24,zero:=[.nil],sl:=[some (619,2)] }:=by kernel_rfl
theorem aSN:dK Tryz.prog 411=some { k:=.struct [(0,1,false),(1,1,false),(2,1,false),(3,1,false)],size:=4,bytes:=72,zero:=[.dat (.str ⟨#[]⟩),.dat (.int .i64 0),.nil,.nil],sl:=[none,none,some (292,3),some (619,2)] }:=by kernel_rfl
theorem aS7:dK Tryz.prog 413=some { k:=.struct [(0,4,true),(4,1,false),(5,1,false)],size:=6,bytes:=104,zero:=[.dat (.str ⟨#[]⟩),.dat (.int .i64 0),.nil,.nil,.nil,.dat (.int .i64 0)],sl:=[none,none,some (292,3),some (619,2),some (5,1),none] }:=by kernel_rfl
theorem aSn:dK Tryz.prog 415=some { k:=.struct [(0,1,false),(1,1,false),(2,1,false)],size:=3,bytes:=40,zero:=[.dat (.int .i64 0),.dat (.int .i64 0),.nil],sl:=[none,none,some (511,7)] }:=by kernel_rfl
theorem aSd:dK Tryz.prog 417=some { k:=.struct [(0,3,true),(3,1,false),(4,1,false)],size:=5,bytes:=56,zero:=[.dat (.int .i64 0),.dat (.int .i64 0),.nil,.dat (.int .i64 0),.dat (.int .i64 0)],sl:=[none,none,some (511,7),none,none] }:=by kernel_rfl
theorem aS5:dK Tryz.prog 419=some { k:=.struct [(0,3,true),(3,1,false),(4,5,true)],size:=9,bytes:=112,zero:=[.dat (.str ⟨#[]⟩),.nil,.dat (.int .i64 0),.dat (.int .i64 0),.dat (.int .i64 0),.dat (.int .i64 0),.nil,.dat (.int .i64 0),.dat (.int .i64 0)],sl:=[none,some (573,4),none,none,none,none,some (511,7),none,none] }:=by kernel_rfl
theorem aR7:dK Tryz.prog 421=some { k:=.struct [(0,1,false),(1,1,false),(2,4,true),(6,1,true),(7,6,true),(13,9,true),(22,1,false),(23,1,false)],size:=24,bytes:=328,zero:=[.dat (.str ⟨#[]⟩),.dat (.str ⟨#[]⟩),.dat (.str ⟨#[]⟩),.dat (.int .i64 0),.dat (.int .i64 0),.dat (.int .i64 0),.nil,.dat (.str ⟨#[]⟩),.dat (.int .i64 0),.nil,.nil,.nil,.dat (.int .i64 0),.dat (.str ⟨#[]⟩),.nil,.dat (.int .i64 0),.dat (.int .i64 0),.dat (.int .i64 0),.dat (.int .i64 0),.nil,.dat (.int .i64 0),.dat (.int .i64 0),.dat (.int .i64 0),.dat (.bool false)],sl:=[none,none,none,none,none,none,some (601,2),none,none,some (292,3),some (619,2),some (5,1),none,none,some (573,4),none,none,none,none,some (511,7),none,none,none,none] }:=by kernel_rfl
theorem aSL:dK Tryz.prog 423=some { k:=.struct [(0,1,false),(1,1,false),(2,1,false),(3,1,false)],size:=4,bytes:=32,zero:=[.dat (.str ⟨#[]⟩),.dat (.int .i64 0),.dat (.bool false),.dat (.bool false)],cmp:=[.str,.int,.bool,.bool] }:=by kernel_rfl
theorem aTO:dK Tryz.prog 438=some { k:=.struct [(0,1,false),(1,1,false),(2,1,false)],size:=3,bytes:=24,zero:=[.dat (.int .i64 0),.dat (.int .i64 0),.dat (.int .i64 0)],cmp:=[.int,.int,.int] }:=by kernel_rfl
theorem aSE:dK Tryz.prog 509=some { k:=.struct [(0,1,false),(1,1,false),(2,1,false)],size:=3,bytes:=32,zero:=[.dat (.int .i64 0),.dat (.int .i64 0),.dat (.str ⟨#[]⟩)],cmp:=[.int,.int,.str] }:=by kernel_rfl
theorem aSW:dK Tryz.prog 511=some { k:=.struct [(0,1,false),(1,1,false),(2,3,true),(5,1,false),(6,1,false)],size:=7,bytes:=72,zero:=[.dat (.int .i64 0),.dat (.int .i64 0),.dat (.int .i64 0),.dat (.int .i64 0),.dat (.str ⟨#[]⟩),.dat (.str ⟨#[]⟩),.dat (.int .i64 0)],cmp:=[.int,.int,.int,.int,.str,.str,.int] }:=by kernel_rfl
theorem aSu:dK Tryz.prog 525=some { k:=.struct [(0,1,false),(1,1,false)],size:=2,bytes:=16,zero:=[.dat (.int .i64 0),.dat (.int .i64 0)],cmp:=[.int,.int] }:=by kernel_rfl
theorem aSw:dK Tryz.prog 569=some { k:=.slice 632,size:=1,bytes:=24,zero:=[.nil],sl:=[some (632,2)] }:=by kernel_rfl
theorem aS6:dK Tryz.prog 571=some { k:=.struct [(0,1,false)],size:=1,bytes:=24,zero:=[.nil],sl:=[some (632,2)] }:=by kernel_rfl
theorem aSY:dK Tryz.prog 573=some { k:=.struct [(0,3,true),(3,1,true)],size:=4,bytes:=56,zero:=[.dat (.int .i64 0),.dat (.int .i64 0),.dat (.str ⟨#[]⟩),.nil],sl:=[none,none,none,some (632,2)] }:=by kernel_rfl
theorem aTT:dK Tryz.prog 599=some { k:=.slice 630,size:=1,bytes:=24,zero:=[.nil],sl:=[some (630,7)] }:=by kernel_rfl
theorem aTG:dK Tryz.prog 601=some { k:=.struct [(0,1,false),(1,1,false)],size:=2,bytes:=32,zero:=[.dat (.int .i64 0),.nil],sl:=[none,some (630,7)] }:=by kernel_rfl
theorem aSf:dK Tryz.prog 619=some { k:=.struct [(0,1,false),(1,1,false)],size:=2,bytes:=32,zero:=[.dat (.str ⟨#[]⟩),.dat (.str ⟨#[]⟩)],cmp:=[.str,.str] }:=by kernel_rfl
theorem aSh:dK Tryz.prog 628=some { k:=.struct [(0,1,false),(1,1,false),(2,1,false),(3,1,false),(4,1,false)],size:=5,bytes:=56,zero:=[.dat (.int .i64 0),.dat (.int .i64 0),.dat (.int .i64 0),.nil,.dat (.bool false)],sl:=[none,none,none,some (5,1),none] }:=by kernel_rfl
theorem aTH:dK Tryz.prog 630=some { k:=.struct [(0,1,false),(1,1,false),(2,5,true)],size:=7,bytes:=88,zero:=[.dat (.str ⟨#[]⟩),.dat (.str ⟨#[]⟩),.dat (.int .i64 0),.dat (.int .i64 0),.dat (.int .i64 0),.nil,.dat (.bool false)],sl:=[none,none,none,none,none,some (5,1),none] }:=by kernel_rfl
theorem aSX:dK Tryz.prog 632=some { k:=.struct [(0,1,false),(1,1,false)],size:=2,bytes:=24,zero:=[.dat (.str ⟨#[]⟩),.dat (.int .i64 0)],cmp:=[.str,.int] }:=by kernel_rfl
abbrev Sc:=mY Tryz.prog
def M.aM.rs (r:M.aM):List RC:=[.ro (.int .i64 r.Device),.ro (.int .i64 r.Seq)]
def M.aC.ra (r:M.aC):List RC:=[.ro (.str r.Site),.ro (.str r.Top),.ro (.str r.Registration.Site),.ro (.int .i64 r.Registration.Installing),.ro (.int .i64 r.Registration.Waiting),.ro (.int .i64 r.Registration.Active),.any (.sl (List.map M.Cache.en r.Caches.Caches)),.ro (.str r.bC.Base.Name),.ro (.int .i64 r.bC.Base.Version),.any (.sl (List.map M.aH.en r.bC.Base.Stores)),.any (.sl (List.map M.aE.en r.bC.Base.Unique)),.any (.sl (List.map enB r.bC.Log)),.ro (.int .i64 r.bC.Count),.ro (.str r.aD.Base.Name),.any (.sl (List.map M.Item.en r.aD.Base.Items)),.ro (.int .i64 r.aD.Base.Auto),.ro (.int .i64 r.aD.Seen),.ro (.int .i64 r.aD.Sync.aR.Device),.ro (.int .i64 r.aD.Sync.aR.Next),.any (.sl (List.map M.aZ.en r.aD.Sync.aR.Writes)),.ro (.int .i64 r.aD.Sync.Tries),.ro (.int .i64 r.aD.Sync.WaitUntil),.ro (.int .i64 r.LastUsed),.ro (.bool r.Persistent)]
def M.aC.rs (r:M.aC):List RC:=[.ro (.str r.Site),.ro (.str r.Top),.ro (.str r.Registration.Site),.ro (.int .i64 r.Registration.Installing),.ro (.int .i64 r.Registration.Waiting),.ro (.int .i64 r.Registration.Active),.own 354 2 (List.map M.Cache.en r.Caches.Caches),.ro (.str r.bC.Base.Name),.ro (.int .i64 r.bC.Base.Version),.own 89 3 (List.map M.aH.en r.bC.Base.Stores),.own 375 2 (List.map M.aE.en r.bC.Base.Unique),.own 5 1 (List.map enB r.bC.Log),.ro (.int .i64 r.bC.Count),.ro (.str r.aD.Base.Name),.own 310 4 (List.map M.Item.en r.aD.Base.Items),.ro (.int .i64 r.aD.Base.Auto),.ro (.int .i64 r.aD.Seen),.ro (.int .i64 r.aD.Sync.aR.Device),.ro (.int .i64 r.aD.Sync.aR.Next),.own 387 7 (List.map M.aZ.en r.aD.Sync.aR.Writes),.ro (.int .i64 r.aD.Sync.Tries),.ro (.int .i64 r.aD.Sync.WaitUntil),.ro (.int .i64 r.LastUsed),.ro (.bool r.Persistent)]
def M.Cache.rs (r:M.Cache):List RC:=[.ro (.int .i64 r.Version),.own 361 7 (List.map M.Cached.en r.Entries)]
def M.aO.rs (r:M.aO):List RC:=[.own 354 2 (List.map M.Cache.en r.Caches)]
def M.Cached.rs (r:M.Cached):List RC:=[.ro (.str r.Site),.ro (.str r.Path),.ro (.int .i64 r.Response.Type_),.ro (.int .i64 r.Response.Status),.ro (.int .i64 r.Response.Version),.own 5 1 (List.map enB r.Response.Body),.ro (.bool r.Response.Shares)]
def M.Channel.rs (r:M.Channel):List RC:=[.own 252 3 (List.map M.eU.en r.Mails)]
def M.Database.rs (r:M.Database):List RC:=[.ro (.str r.Name),.ro (.int .i64 r.Version),.own 89 3 (List.map M.aH.en r.Stores),.own 375 2 (List.map M.aE.en r.Unique)]
def M.bC.rs (r:M.bC):List RC:=[.ro (.str r.Base.Name),.ro (.int .i64 r.Base.Version),.own 89 3 (List.map M.aH.en r.Base.Stores),.own 375 2 (List.map M.aE.en r.Base.Unique),.own 5 1 (List.map enB r.Log),.ro (.int .i64 r.Count)]
def M.Field.rs (r:M.Field):List RC:=[.ro (.str r.Name),.ro (.int .i64 r.N)]
def M.aE.rs (r:M.aE):List RC:=[.ro (.str r.aH),.ro (.str r.Field)]
def M.Instr.rs (r:M.Instr):List RC:=[.ro (.int .i64 r.Kind),.ro (.int .i64 r.R),.ro (.int .i64 r.N),.ro (.str r.Text)]
def M.Item.rs (r:M.Item):List RC:=[.ro (.int .i64 r.Key.Kind),.ro (.int .i64 r.Key.N),.ro (.str r.Key.Text),.own 312 2 (List.map M.Field.en r.aW.Fields)]
def M.Key.rs (r:M.Key):List RC:=[.ro (.int .i64 r.Kind),.ro (.int .i64 r.N),.ro (.str r.Text)]
def M.aK.rs (r:M.aK):List RC:=[.ro (.str r.Path),.ro (.int .i64 r.Version)]
def M.cJ.rs (r:M.cJ):List RC:=[.ro (.str r.Name),.ro (.int .i64 r.bH),.ro (.bool r.Shared),.ro (.bool r.Held)]
def M.aQ.rs (r:M.aQ):List RC:=[.own 249 4 (List.map M.cJ.en r.Locks)]
def M.Machine.rs (r:M.Machine):List RC:=[.own 279 4 (List.map M.Instr.en r.Script),.ro (.int .i64 r.Pc),.own 3 1 (List.map enI r.Regs),.ro (.int .i64 r.Steps),.ro (.bool r.Done),.ro (.bool r.Wait)]
def M.eU.rs (r:M.eU):List RC:=[.ro (.int .i64 r.To),.ro (.int .i64 r.From),.ro (.int .i64 r.N)]
def M.aR.rs (r:M.aR):List RC:=[.ro (.int .i64 r.Device),.ro (.int .i64 r.Next),.own 387 7 (List.map M.aZ.en r.Writes)]
def M.bH.rs (r:M.bH):List RC:=[.ro (.int .i64 r.Id),.ro (.str r.Site),.ro (.str r.Top),.ro (.int .i64 r.Version),.own 324 2 (List.map M.aK.en r.aK),.own 279 4 (List.map M.Instr.en r.Machine.Script),.ro (.int .i64 r.Machine.Pc),.own 3 1 (List.map enI r.Machine.Regs),.ro (.int .i64 r.Machine.Steps),.ro (.bool r.Machine.Done),.ro (.bool r.Machine.Wait)]
def M.aW.rs (r:M.aW):List RC:=[.own 312 2 (List.map M.Field.en r.Fields)]
def M.Registration.rs (r:M.Registration):List RC:=[.ro (.str r.Site),.ro (.int .i64 r.Installing),.ro (.int .i64 r.Waiting),.ro (.int .i64 r.Active)]
def M.aD.rs (r:M.aD):List RC:=[.ro (.str r.Base.Name),.own 310 4 (List.map M.Item.en r.Base.Items),.ro (.int .i64 r.Base.Auto),.ro (.int .i64 r.Seen),.ro (.int .i64 r.Sync.aR.Device),.ro (.int .i64 r.Sync.aR.Next),.own 387 7 (List.map M.aZ.en r.Sync.aR.Writes),.ro (.int .i64 r.Sync.Tries),.ro (.int .i64 r.Sync.WaitUntil)]
def M.Response.rs (r:M.Response):List RC:=[.ro (.int .i64 r.Type_),.ro (.int .i64 r.Status),.ro (.int .i64 r.Version),.own 5 1 (List.map enB r.Body),.ro (.bool r.Shares)]
def M.Server.rs (r:M.Server):List RC:=[.ro (.str r.aH.Name),.own 310 4 (List.map M.Item.en r.aH.Items),.ro (.int .i64 r.aH.Auto),.own 385 2 (List.map M.aM.en r.aM),.own 387 7 (List.map M.aZ.en r.Changes)]
def M.Site.ra (r:M.Site):List RC:=[.ro (.str r.Name),.ro (.int .i64 r.Version),.any (.sl (List.map enS r.Files)),.ro (.bool r.Shared)]
def M.Site.rs (r:M.Site):List RC:=[.ro (.str r.Name),.ro (.int .i64 r.Version),.own 9 1 (List.map enS r.Files),.ro (.bool r.Shared)]
def M.aA.rs (r:M.aA):List RC:=[.own 98 24 (List.map M.aC.en r.Buckets)]
def M.aH.rs (r:M.aH):List RC:=[.ro (.str r.Name),.own 310 4 (List.map M.Item.en r.Items),.ro (.int .i64 r.Auto)]
def M.Sync.rs (r:M.Sync):List RC:=[.ro (.int .i64 r.aR.Device),.ro (.int .i64 r.aR.Next),.own 387 7 (List.map M.aZ.en r.aR.Writes),.ro (.int .i64 r.Tries),.ro (.int .i64 r.WaitUntil)]
def M.World.rs (r:M.World):List RC:=[.ro (.int .i64 r.Now),.ro (.bool r.Online),.ro (.int .i64 r.Device),.own 98 24 (List.map M.aC.en r.aA.Buckets),.own 67 11 (List.map M.bH.en r.Pages),.ro (.int .i64 r.NextPage),.own 249 4 (List.map M.cJ.en r.Locks.Locks),.own 252 3 (List.map M.eU.en r.Channel.Mails),.own 131 4 (List.map M.Site.en r.Sites),.own 234 5 (List.map M.Server.en r.Servers)]
def M.aZ.rs (r:M.aZ):List RC:=[.ro (.int .i64 r.Device),.ro (.int .i64 r.Seq),.ro (.int .i64 r.Key.Kind),.ro (.int .i64 r.Key.N),.ro (.str r.Key.Text),.ro (.str r.Field),.ro (.int .i64 r.N)]
def aO8:aC6:=oB 58 [cI 0,cB false,cI 0,.nil,.nil,cI 0,.nil,.nil,.nil,.nil]
def aU0:aC6:=oB 65 [.nil,cI 0,.nil,cI 0,cB false,cB false]
def aZK:aC6:=oB 67 [cI 0,cS (⟨#[]⟩:ByteArray),cS (⟨#[]⟩:ByteArray),cI 0,.nil,.nil,cI 0,.nil,cI 0,cB false,cB false]
def aSx:aC6:=oB 84 [cS (⟨#[]⟩:ByteArray),cI 0,.nil,.nil]
def aZI:aC6:=oB 98 [cS (⟨#[]⟩:ByteArray),cS (⟨#[]⟩:ByteArray),cS (⟨#[]⟩:ByteArray),cI 0,cI 0,cI 0,.nil,cS (⟨#[]⟩:ByteArray),cI 0,.nil,.nil,.nil,cI 0,cS (⟨#[]⟩:ByteArray),.nil,cI 0,cI 0,cI 0,cI 0,.nil,cI 0,cI 0,cI 0,cB false]
def aX4:=PLift.up (qI ti3 (qI ti4 (qI ti5 (qI ti9 (qI aYs (qI aYm (qI aZJ (qI aY6 (qI aYz (qI aZC (qI aYu (qI aY9 (qI aY1 (qI aPt (qI aYf (qI aYn (qI aTY (qI aY3 (qI aY7 (qI aSr (qI aQ2 (qI aYj (qI aZE (qI aZM (qI aYc (qI aZA (qI aYx (qI aYi (qI aLs (qI aY5 (qI aYd (qI aSz (qI aYq (qI aZD (qI aYb (qI aYl (qI aY0 (qI aYh (qI aY2 (qI aY4 (qI aYo (qI aZL (qI aYv (qI aYy (qI aZF (qI aYw (qI aYp (qI aPy (qI aSH (qI aST (qI aTM (qI aSF (qI aR8 (qI aS4 (qI aTC (qI aTE (qI aTF (qI aTR (qI aSB (qI aSI (qI aSZ (qI aTV (qI aTQ (qI aTa (qI aSv (qI aSR (qI aS0 (qI aTb (qI aTD (qI aS8 (qI aS2 (qI aS9 (qI aSb (qI aTP (qI aSt (qI aTX (qI aSm (qI aSU (qI aSy (qI aTS (qI aSA (qI aSN (qI aS7 (qI aSn (qI aSd (qI aS5 (qI aR7 (qI aSL (qI aTO (qI aSE (qI aSW (qI aSu (qI aSw (qI aS6 (qI aSY (qI aTT (qI aTG (qI aSf (qI aSh (qI aTH aSX))))))))))))))))))))))))))))))))))))))))))))))))))))))))))))))))))))))))))))))))))))))))))))))))))))
theorem TB:type_of% aX4.down:=aX4.down
def aWL:=PLift.up (qI @enI.eq_1 (qI @enB.eq_1 (qI @enS.eq_1 (qI @enT.eq_1 (qI @enL.eq_1 (qI @enI.fl (qI @enB.fl (qI @enS.fl (qI @enT.fl (qI @aOy (qI @aPI (qI @aOG (qI @aI.eq_1 (qI @aB.eq_1 (qI @aS.eq_1 (qI @aL.eq_1 (qI @aX.eq_1 (qI @cI.eq_1 (qI @cB.eq_1 (qI @cS.eq_1 (qI @cL.eq_1 (qI @vI.eq_1 (qI @vB.eq_1 (qI @vS.eq_1 (qI @vL.eq_1 (qI @vR.eq_1 (qI @vP.eq_1 (qI @oX.eq_1 (qI @oB.eq_1 (qI @oW.eq_1 (qI @rI.eq_1 (qI @rB.eq_1 (qI @rS.eq_1 (qI @rW.eq_1 (qI @M.aM.rs.eq_1 (qI @M.aC.ra.eq_1 (qI @M.aC.rs.eq_1 (qI @M.Cache.rs.eq_1 (qI @M.aO.rs.eq_1 (qI @M.Cached.rs.eq_1 (qI @M.Channel.rs.eq_1 (qI @M.Database.rs.eq_1 (qI @M.bC.rs.eq_1 (qI @M.Field.rs.eq_1 (qI @M.aE.rs.eq_1 (qI @M.Instr.rs.eq_1 (qI @M.Item.rs.eq_1 (qI @M.Key.rs.eq_1 (qI @M.aK.rs.eq_1 (qI @M.cJ.rs.eq_1 (qI @M.aQ.rs.eq_1 (qI @M.Machine.rs.eq_1 (qI @M.eU.rs.eq_1 (qI @M.aR.rs.eq_1 (qI @M.bH.rs.eq_1 (qI @M.aW.rs.eq_1 (qI @M.Registration.rs.eq_1 (qI @M.aD.rs.eq_1 (qI @M.Response.rs.eq_1 (qI @M.Server.rs.eq_1 (qI @M.Site.ra.eq_1 (qI @M.Site.rs.eq_1 (qI @M.aA.rs.eq_1 (qI @M.aH.rs.eq_1 (qI @M.Sync.rs.eq_1 (qI @M.World.rs.eq_1 (qI @M.aZ.rs.eq_1 (qI @aO8.eq_1 (qI @aU0.eq_1 (qI @aZK.eq_1 (qI @aSx.eq_1 (qI @aZI.eq_1 (qI @M.Registration.en.eq_1 (qI @M.Registration.en.fl (qI @M.Response.en.eq_1 (qI @M.Cached.en.eq_1 (qI @M.Cache.en.eq_1 (qI @M.aO.en.eq_1 (qI @M.Key.en.eq_1 (qI @M.Key.en.fl (qI @M.Field.en.eq_1 (qI @M.Field.en.fl (qI @M.aW.en.eq_1 (qI @M.Item.en.eq_1 (qI @M.aH.en.eq_1 (qI @M.aE.en.eq_1 (qI @M.aE.en.fl (qI @M.Database.en.eq_1 (qI @M.bC.en.eq_1 (qI @M.aZ.en.eq_1 (qI @M.aZ.en.fl (qI @M.aR.en.eq_1 (qI @M.Sync.en.eq_1 (qI @M.aD.en.eq_1 (qI @M.aC.en.eq_1 (qI @M.aA.en.eq_1 (qI @M.aK.en.eq_1 (qI @M.aK.en.fl (qI @M.Instr.en.eq_1 (qI @M.Instr.en.fl (qI @M.Machine.en.eq_1 (qI @M.bH.en.eq_1 (qI @M.cJ.en.eq_1 (qI @M.cJ.en.fl (qI @M.aQ.en.eq_1 (qI @M.eU.en.eq_1 (qI @M.eU.en.fl (qI @M.Channel.en.eq_1 (qI @M.Site.en.eq_1 (qI @M.aM.en.eq_1 (qI @M.aM.en.fl (qI @M.Server.en.eq_1 @M.World.en.eq_1))))))))))))))))))))))))))))))))))))))))))))))))))))))))))))))))))))))))))))))))))))))))))))))))))))))))))))))))
theorem EN:type_of% aWL.down:=aWL.down
end Go.Proofs.YtimblbmbfdopgaaGreat.gen
