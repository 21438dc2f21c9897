/-
  Helper text. No conditions.
-/
import Derived.Test.YtidhkhdnjonjfaaGreatUpdateWorkerMod
import Derived.Test.YtidhkhdnjonjfaaGreatProg
import Derived.KernelRfl
set_option linter.unusedVariables false
set_option linter.unusedSimpArgs false
namespace Go.Proofs.YtidhkhdnjonjfaaGreat.gen
open Go Go.Sh
theorem mixed:Tryz.prog.follows .mixedOrders=true:=by kernel_rfl
theorem ti3:dQ Tryz.prog 3=some { k:=.int .i64,size:=1,bytes:=8,zero:=[.dat (.int .i64 0)] }:=by kernel_rfl
theorem ti4:dQ Tryz.prog 4=some { k:=.bool,size:=1,bytes:=1,zero:=[.dat (.bool false)] }:=by kernel_rfl
theorem ti5:dQ Tryz.prog 5=some { k:=.int .u8,size:=1,bytes:=1,zero:=[.dat (.int .u8 0)] }:=by kernel_rfl
theorem ti9:dQ Tryz.prog 9=some { k:=.str,size:=1,bytes:=16,zero:=[.dat (.str ⟨#[]⟩)] }:=by kernel_rfl
theorem aY2:dQ Tryz.prog 22=some { k:=.slice 5,size:=1,bytes:=24,zero:=[.nil],sl:=[some (5,1)] }:=by kernel_rfl
theorem aZV:dQ Tryz.prog 25=some { k:=.struct [(0,1,false),(1,1,false),(2,1,false),(3,1,false)],size:=4,bytes:=40,zero:=[.dat (.str ⟨#[]⟩),.dat (.int .i64 0),.dat (.int .i64 0),.dat (.int .i64 0)],cmp:=[.str,.int,.int,.int] }:=by kernel_rfl
theorem aPN:dQ Tryz.prog 26=some { k:=.slice 212,size:=1,bytes:=24,zero:=[.nil],sl:=[some (212,2)] }:=by kernel_rfl
theorem wX:dQ Tryz.prog 28=some { k:=.struct [(0,1,false)],size:=1,bytes:=24,zero:=[.nil],sl:=[some (212,2)] }:=by kernel_rfl
theorem aZP:dQ Tryz.prog 29=some { k:=.slice 37,size:=1,bytes:=24,zero:=[.nil],sl:=[some (37,3)] }:=by kernel_rfl
theorem aZQ:dQ Tryz.prog 30=some { k:=.slice 239,size:=1,bytes:=24,zero:=[.nil],sl:=[some (239,2)] }:=by kernel_rfl
theorem aZL:dQ Tryz.prog 32=some { k:=.struct [(0,1,false),(1,1,false),(2,1,false),(3,1,false)],size:=4,bytes:=72,zero:=[.dat (.str ⟨#[]⟩),.dat (.int .i64 0),.nil,.nil],sl:=[none,none,some (37,3),some (239,2)] }:=by kernel_rfl
theorem aZN:dQ Tryz.prog 34=some { k:=.struct [(0,4,true),(4,1,false),(5,1,false)],size:=6,bytes:=104,zero:=[.dat (.str ⟨#[]⟩),.dat (.int .i64 0),.nil,.nil,.nil,.dat (.int .i64 0)],sl:=[none,none,some (37,3),some (239,2),some (5,1),none] }:=by kernel_rfl
theorem aZE:dQ Tryz.prog 35=some { k:=.slice 227,size:=1,bytes:=24,zero:=[.nil],sl:=[some (227,4)] }:=by kernel_rfl
theorem aYu:dQ Tryz.prog 37=some { k:=.struct [(0,1,false),(1,1,false),(2,1,false)],size:=3,bytes:=48,zero:=[.dat (.str ⟨#[]⟩),.nil,.dat (.int .i64 0)],sl:=[none,some (227,4),none] }:=by kernel_rfl
theorem aZX:dQ Tryz.prog 38=some { k:=.slice 359,size:=1,bytes:=24,zero:=[.nil],sl:=[some (359,7)] }:=by kernel_rfl
theorem aZI:dQ Tryz.prog 40=some { k:=.struct [(0,1,false),(1,1,false),(2,1,false)],size:=3,bytes:=40,zero:=[.dat (.int .i64 0),.dat (.int .i64 0),.nil],sl:=[none,none,some (359,7)] }:=by kernel_rfl
theorem aZK:dQ Tryz.prog 42=some { k:=.struct [(0,3,true),(3,1,false),(4,1,false)],size:=5,bytes:=56,zero:=[.dat (.int .i64 0),.dat (.int .i64 0),.nil,.dat (.int .i64 0),.dat (.int .i64 0)],sl:=[none,none,some (359,7),none,none] }:=by kernel_rfl
theorem aZD:dQ Tryz.prog 44=some { k:=.struct [(0,3,true),(3,1,false),(4,5,true)],size:=9,bytes:=112,zero:=[.dat (.str ⟨#[]⟩),.nil,.dat (.int .i64 0),.dat (.int .i64 0),.dat (.int .i64 0),.dat (.int .i64 0),.nil,.dat (.int .i64 0),.dat (.int .i64 0)],sl:=[none,some (227,4),none,none,none,none,some (359,7),none,none] }:=by kernel_rfl
theorem aHt:dQ Tryz.prog 46=some { k:=.struct [(0,1,false),(1,1,false),(2,4,true),(6,1,true),(7,6,true),(13,9,true),(22,1,false),(23,1,false)],size:=24,bytes:=328,zero:=[.dat (.str ⟨#[]⟩),.dat (.str ⟨#[]⟩),.dat (.str ⟨#[]⟩),.dat (.int .i64 0),.dat (.int .i64 0),.dat (.int .i64 0),.nil,.dat (.str ⟨#[]⟩),.dat (.int .i64 0),.nil,.nil,.nil,.dat (.int .i64 0),.dat (.str ⟨#[]⟩),.nil,.dat (.int .i64 0),.dat (.int .i64 0),.dat (.int .i64 0),.dat (.int .i64 0),.nil,.dat (.int .i64 0),.dat (.int .i64 0),.dat (.int .i64 0),.dat (.bool false)],sl:=[none,none,none,none,none,none,some (212,2),none,none,some (37,3),some (239,2),some (5,1),none,none,some (227,4),none,none,none,none,some (359,7),none,none,none,none] }:=by kernel_rfl
theorem aZA:dQ Tryz.prog 59=some { k:=.slice 385,size:=1,bytes:=24,zero:=[.nil],sl:=[some (385,24)] }:=by kernel_rfl
theorem aYz:dQ Tryz.prog 61=some { k:=.struct [(0,1,false)],size:=1,bytes:=24,zero:=[.nil],sl:=[some (385,24)] }:=by kernel_rfl
theorem aZJ:dQ Tryz.prog 62=some { k:=.slice 79,size:=1,bytes:=24,zero:=[.nil],sl:=[some (79,11)] }:=by kernel_rfl
theorem aYp:dQ Tryz.prog 63=some { k:=.slice 388,size:=1,bytes:=24,zero:=[.nil],sl:=[some (388,4)] }:=by kernel_rfl
theorem aZF:dQ Tryz.prog 65=some { k:=.struct [(0,1,false)],size:=1,bytes:=24,zero:=[.nil],sl:=[some (388,4)] }:=by kernel_rfl
theorem aYy:dQ Tryz.prog 66=some { k:=.slice 401,size:=1,bytes:=24,zero:=[.nil],sl:=[some (401,3)] }:=by kernel_rfl
theorem aY7:dQ Tryz.prog 68=some { k:=.struct [(0,1,false)],size:=1,bytes:=24,zero:=[.nil],sl:=[some (401,3)] }:=by kernel_rfl
theorem aY0:dQ Tryz.prog 69=some { k:=.slice 249,size:=1,bytes:=24,zero:=[.nil],sl:=[some (249,4)] }:=by kernel_rfl
theorem aYr:dQ Tryz.prog 70=some { k:=.slice 257,size:=1,bytes:=24,zero:=[.nil],sl:=[some (257,5)] }:=by kernel_rfl
theorem aYk:dQ Tryz.prog 72=some { k:=.struct [(0,1,false),(1,1,false),(2,1,false),(3,1,true),(4,1,false),(5,1,false),(6,1,true),(7,1,true),(8,1,false),(9,1,false)],size:=10,bytes:=176,zero:=[.dat (.int .i64 0),.dat (.bool false),.dat (.int .i64 0),.nil,.nil,.dat (.int .i64 0),.nil,.nil,.nil,.nil],sl:=[none,none,none,some (385,24),some (79,11),none,some (388,4),some (401,3),some (249,4),some (257,5)] }:=by kernel_rfl
theorem aYm:dQ Tryz.prog 73=some { k:=.slice 260,size:=1,bytes:=24,zero:=[.nil],sl:=[some (260,2)] }:=by kernel_rfl
theorem aZR:dQ Tryz.prog 74=some { k:=.slice 394,size:=1,bytes:=24,zero:=[.nil],sl:=[some (394,4)] }:=by kernel_rfl
theorem aZM:dQ Tryz.prog 75=some { k:=.slice 3,size:=1,bytes:=24,zero:=[.nil],sl:=[some (3,1)] }:=by kernel_rfl
theorem aYl:dQ Tryz.prog 77=some { k:=.struct [(0,1,false),(1,1,false),(2,1,false),(3,1,false),(4,1,false),(5,1,false)],size:=6,bytes:=72,zero:=[.nil,.dat (.int .i64 0),.nil,.dat (.int .i64 0),.dat (.bool false),.dat (.bool false)],sl:=[some (394,4),none,some (3,1),none,none,none] }:=by kernel_rfl
theorem aYq:dQ Tryz.prog 79=some { k:=.struct [(0,1,false),(1,1,false),(2,1,false),(3,1,false),(4,1,false),(5,6,true)],size:=11,bytes:=144,zero:=[.dat (.int .i64 0),.dat (.str ⟨#[]⟩),.dat (.str ⟨#[]⟩),.dat (.int .i64 0),.nil,.nil,.dat (.int .i64 0),.nil,.dat (.int .i64 0),.dat (.bool false),.dat (.bool false)],sl:=[none,none,none,none,some (260,2),some (394,4),none,some (3,1),none,none,none] }:=by kernel_rfl
theorem aZB:dQ Tryz.prog 83=some { k:=.slice 46,size:=1,bytes:=24,zero:=[.nil],sl:=[some (46,24)] }:=by kernel_rfl
theorem aYs:dQ Tryz.prog 85=some { k:=.struct [(0,1,false)],size:=1,bytes:=24,zero:=[.nil],sl:=[some (46,24)] }:=by kernel_rfl
theorem aYv:dQ Tryz.prog 86=some { k:=.slice 103,size:=1,bytes:=24,zero:=[.nil],sl:=[some (103,11)] }:=by kernel_rfl
theorem aZW:dQ Tryz.prog 87=some { k:=.slice 396,size:=1,bytes:=24,zero:=[.nil],sl:=[some (396,4)] }:=by kernel_rfl
theorem aY6:dQ Tryz.prog 89=some { k:=.struct [(0,1,false)],size:=1,bytes:=24,zero:=[.nil],sl:=[some (396,4)] }:=by kernel_rfl
theorem aZC:dQ Tryz.prog 90=some { k:=.slice 399,size:=1,bytes:=24,zero:=[.nil],sl:=[some (399,3)] }:=by kernel_rfl
theorem aZS:dQ Tryz.prog 92=some { k:=.struct [(0,1,false)],size:=1,bytes:=24,zero:=[.nil],sl:=[some (399,3)] }:=by kernel_rfl
theorem aYn:dQ Tryz.prog 93=some { k:=.slice 180,size:=1,bytes:=24,zero:=[.nil],sl:=[some (180,4)] }:=by kernel_rfl
theorem aY9:dQ Tryz.prog 94=some { k:=.slice 274,size:=1,bytes:=24,zero:=[.nil],sl:=[some (274,5)] }:=by kernel_rfl
theorem aYw:dQ Tryz.prog 96=some { k:=.struct [(0,1,false),(1,1,false),(2,1,false),(3,1,true),(4,1,false),(5,1,false),(6,1,true),(7,1,true),(8,1,false),(9,1,false)],size:=10,bytes:=176,zero:=[.dat (.int .i64 0),.dat (.bool false),.dat (.int .i64 0),.nil,.nil,.dat (.int .i64 0),.nil,.nil,.nil,.nil],sl:=[none,none,none,some (46,24),some (103,11),none,some (396,4),some (399,3),some (180,4),some (274,5)] }:=by kernel_rfl
theorem aZH:dQ Tryz.prog 98=some { k:=.slice 276,size:=1,bytes:=24,zero:=[.nil],sl:=[some (276,2)] }:=by kernel_rfl
theorem aY5:dQ Tryz.prog 99=some { k:=.slice 406,size:=1,bytes:=24,zero:=[.nil],sl:=[some (406,4)] }:=by kernel_rfl
theorem aSg:dQ Tryz.prog 101=some { k:=.struct [(0,1,false),(1,1,false),(2,1,false),(3,1,false),(4,1,false),(5,1,false)],size:=6,bytes:=72,zero:=[.nil,.dat (.int .i64 0),.nil,.dat (.int .i64 0),.dat (.bool false),.dat (.bool false)],sl:=[some (406,4),none,some (3,1),none,none,none] }:=by kernel_rfl
theorem aSv:dQ Tryz.prog 103=some { k:=.struct [(0,1,false),(1,1,false),(2,1,false),(3,1,false),(4,1,false),(5,6,true)],size:=11,bytes:=144,zero:=[.dat (.int .i64 0),.dat (.str ⟨#[]⟩),.dat (.str ⟨#[]⟩),.dat (.int .i64 0),.nil,.nil,.dat (.int .i64 0),.nil,.dat (.int .i64 0),.dat (.bool false),.dat (.bool false)],sl:=[none,none,none,none,some (276,2),some (406,4),none,some (3,1),none,none,none] }:=by kernel_rfl
theorem aTh:dQ Tryz.prog 146=some { k:=.slice 267,size:=1,bytes:=24,zero:=[.nil],sl:=[some (267,2)] }:=by kernel_rfl
theorem aT5:dQ Tryz.prog 148=some { k:=.struct [(0,1,false)],size:=1,bytes:=24,zero:=[.nil],sl:=[some (267,2)] }:=by kernel_rfl
theorem aTm:dQ Tryz.prog 178=some { k:=.slice 9,size:=1,bytes:=24,zero:=[.nil],sl:=[some (9,1)] }:=by kernel_rfl
theorem aT4:dQ Tryz.prog 180=some { k:=.struct [(0,1,false),(1,1,false),(2,1,false),(3,1,false)],size:=4,bytes:=56,zero:=[.dat (.str ⟨#[]⟩),.dat (.int .i64 0),.nil,.dat (.bool false)],sl:=[none,none,some (9,1),none] }:=by kernel_rfl
theorem aKO:dQ Tryz.prog 210=some { k:=.slice 221,size:=1,bytes:=24,zero:=[.nil],sl:=[some (221,7)] }:=by kernel_rfl
theorem aC4:dQ Tryz.prog 212=some { k:=.struct [(0,1,false),(1,1,false)],size:=2,bytes:=32,zero:=[.dat (.int .i64 0),.nil],sl:=[none,some (221,7)] }:=by kernel_rfl
theorem aLw:dQ Tryz.prog 219=some { k:=.struct [(0,1,false),(1,1,false),(2,1,false),(3,1,false),(4,1,false)],size:=5,bytes:=56,zero:=[.dat (.int .i64 0),.dat (.int .i64 0),.dat (.int .i64 0),.nil,.dat (.bool false)],sl:=[none,none,none,some (5,1),none] }:=by kernel_rfl
theorem aIm:dQ Tryz.prog 221=some { k:=.struct [(0,1,false),(1,1,false),(2,5,true)],size:=7,bytes:=88,zero:=[.dat (.str ⟨#[]⟩),.dat (.str ⟨#[]⟩),.dat (.int .i64 0),.dat (.int .i64 0),.dat (.int .i64 0),.nil,.dat (.bool false)],sl:=[none,none,none,none,none,some (5,1),none] }:=by kernel_rfl
theorem aSo:dQ Tryz.prog 225=some { k:=.struct [(0,1,false),(1,1,false),(2,1,false)],size:=3,bytes:=32,zero:=[.dat (.int .i64 0),.dat (.int .i64 0),.dat (.str ⟨#[]⟩)],cmp:=[.int,.int,.str] }:=by kernel_rfl
theorem aT7:dQ Tryz.prog 227=some { k:=.struct [(0,3,true),(3,1,true)],size:=4,bytes:=56,zero:=[.dat (.int .i64 0),.dat (.int .i64 0),.dat (.str ⟨#[]⟩),.nil],sl:=[none,none,none,some (267,2)] }:=by kernel_rfl
theorem aTx:dQ Tryz.prog 239=some { k:=.struct [(0,1,false),(1,1,false)],size:=2,bytes:=32,zero:=[.dat (.str ⟨#[]⟩),.dat (.str ⟨#[]⟩)],cmp:=[.str,.str] }:=by kernel_rfl
theorem aTc:dQ Tryz.prog 249=some { k:=.struct [(0,1,false),(1,1,false),(2,1,false),(3,1,false)],size:=4,bytes:=56,zero:=[.dat (.str ⟨#[]⟩),.dat (.int .i64 0),.nil,.dat (.bool false)],sl:=[none,none,some (9,1),none] }:=by kernel_rfl
theorem aSu:dQ Tryz.prog 251=some { k:=.slice 537,size:=1,bytes:=24,zero:=[.nil],sl:=[some (537,4)] }:=by kernel_rfl
theorem aTR:dQ Tryz.prog 253=some { k:=.struct [(0,1,false),(1,1,false),(2,1,false)],size:=3,bytes:=48,zero:=[.dat (.str ⟨#[]⟩),.nil,.dat (.int .i64 0)],sl:=[none,some (537,4),none] }:=by kernel_rfl
theorem aTa:dQ Tryz.prog 254=some { k:=.slice 499,size:=1,bytes:=24,zero:=[.nil],sl:=[some (499,2)] }:=by kernel_rfl
theorem aTp:dQ Tryz.prog 255=some { k:=.slice 490,size:=1,bytes:=24,zero:=[.nil],sl:=[some (490,7)] }:=by kernel_rfl
theorem aSh:dQ Tryz.prog 257=some { k:=.struct [(0,3,true),(3,1,false),(4,1,false)],size:=5,bytes:=96,zero:=[.dat (.str ⟨#[]⟩),.nil,.dat (.int .i64 0),.nil,.nil],sl:=[none,some (537,4),none,some (499,2),some (490,7)] }:=by kernel_rfl
theorem aTW:dQ Tryz.prog 260=some { k:=.struct [(0,1,false),(1,1,false)],size:=2,bytes:=24,zero:=[.dat (.str ⟨#[]⟩),.dat (.int .i64 0)],cmp:=[.str,.int] }:=by kernel_rfl
theorem aTV:dQ Tryz.prog 267=some { k:=.struct [(0,1,false),(1,1,false)],size:=2,bytes:=24,zero:=[.dat (.str ⟨#[]⟩),.dat (.int .i64 0)],cmp:=[.str,.int] }:=by kernel_rfl
theorem aTv:dQ Tryz.prog 272=some { k:=.slice 431,size:=1,bytes:=24,zero:=[.nil],sl:=[some (431,2)] }:=by kernel_rfl
theorem aSi:dQ Tryz.prog 274=some { k:=.struct [(0,3,true),(3,1,false),(4,1,false)],size:=5,bytes:=96,zero:=[.dat (.str ⟨#[]⟩),.nil,.dat (.int .i64 0),.nil,.nil],sl:=[none,some (227,4),none,some (431,2),some (359,7)] }:=by kernel_rfl
theorem aT0:dQ Tryz.prog 276=some { k:=.struct [(0,1,false),(1,1,false)],size:=2,bytes:=24,zero:=[.dat (.str ⟨#[]⟩),.dat (.int .i64 0)],cmp:=[.str,.int] }:=by kernel_rfl
theorem aS2:dQ Tryz.prog 359=some { k:=.struct [(0,1,false),(1,1,false),(2,3,true),(5,1,false),(6,1,false)],size:=7,bytes:=72,zero:=[.dat (.int .i64 0),.dat (.int .i64 0),.dat (.int .i64 0),.dat (.int .i64 0),.dat (.str ⟨#[]⟩),.dat (.str ⟨#[]⟩),.dat (.int .i64 0)],cmp:=[.int,.int,.int,.int,.str,.str,.int] }:=by kernel_rfl
theorem aTI:dQ Tryz.prog 368=some { k:=.struct [(0,1,false),(1,1,false),(2,1,false),(3,1,false)],size:=4,bytes:=40,zero:=[.dat (.str ⟨#[]⟩),.dat (.int .i64 0),.dat (.int .i64 0),.dat (.int .i64 0)],cmp:=[.str,.int,.int,.int] }:=by kernel_rfl
theorem aTu:dQ Tryz.prog 369=some { k:=.slice 552,size:=1,bytes:=24,zero:=[.nil],sl:=[some (552,2)] }:=by kernel_rfl
theorem aTS:dQ Tryz.prog 371=some { k:=.struct [(0,1,false)],size:=1,bytes:=24,zero:=[.nil],sl:=[some (552,2)] }:=by kernel_rfl
theorem aTl:dQ Tryz.prog 372=some { k:=.slice 253,size:=1,bytes:=24,zero:=[.nil],sl:=[some (253,3)] }:=by kernel_rfl
theorem aSd:dQ Tryz.prog 373=some { k:=.slice 574,size:=1,bytes:=24,zero:=[.nil],sl:=[some (574,2)] }:=by kernel_rfl
theorem aTt:dQ Tryz.prog 375=some { k:=.struct [(0,1,false),(1,1,false),(2,1,false),(3,1,false)],size:=4,bytes:=72,zero:=[.dat (.str ⟨#[]⟩),.dat (.int .i64 0),.nil,.nil],sl:=[none,none,some (253,3),some (574,2)] }:=by kernel_rfl
theorem aTH:dQ Tryz.prog 377=some { k:=.struct [(0,4,true),(4,1,false),(5,1,false)],size:=6,bytes:=104,zero:=[.dat (.str ⟨#[]⟩),.dat (.int .i64 0),.nil,.nil,.nil,.dat (.int .i64 0)],sl:=[none,none,some (253,3),some (574,2),some (5,1),none] }:=by kernel_rfl
theorem aTT:dQ Tryz.prog 379=some { k:=.struct [(0,1,false),(1,1,false),(2,1,false)],size:=3,bytes:=40,zero:=[.dat (.int .i64 0),.dat (.int .i64 0),.nil],sl:=[none,none,some (490,7)] }:=by kernel_rfl
theorem aT6:dQ Tryz.prog 381=some { k:=.struct [(0,3,true),(3,1,false),(4,1,false)],size:=5,bytes:=56,zero:=[.dat (.int .i64 0),.dat (.int .i64 0),.nil,.dat (.int .i64 0),.dat (.int .i64 0)],sl:=[none,none,some (490,7),none,none] }:=by kernel_rfl
theorem aTJ:dQ Tryz.prog 383=some { k:=.struct [(0,3,true),(3,1,false),(4,5,true)],size:=9,bytes:=112,zero:=[.dat (.str ⟨#[]⟩),.nil,.dat (.int .i64 0),.dat (.int .i64 0),.dat (.int .i64 0),.dat (.int .i64 0),.nil,.dat (.int .i64 0),.dat (.int .i64 0)],sl:=[none,some (537,4),none,none,none,none,some (490,7),none,none] }:=by kernel_rfl
theorem aTE:dQ Tryz.prog 385=some { k:=.struct [(0,1,false),(1,1,false),(2,4,true),(6,1,true),(7,6,true),(13,9,true),(22,1,false),(23,1,false)],size:=24,bytes:=328,zero:=[.dat (.str ⟨#[]⟩),.dat (.str ⟨#[]⟩),.dat (.str ⟨#[]⟩),.dat (.int .i64 0),.dat (.int .i64 0),.dat (.int .i64 0),.nil,.dat (.str ⟨#[]⟩),.dat (.int .i64 0),.nil,.nil,.nil,.dat (.int .i64 0),.dat (.str ⟨#[]⟩),.nil,.dat (.int .i64 0),.dat (.int .i64 0),.dat (.int .i64 0),.dat (.int .i64 0),.nil,.dat (.int .i64 0),.dat (.int .i64 0),.dat (.int .i64 0),.dat (.bool false)],sl:=[none,none,none,none,none,none,some (552,2),none,none,some (253,3),some (574,2),some (5,1),none,none,some (537,4),none,none,none,none,some (490,7),none,none,none,none] }:=by kernel_rfl
theorem aS9:dQ Tryz.prog 388=some { k:=.struct [(0,1,false),(1,1,false),(2,1,false),(3,1,false)],size:=4,bytes:=32,zero:=[.dat (.str ⟨#[]⟩),.dat (.int .i64 0),.dat (.bool false),.dat (.bool false)],cmp:=[.str,.int,.bool,.bool] }:=by kernel_rfl
theorem aS7:dQ Tryz.prog 394=some { k:=.struct [(0,1,false),(1,1,false),(2,1,false),(3,1,false)],size:=4,bytes:=40,zero:=[.dat (.int .i64 0),.dat (.int .i64 0),.dat (.int .i64 0),.dat (.str ⟨#[]⟩)],cmp:=[.int,.int,.int,.str] }:=by kernel_rfl
theorem aTD:dQ Tryz.prog 396=some { k:=.struct [(0,1,false),(1,1,false),(2,1,false),(3,1,false)],size:=4,bytes:=32,zero:=[.dat (.str ⟨#[]⟩),.dat (.int .i64 0),.dat (.bool false),.dat (.bool false)],cmp:=[.str,.int,.bool,.bool] }:=by kernel_rfl
theorem aS3:dQ Tryz.prog 399=some { k:=.struct [(0,1,false),(1,1,false),(2,1,false)],size:=3,bytes:=24,zero:=[.dat (.int .i64 0),.dat (.int .i64 0),.dat (.int .i64 0)],cmp:=[.int,.int,.int] }:=by kernel_rfl
theorem aSx:dQ Tryz.prog 401=some { k:=.struct [(0,1,false),(1,1,false),(2,1,false)],size:=3,bytes:=24,zero:=[.dat (.int .i64 0),.dat (.int .i64 0),.dat (.int .i64 0)],cmp:=[.int,.int,.int] }:=by kernel_rfl
theorem aT2:dQ Tryz.prog 406=some { k:=.struct [(0,1,false),(1,1,false),(2,1,false),(3,1,false)],size:=4,bytes:=40,zero:=[.dat (.int .i64 0),.dat (.int .i64 0),.dat (.int .i64 0),.dat (.str ⟨#[]⟩)],cmp:=[.int,.int,.int,.str] }:=by kernel_rfl
theorem aSn:dQ Tryz.prog 431=some { k:=.struct [(0,1,false),(1,1,false)],size:=2,bytes:=16,zero:=[.dat (.int .i64 0),.dat (.int .i64 0)],cmp:=[.int,.int] }:=by kernel_rfl
theorem aTs:dQ Tryz.prog 488=some { k:=.struct [(0,1,false),(1,1,false),(2,1,false)],size:=3,bytes:=32,zero:=[.dat (.int .i64 0),.dat (.int .i64 0),.dat (.str ⟨#[]⟩)],cmp:=[.int,.int,.str] }:=by kernel_rfl
theorem aTC:dQ Tryz.prog 490=some { k:=.struct [(0,1,false),(1,1,false),(2,3,true),(5,1,false),(6,1,false)],size:=7,bytes:=72,zero:=[.dat (.int .i64 0),.dat (.int .i64 0),.dat (.int .i64 0),.dat (.int .i64 0),.dat (.str ⟨#[]⟩),.dat (.str ⟨#[]⟩),.dat (.int .i64 0)],cmp:=[.int,.int,.int,.int,.str,.str,.int] }:=by kernel_rfl
theorem aTG:dQ Tryz.prog 499=some { k:=.struct [(0,1,false),(1,1,false)],size:=2,bytes:=16,zero:=[.dat (.int .i64 0),.dat (.int .i64 0)],cmp:=[.int,.int] }:=by kernel_rfl
theorem aSm:dQ Tryz.prog 533=some { k:=.slice 587,size:=1,bytes:=24,zero:=[.nil],sl:=[some (587,2)] }:=by kernel_rfl
theorem aSr:dQ Tryz.prog 535=some { k:=.struct [(0,1,false)],size:=1,bytes:=24,zero:=[.nil],sl:=[some (587,2)] }:=by kernel_rfl
theorem aTM:dQ Tryz.prog 537=some { k:=.struct [(0,3,true),(3,1,true)],size:=4,bytes:=56,zero:=[.dat (.int .i64 0),.dat (.int .i64 0),.dat (.str ⟨#[]⟩),.nil],sl:=[none,none,none,some (587,2)] }:=by kernel_rfl
theorem aTk:dQ Tryz.prog 550=some { k:=.slice 585,size:=1,bytes:=24,zero:=[.nil],sl:=[some (585,7)] }:=by kernel_rfl
theorem aTU:dQ Tryz.prog 552=some { k:=.struct [(0,1,false),(1,1,false)],size:=2,bytes:=32,zero:=[.dat (.int .i64 0),.nil],sl:=[none,some (585,7)] }:=by kernel_rfl
theorem aTe:dQ Tryz.prog 574=some { k:=.struct [(0,1,false),(1,1,false)],size:=2,bytes:=32,zero:=[.dat (.str ⟨#[]⟩),.dat (.str ⟨#[]⟩)],cmp:=[.str,.str] }:=by kernel_rfl
theorem aTq:dQ Tryz.prog 583=some { k:=.struct [(0,1,false),(1,1,false),(2,1,false),(3,1,false),(4,1,false)],size:=5,bytes:=56,zero:=[.dat (.int .i64 0),.dat (.int .i64 0),.dat (.int .i64 0),.nil,.dat (.bool false)],sl:=[none,none,none,some (5,1),none] }:=by kernel_rfl
theorem aSs:dQ Tryz.prog 585=some { k:=.struct [(0,1,false),(1,1,false),(2,5,true)],size:=7,bytes:=88,zero:=[.dat (.str ⟨#[]⟩),.dat (.str ⟨#[]⟩),.dat (.int .i64 0),.dat (.int .i64 0),.dat (.int .i64 0),.nil,.dat (.bool false)],sl:=[none,none,none,none,none,some (5,1),none] }:=by kernel_rfl
theorem aS6:dQ Tryz.prog 587=some { k:=.struct [(0,1,false),(1,1,false)],size:=2,bytes:=24,zero:=[.dat (.str ⟨#[]⟩),.dat (.int .i64 0)],cmp:=[.str,.int] }:=by kernel_rfl
abbrev Sc:=lD Tryz.prog
def M.aK.rs (r:M.aK):List RC:=[.ro (.int .i64 r.Device),.ro (.int .i64 r.Seq)]
def M.Bucket.ra (r:M.Bucket):List RC:=[.ro (.str r.Site),.ro (.str r.Top),.ro (.str r.Registration.Site),.ro (.int .i64 r.Registration.Installing),.ro (.int .i64 r.Registration.Waiting),.ro (.int .i64 r.Registration.Active),.any (.sl (List.map M.Cache.en r.Caches.Caches)),.ro (.str r.bB.Base.Name),.ro (.int .i64 r.bB.Base.Version),.any (.sl (List.map M.aJ.en r.bB.Base.Stores)),.any (.sl (List.map M.aD.en r.bB.Base.Unique)),.any (.sl (List.map enB r.bB.Log)),.ro (.int .i64 r.bB.Count),.ro (.str r.aE.Base.Name),.any (.sl (List.map M.Item.en r.aE.Base.Items)),.ro (.int .i64 r.aE.Base.Auto),.ro (.int .i64 r.aE.Seen),.ro (.int .i64 r.aE.Sync.aV.Device),.ro (.int .i64 r.aE.Sync.aV.Next),.any (.sl (List.map M.aW.en r.aE.Sync.aV.Writes)),.ro (.int .i64 r.aE.Sync.Tries),.ro (.int .i64 r.aE.Sync.WaitUntil),.ro (.int .i64 r.LastUsed),.ro (.bool r.Persistent)]
def M.Bucket.rs (r:M.Bucket):List RC:=[.ro (.str r.Site),.ro (.str r.Top),.ro (.str r.Registration.Site),.ro (.int .i64 r.Registration.Installing),.ro (.int .i64 r.Registration.Waiting),.ro (.int .i64 r.Registration.Active),.own 212 2 (List.map M.Cache.en r.Caches.Caches),.ro (.str r.bB.Base.Name),.ro (.int .i64 r.bB.Base.Version),.own 37 3 (List.map M.aJ.en r.bB.Base.Stores),.own 239 2 (List.map M.aD.en r.bB.Base.Unique),.own 5 1 (List.map enB r.bB.Log),.ro (.int .i64 r.bB.Count),.ro (.str r.aE.Base.Name),.own 227 4 (List.map M.Item.en r.aE.Base.Items),.ro (.int .i64 r.aE.Base.Auto),.ro (.int .i64 r.aE.Seen),.ro (.int .i64 r.aE.Sync.aV.Device),.ro (.int .i64 r.aE.Sync.aV.Next),.own 359 7 (List.map M.aW.en r.aE.Sync.aV.Writes),.ro (.int .i64 r.aE.Sync.Tries),.ro (.int .i64 r.aE.Sync.WaitUntil),.ro (.int .i64 r.LastUsed),.ro (.bool r.Persistent)]
def M.Cache.rs (r:M.Cache):List RC:=[.ro (.int .i64 r.Version),.own 221 7 (List.map M.Cached.en r.Entries)]
def M.aA.rs (r:M.aA):List RC:=[.own 212 2 (List.map M.Cache.en r.Caches)]
def M.Cached.rs (r:M.Cached):List RC:=[.ro (.str r.Site),.ro (.str r.Path),.ro (.int .i64 r.Response.Type_),.ro (.int .i64 r.Response.Status),.ro (.int .i64 r.Response.Version),.own 5 1 (List.map enB r.Response.Body),.ro (.bool r.Response.Shares)]
def M.Channel.rs (r:M.Channel):List RC:=[.own 399 3 (List.map M.fW.en r.Mails)]
def M.Database.rs (r:M.Database):List RC:=[.ro (.str r.Name),.ro (.int .i64 r.Version),.own 37 3 (List.map M.aJ.en r.Stores),.own 239 2 (List.map M.aD.en r.Unique)]
def M.bB.rs (r:M.bB):List RC:=[.ro (.str r.Base.Name),.ro (.int .i64 r.Base.Version),.own 37 3 (List.map M.aJ.en r.Base.Stores),.own 239 2 (List.map M.aD.en r.Base.Unique),.own 5 1 (List.map enB r.Log),.ro (.int .i64 r.Count)]
def M.Field.rs (r:M.Field):List RC:=[.ro (.str r.Name),.ro (.int .i64 r.N)]
def M.aD.rs (r:M.aD):List RC:=[.ro (.str r.aJ),.ro (.str r.Field)]
def M.Instr.rs (r:M.Instr):List RC:=[.ro (.int .i64 r.Kind),.ro (.int .i64 r.R),.ro (.int .i64 r.N),.ro (.str r.Text)]
def M.Item.rs (r:M.Item):List RC:=[.ro (.int .i64 r.Key.Kind),.ro (.int .i64 r.Key.N),.ro (.str r.Key.Text),.own 267 2 (List.map M.Field.en r.aU.Fields)]
def M.Key.rs (r:M.Key):List RC:=[.ro (.int .i64 r.Kind),.ro (.int .i64 r.N),.ro (.str r.Text)]
def M.aN.rs (r:M.aN):List RC:=[.ro (.str r.Path),.ro (.int .i64 r.Version)]
def M.dA.rs (r:M.dA):List RC:=[.ro (.str r.Name),.ro (.int .i64 r.bJ),.ro (.bool r.Shared),.ro (.bool r.Held)]
def M.aP.rs (r:M.aP):List RC:=[.own 396 4 (List.map M.dA.en r.Locks)]
def M.Machine.rs (r:M.Machine):List RC:=[.own 406 4 (List.map M.Instr.en r.Script),.ro (.int .i64 r.Pc),.own 3 1 (List.map enI r.Regs),.ro (.int .i64 r.Steps),.ro (.bool r.Done),.ro (.bool r.Wait)]
def M.fW.rs (r:M.fW):List RC:=[.ro (.int .i64 r.To),.ro (.int .i64 r.From),.ro (.int .i64 r.N)]
def M.aV.rs (r:M.aV):List RC:=[.ro (.int .i64 r.Device),.ro (.int .i64 r.Next),.own 359 7 (List.map M.aW.en r.Writes)]
def M.bJ.rs (r:M.bJ):List RC:=[.ro (.int .i64 r.Id),.ro (.str r.Site),.ro (.str r.Top),.ro (.int .i64 r.Version),.own 276 2 (List.map M.aN.en r.aN),.own 406 4 (List.map M.Instr.en r.Machine.Script),.ro (.int .i64 r.Machine.Pc),.own 3 1 (List.map enI r.Machine.Regs),.ro (.int .i64 r.Machine.Steps),.ro (.bool r.Machine.Done),.ro (.bool r.Machine.Wait)]
def M.aU.rs (r:M.aU):List RC:=[.own 267 2 (List.map M.Field.en r.Fields)]
def M.Registration.rs (r:M.Registration):List RC:=[.ro (.str r.Site),.ro (.int .i64 r.Installing),.ro (.int .i64 r.Waiting),.ro (.int .i64 r.Active)]
def M.aE.rs (r:M.aE):List RC:=[.ro (.str r.Base.Name),.own 227 4 (List.map M.Item.en r.Base.Items),.ro (.int .i64 r.Base.Auto),.ro (.int .i64 r.Seen),.ro (.int .i64 r.Sync.aV.Device),.ro (.int .i64 r.Sync.aV.Next),.own 359 7 (List.map M.aW.en r.Sync.aV.Writes),.ro (.int .i64 r.Sync.Tries),.ro (.int .i64 r.Sync.WaitUntil)]
def M.Response.rs (r:M.Response):List RC:=[.ro (.int .i64 r.Type_),.ro (.int .i64 r.Status),.ro (.int .i64 r.Version),.own 5 1 (List.map enB r.Body),.ro (.bool r.Shares)]
def M.Server.rs (r:M.Server):List RC:=[.ro (.str r.aJ.Name),.own 227 4 (List.map M.Item.en r.aJ.Items),.ro (.int .i64 r.aJ.Auto),.own 431 2 (List.map M.aK.en r.aK),.own 359 7 (List.map M.aW.en r.Changes)]
def M.Site.ra (r:M.Site):List RC:=[.ro (.str r.Name),.ro (.int .i64 r.Version),.any (.sl (List.map enS r.Files)),.ro (.bool r.Shared)]
def M.Site.rs (r:M.Site):List RC:=[.ro (.str r.Name),.ro (.int .i64 r.Version),.own 9 1 (List.map enS r.Files),.ro (.bool r.Shared)]
def M.aC.rs (r:M.aC):List RC:=[.own 46 24 (List.map M.Bucket.en r.Buckets)]
def M.aJ.rs (r:M.aJ):List RC:=[.ro (.str r.Name),.own 227 4 (List.map M.Item.en r.Items),.ro (.int .i64 r.Auto)]
def M.Sync.rs (r:M.Sync):List RC:=[.ro (.int .i64 r.aV.Device),.ro (.int .i64 r.aV.Next),.own 359 7 (List.map M.aW.en r.aV.Writes),.ro (.int .i64 r.Tries),.ro (.int .i64 r.WaitUntil)]
def M.World.rs (r:M.World):List RC:=[.ro (.int .i64 r.Now),.ro (.bool r.Online),.ro (.int .i64 r.Device),.own 46 24 (List.map M.Bucket.en r.aC.Buckets),.own 103 11 (List.map M.bJ.en r.Pages),.ro (.int .i64 r.NextPage),.own 396 4 (List.map M.dA.en r.Locks.Locks),.own 399 3 (List.map M.fW.en r.Channel.Mails),.own 180 4 (List.map M.Site.en r.Sites),.own 274 5 (List.map M.Server.en r.Servers)]
def M.aW.rs (r:M.aW):List RC:=[.ro (.int .i64 r.Device),.ro (.int .i64 r.Seq),.ro (.int .i64 r.Key.Kind),.ro (.int .i64 r.Key.N),.ro (.str r.Key.Text),.ro (.str r.Field),.ro (.int .i64 r.N)]
def aTX:aC5:=oB 32 [cS (⟨#[]⟩:ByteArray),cI 0,.nil,.nil]
def aR1:aC5:=oB 96 [cI 0,cB false,cI 0,.nil,.nil,cI 0,.nil,.nil,.nil,.nil]
def aSy:aC5:=oB 101 [.nil,cI 0,.nil,cI 0,cB false,cB false]
def aSp:aC5:=oB 103 [cI 0,cS (⟨#[]⟩:ByteArray),cS (⟨#[]⟩:ByteArray),cI 0,.nil,.nil,cI 0,.nil,cI 0,cB false,cB false]
def aYF:=PLift.up (qI ti3 (qI ti4 (qI ti5 (qI ti9 (qI aY2 (qI aZV (qI aPN (qI wX (qI aZP (qI aZQ (qI aZL (qI aZN (qI aZE (qI aYu (qI aZX (qI aZI (qI aZK (qI aZD (qI aHt (qI aZA (qI aYz (qI aZJ (qI aYp (qI aZF (qI aYy (qI aY7 (qI aY0 (qI aYr (qI aYk (qI aYm (qI aZR (qI aZM (qI aYl (qI aYq (qI aZB (qI aYs (qI aYv (qI aZW (qI aY6 (qI aZC (qI aZS (qI aYn (qI aY9 (qI aYw (qI aZH (qI aY5 (qI aSg (qI aSv (qI aTh (qI aT5 (qI aTm (qI aT4 (qI aKO (qI aC4 (qI aLw (qI aIm (qI aSo (qI aT7 (qI aTx (qI aTc (qI aSu (qI aTR (qI aTa (qI aTp (qI aSh (qI aTW (qI aTV (qI aTv (qI aSi (qI aT0 (qI aS2 (qI aTI (qI aTu (qI aTS (qI aTl (qI aSd (qI aTt (qI aTH (qI aTT (qI aT6 (qI aTJ (qI aTE (qI aS9 (qI aS7 (qI aTD (qI aS3 (qI aSx (qI aT2 (qI aSn (qI aTs (qI aTC (qI aTG (qI aSm (qI aSr (qI aTM (qI aTk (qI aTU (qI aTe (qI aTq (qI aSs aS6))))))))))))))))))))))))))))))))))))))))))))))))))))))))))))))))))))))))))))))))))))))))))))))))))))
theorem TB:type_of% aYF.down:=aYF.down
def aWq:=PLift.up (qI @enI.eq_1 (qI @enB.eq_1 (qI @enS.eq_1 (qI @enT.eq_1 (qI @enL.eq_1 (qI @enI.fl (qI @enB.fl (qI @enS.fl (qI @enT.fl (qI @aPd (qI @aPx (qI @aOl (qI @aI.eq_1 (qI @aB.eq_1 (qI @aS.eq_1 (qI @aL.eq_1 (qI @aX.eq_1 (qI @cI.eq_1 (qI @cB.eq_1 (qI @cS.eq_1 (qI @cL.eq_1 (qI @vI.eq_1 (qI @vB.eq_1 (qI @vS.eq_1 (qI @vL.eq_1 (qI @vR.eq_1 (qI @vP.eq_1 (qI @oX.eq_1 (qI @oB.eq_1 (qI @oW.eq_1 (qI @rI.eq_1 (qI @rB.eq_1 (qI @rS.eq_1 (qI @rW.eq_1 (qI @M.aK.rs.eq_1 (qI @M.Bucket.ra.eq_1 (qI @M.Bucket.rs.eq_1 (qI @M.Cache.rs.eq_1 (qI @M.aA.rs.eq_1 (qI @M.Cached.rs.eq_1 (qI @M.Channel.rs.eq_1 (qI @M.Database.rs.eq_1 (qI @M.bB.rs.eq_1 (qI @M.Field.rs.eq_1 (qI @M.aD.rs.eq_1 (qI @M.Instr.rs.eq_1 (qI @M.Item.rs.eq_1 (qI @M.Key.rs.eq_1 (qI @M.aN.rs.eq_1 (qI @M.dA.rs.eq_1 (qI @M.aP.rs.eq_1 (qI @M.Machine.rs.eq_1 (qI @M.fW.rs.eq_1 (qI @M.aV.rs.eq_1 (qI @M.bJ.rs.eq_1 (qI @M.aU.rs.eq_1 (qI @M.Registration.rs.eq_1 (qI @M.aE.rs.eq_1 (qI @M.Response.rs.eq_1 (qI @M.Server.rs.eq_1 (qI @M.Site.ra.eq_1 (qI @M.Site.rs.eq_1 (qI @M.aC.rs.eq_1 (qI @M.aJ.rs.eq_1 (qI @M.Sync.rs.eq_1 (qI @M.World.rs.eq_1 (qI @M.aW.rs.eq_1 (qI @aTX.eq_1 (qI @aR1.eq_1 (qI @aSy.eq_1 (qI @aSp.eq_1 (qI @M.Registration.en.eq_1 (qI @M.Registration.en.fl (qI @M.Response.en.eq_1 (qI @M.Cached.en.eq_1 (qI @M.Cache.en.eq_1 (qI @M.aA.en.eq_1 (qI @M.Key.en.eq_1 (qI @M.Key.en.fl (qI @M.Field.en.eq_1 (qI @M.Field.en.fl (qI @M.aU.en.eq_1 (qI @M.Item.en.eq_1 (qI @M.aJ.en.eq_1 (qI @M.aD.en.eq_1 (qI @M.aD.en.fl (qI @M.Database.en.eq_1 (qI @M.bB.en.eq_1 (qI @M.aW.en.eq_1 (qI @M.aW.en.fl (qI @M.aV.en.eq_1 (qI @M.Sync.en.eq_1 (qI @M.aE.en.eq_1 (qI @M.Bucket.en.eq_1 (qI @M.aC.en.eq_1 (qI @M.aN.en.eq_1 (qI @M.aN.en.fl (qI @M.Instr.en.eq_1 (qI @M.Instr.en.fl (qI @M.Machine.en.eq_1 (qI @M.bJ.en.eq_1 (qI @M.dA.en.eq_1 (qI @M.dA.en.fl (qI @M.aP.en.eq_1 (qI @M.fW.en.eq_1 (qI @M.fW.en.fl (qI @M.Channel.en.eq_1 (qI @M.Site.en.eq_1 (qI @M.aK.en.eq_1 (qI @M.aK.en.fl (qI @M.Server.en.eq_1 @M.World.en.eq_1)))))))))))))))))))))))))))))))))))))))))))))))))))))))))))))))))))))))))))))))))))))))))))))))))))))))))))))))
theorem EN:type_of% aWq.down:=aWq.down
end Go.Proofs.YtidhkhdnjonjfaaGreat.gen
