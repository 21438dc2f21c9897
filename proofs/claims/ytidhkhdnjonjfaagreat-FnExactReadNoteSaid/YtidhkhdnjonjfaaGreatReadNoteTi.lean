/-
  Helper text. No conditions.
-/
import Derived.Test.YtidhkhdnjonjfaaGreatReadNoteMod
import Derived.Test.YtidhkhdnjonjfaaGreatProg
import Derived.KernelRfl
set_option linter.unusedVariables false
set_option linter.unusedSimpArgs false
namespace Go.Proofs.YtidhkhdnjonjfaaGreat.gen
open Go Go.Sh
theorem mixed:Tryz.prog.follows .mixedOrders=true:=by kernel_rfl
theorem ti3:cO Tryz.prog 3=some { k:=.int .i64,size:=1,bytes:=8,zero:=[.dat (.int .i64 0)] }:=by kernel_rfl
theorem ti4:cO Tryz.prog 4=some { k:=.bool,size:=1,bytes:=1,zero:=[.dat (.bool false)] }:=by kernel_rfl
theorem ti5:cO Tryz.prog 5=some { k:=.int .u8,size:=1,bytes:=1,zero:=[.dat (.int .u8 0)] }:=by kernel_rfl
theorem ti9:cO Tryz.prog 9=some { k:=.str,size:=1,bytes:=16,zero:=[.dat (.str ⟨#[]⟩)] }:=by kernel_rfl
theorem aFa:cO Tryz.prog 22=some { k:=.slice 5,size:=1,bytes:=24,zero:=[.nil],sl:=[some (5,1)] }:=by kernel_rfl
theorem aR6:cO Tryz.prog 25=some { k:=.struct [(0,1,false),(1,1,false),(2,1,false),(3,1,false)],size:=4,bytes:=40,zero:=[.dat (.str ⟨#[]⟩),.dat (.int .i64 0),.dat (.int .i64 0),.dat (.int .i64 0)],cmp:=[.str,.int,.int,.int] }:=by kernel_rfl
theorem aRw:cO Tryz.prog 26=some { k:=.slice 212,size:=1,bytes:=24,zero:=[.nil],sl:=[some (212,2)] }:=by kernel_rfl
theorem aRq:cO Tryz.prog 28=some { k:=.struct [(0,1,false)],size:=1,bytes:=24,zero:=[.nil],sl:=[some (212,2)] }:=by kernel_rfl
theorem aR2:cO Tryz.prog 29=some { k:=.slice 37,size:=1,bytes:=24,zero:=[.nil],sl:=[some (37,3)] }:=by kernel_rfl
theorem aR3:cO Tryz.prog 30=some { k:=.slice 239,size:=1,bytes:=24,zero:=[.nil],sl:=[some (239,2)] }:=by kernel_rfl
theorem aRy:cO Tryz.prog 32=some { k:=.struct [(0,1,false),(1,1,false),(2,1,false),(3,1,false)],size:=4,bytes:=72,zero:=[.dat (.str ⟨#[]⟩),.dat (.int .i64 0),.nil,.nil],sl:=[none,none,some (37,3),some (239,2)] }:=by kernel_rfl
theorem aR0:cO Tryz.prog 34=some { k:=.struct [(0,4,true),(4,1,false),(5,1,false)],size:=6,bytes:=104,zero:=[.dat (.str ⟨#[]⟩),.dat (.int .i64 0),.nil,.nil,.nil,.dat (.int .i64 0)],sl:=[none,none,some (37,3),some (239,2),some (5,1),none] }:=by kernel_rfl
theorem aHY:cO Tryz.prog 35=some { k:=.slice 227,size:=1,bytes:=24,zero:=[.nil],sl:=[some (227,4)] }:=by kernel_rfl
theorem aGV:cO Tryz.prog 37=some { k:=.struct [(0,1,false),(1,1,false),(2,1,false)],size:=3,bytes:=48,zero:=[.dat (.str ⟨#[]⟩),.nil,.dat (.int .i64 0)],sl:=[none,some (227,4),none] }:=by kernel_rfl
theorem aR8:cO Tryz.prog 38=some { k:=.slice 359,size:=1,bytes:=24,zero:=[.nil],sl:=[some (359,7)] }:=by kernel_rfl
theorem aRt:cO Tryz.prog 40=some { k:=.struct [(0,1,false),(1,1,false),(2,1,false)],size:=3,bytes:=40,zero:=[.dat (.int .i64 0),.dat (.int .i64 0),.nil],sl:=[none,none,some (359,7)] }:=by kernel_rfl
theorem aRx:cO Tryz.prog 42=some { k:=.struct [(0,3,true),(3,1,false),(4,1,false)],size:=5,bytes:=56,zero:=[.dat (.int .i64 0),.dat (.int .i64 0),.nil,.dat (.int .i64 0),.dat (.int .i64 0)],sl:=[none,none,some (359,7),none,none] }:=by kernel_rfl
theorem aRp:cO Tryz.prog 44=some { k:=.struct [(0,3,true),(3,1,false),(4,5,true)],size:=9,bytes:=112,zero:=[.dat (.str ⟨#[]⟩),.nil,.dat (.int .i64 0),.dat (.int .i64 0),.dat (.int .i64 0),.dat (.int .i64 0),.nil,.dat (.int .i64 0),.dat (.int .i64 0)],sl:=[none,some (227,4),none,none,none,none,some (359,7),none,none] }:=by kernel_rfl
theorem aR9:cO Tryz.prog 46=some { k:=.struct [(0,1,false),(1,1,false),(2,4,true),(6,1,true),(7,6,true),(13,9,true),(22,1,false),(23,1,false)],size:=24,bytes:=328,zero:=[.dat (.str ⟨#[]⟩),.dat (.str ⟨#[]⟩),.dat (.str ⟨#[]⟩),.dat (.int .i64 0),.dat (.int .i64 0),.dat (.int .i64 0),.nil,.dat (.str ⟨#[]⟩),.dat (.int .i64 0),.nil,.nil,.nil,.dat (.int .i64 0),.dat (.str ⟨#[]⟩),.nil,.dat (.int .i64 0),.dat (.int .i64 0),.dat (.int .i64 0),.dat (.int .i64 0),.nil,.dat (.int .i64 0),.dat (.int .i64 0),.dat (.int .i64 0),.dat (.bool false)],sl:=[none,none,none,none,none,none,some (212,2),none,none,some (37,3),some (239,2),some (5,1),none,none,some (227,4),none,none,none,none,some (359,7),none,none,none,none] }:=by kernel_rfl
theorem aRm:cO Tryz.prog 59=some { k:=.slice 385,size:=1,bytes:=24,zero:=[.nil],sl:=[some (385,24)] }:=by kernel_rfl
theorem aRd:cO Tryz.prog 61=some { k:=.struct [(0,1,false)],size:=1,bytes:=24,zero:=[.nil],sl:=[some (385,24)] }:=by kernel_rfl
theorem aRv:cO Tryz.prog 62=some { k:=.slice 79,size:=1,bytes:=24,zero:=[.nil],sl:=[some (79,11)] }:=by kernel_rfl
theorem aRU:cO Tryz.prog 63=some { k:=.slice 388,size:=1,bytes:=24,zero:=[.nil],sl:=[some (388,4)] }:=by kernel_rfl
theorem aRr:cO Tryz.prog 65=some { k:=.struct [(0,1,false)],size:=1,bytes:=24,zero:=[.nil],sl:=[some (388,4)] }:=by kernel_rfl
theorem aRc:cO Tryz.prog 66=some { k:=.slice 401,size:=1,bytes:=24,zero:=[.nil],sl:=[some (401,3)] }:=by kernel_rfl
theorem aRk:cO Tryz.prog 68=some { k:=.struct [(0,1,false)],size:=1,bytes:=24,zero:=[.nil],sl:=[some (401,3)] }:=by kernel_rfl
theorem aRe:cO Tryz.prog 69=some { k:=.slice 249,size:=1,bytes:=24,zero:=[.nil],sl:=[some (249,4)] }:=by kernel_rfl
theorem aRW:cO Tryz.prog 70=some { k:=.slice 257,size:=1,bytes:=24,zero:=[.nil],sl:=[some (257,5)] }:=by kernel_rfl
theorem aRQ:cO Tryz.prog 72=some { k:=.struct [(0,1,false),(1,1,false),(2,1,false),(3,1,true),(4,1,false),(5,1,false),(6,1,true),(7,1,true),(8,1,false),(9,1,false)],size:=10,bytes:=176,zero:=[.dat (.int .i64 0),.dat (.bool false),.dat (.int .i64 0),.nil,.nil,.dat (.int .i64 0),.nil,.nil,.nil,.nil],sl:=[none,none,none,some (385,24),some (79,11),none,some (388,4),some (401,3),some (249,4),some (257,5)] }:=by kernel_rfl
theorem aRS:cO Tryz.prog 73=some { k:=.slice 260,size:=1,bytes:=24,zero:=[.nil],sl:=[some (260,2)] }:=by kernel_rfl
theorem aR4:cO Tryz.prog 74=some { k:=.slice 394,size:=1,bytes:=24,zero:=[.nil],sl:=[some (394,4)] }:=by kernel_rfl
theorem aRz:cO Tryz.prog 75=some { k:=.slice 3,size:=1,bytes:=24,zero:=[.nil],sl:=[some (3,1)] }:=by kernel_rfl
theorem aRR:cO Tryz.prog 77=some { k:=.struct [(0,1,false),(1,1,false),(2,1,false),(3,1,false),(4,1,false),(5,1,false)],size:=6,bytes:=72,zero:=[.nil,.dat (.int .i64 0),.nil,.dat (.int .i64 0),.dat (.bool false),.dat (.bool false)],sl:=[some (394,4),none,some (3,1),none,none,none] }:=by kernel_rfl
theorem aRV:cO Tryz.prog 79=some { k:=.struct [(0,1,false),(1,1,false),(2,1,false),(3,1,false),(4,1,false),(5,6,true)],size:=11,bytes:=144,zero:=[.dat (.int .i64 0),.dat (.str ⟨#[]⟩),.dat (.str ⟨#[]⟩),.dat (.int .i64 0),.nil,.nil,.dat (.int .i64 0),.nil,.dat (.int .i64 0),.dat (.bool false),.dat (.bool false)],sl:=[none,none,none,none,some (260,2),some (394,4),none,some (3,1),none,none,none] }:=by kernel_rfl
theorem aRn:cO Tryz.prog 83=some { k:=.slice 46,size:=1,bytes:=24,zero:=[.nil],sl:=[some (46,24)] }:=by kernel_rfl
theorem aRX:cO Tryz.prog 85=some { k:=.struct [(0,1,false)],size:=1,bytes:=24,zero:=[.nil],sl:=[some (46,24)] }:=by kernel_rfl
theorem aRZ:cO Tryz.prog 86=some { k:=.slice 103,size:=1,bytes:=24,zero:=[.nil],sl:=[some (103,11)] }:=by kernel_rfl
theorem aR7:cO Tryz.prog 87=some { k:=.slice 396,size:=1,bytes:=24,zero:=[.nil],sl:=[some (396,4)] }:=by kernel_rfl
theorem aRj:cO Tryz.prog 89=some { k:=.struct [(0,1,false)],size:=1,bytes:=24,zero:=[.nil],sl:=[some (396,4)] }:=by kernel_rfl
theorem aRo:cO Tryz.prog 90=some { k:=.slice 399,size:=1,bytes:=24,zero:=[.nil],sl:=[some (399,3)] }:=by kernel_rfl
theorem aR5:cO Tryz.prog 92=some { k:=.struct [(0,1,false)],size:=1,bytes:=24,zero:=[.nil],sl:=[some (399,3)] }:=by kernel_rfl
theorem aRT:cO Tryz.prog 93=some { k:=.slice 180,size:=1,bytes:=24,zero:=[.nil],sl:=[some (180,4)] }:=by kernel_rfl
theorem aRl:cO Tryz.prog 94=some { k:=.slice 274,size:=1,bytes:=24,zero:=[.nil],sl:=[some (274,5)] }:=by kernel_rfl
theorem aRa:cO Tryz.prog 96=some { k:=.struct [(0,1,false),(1,1,false),(2,1,false),(3,1,true),(4,1,false),(5,1,false),(6,1,true),(7,1,true),(8,1,false),(9,1,false)],size:=10,bytes:=176,zero:=[.dat (.int .i64 0),.dat (.bool false),.dat (.int .i64 0),.nil,.nil,.dat (.int .i64 0),.nil,.nil,.nil,.nil],sl:=[none,none,none,some (46,24),some (103,11),none,some (396,4),some (399,3),some (180,4),some (274,5)] }:=by kernel_rfl
theorem aRs:cO Tryz.prog 98=some { k:=.slice 276,size:=1,bytes:=24,zero:=[.nil],sl:=[some (276,2)] }:=by kernel_rfl
theorem aRi:cO Tryz.prog 99=some { k:=.slice 406,size:=1,bytes:=24,zero:=[.nil],sl:=[some (406,4)] }:=by kernel_rfl
theorem aMV:cO Tryz.prog 101=some { k:=.struct [(0,1,false),(1,1,false),(2,1,false),(3,1,false),(4,1,false),(5,1,false)],size:=6,bytes:=72,zero:=[.nil,.dat (.int .i64 0),.nil,.dat (.int .i64 0),.dat (.bool false),.dat (.bool false)],sl:=[some (406,4),none,some (3,1),none,none,none] }:=by kernel_rfl
theorem aMm:cO Tryz.prog 103=some { k:=.struct [(0,1,false),(1,1,false),(2,1,false),(3,1,false),(4,1,false),(5,6,true)],size:=11,bytes:=144,zero:=[.dat (.int .i64 0),.dat (.str ⟨#[]⟩),.dat (.str ⟨#[]⟩),.dat (.int .i64 0),.nil,.nil,.dat (.int .i64 0),.nil,.dat (.int .i64 0),.dat (.bool false),.dat (.bool false)],sl:=[none,none,none,none,some (276,2),some (406,4),none,some (3,1),none,none,none] }:=by kernel_rfl
theorem aNe:cO Tryz.prog 146=some { k:=.slice 267,size:=1,bytes:=24,zero:=[.nil],sl:=[some (267,2)] }:=by kernel_rfl
theorem aLg:cO Tryz.prog 148=some { k:=.struct [(0,1,false)],size:=1,bytes:=24,zero:=[.nil],sl:=[some (267,2)] }:=by kernel_rfl
theorem aNl:cO Tryz.prog 178=some { k:=.slice 9,size:=1,bytes:=24,zero:=[.nil],sl:=[some (9,1)] }:=by kernel_rfl
theorem aN6:cO Tryz.prog 180=some { k:=.struct [(0,1,false),(1,1,false),(2,1,false),(3,1,false)],size:=4,bytes:=56,zero:=[.dat (.str ⟨#[]⟩),.dat (.int .i64 0),.nil,.dat (.bool false)],sl:=[none,none,some (9,1),none] }:=by kernel_rfl
theorem aMb:cO Tryz.prog 210=some { k:=.slice 221,size:=1,bytes:=24,zero:=[.nil],sl:=[some (221,7)] }:=by kernel_rfl
theorem aN4:cO Tryz.prog 212=some { k:=.struct [(0,1,false),(1,1,false)],size:=2,bytes:=32,zero:=[.dat (.int .i64 0),.nil],sl:=[none,some (221,7)] }:=by kernel_rfl
theorem aN7:cO Tryz.prog 219=some { k:=.struct [(0,1,false),(1,1,false),(2,1,false),(3,1,false),(4,1,false)],size:=5,bytes:=56,zero:=[.dat (.int .i64 0),.dat (.int .i64 0),.dat (.int .i64 0),.nil,.dat (.bool false)],sl:=[none,none,none,some (5,1),none] }:=by kernel_rfl
theorem aMs:cO Tryz.prog 221=some { k:=.struct [(0,1,false),(1,1,false),(2,5,true)],size:=7,bytes:=88,zero:=[.dat (.str ⟨#[]⟩),.dat (.str ⟨#[]⟩),.dat (.int .i64 0),.dat (.int .i64 0),.dat (.int .i64 0),.nil,.dat (.bool false)],sl:=[none,none,none,none,none,some (5,1),none] }:=by kernel_rfl
theorem aK9:cO Tryz.prog 225=some { k:=.struct [(0,1,false),(1,1,false),(2,1,false)],size:=3,bytes:=32,zero:=[.dat (.int .i64 0),.dat (.int .i64 0),.dat (.str ⟨#[]⟩)],cmp:=[.int,.int,.str] }:=by kernel_rfl
theorem aDs:cO Tryz.prog 227=some { k:=.struct [(0,3,true),(3,1,true)],size:=4,bytes:=56,zero:=[.dat (.int .i64 0),.dat (.int .i64 0),.dat (.str ⟨#[]⟩),.nil],sl:=[none,none,none,some (267,2)] }:=by kernel_rfl
theorem aNx:cO Tryz.prog 239=some { k:=.struct [(0,1,false),(1,1,false)],size:=2,bytes:=32,zero:=[.dat (.str ⟨#[]⟩),.dat (.str ⟨#[]⟩)],cmp:=[.str,.str] }:=by kernel_rfl
theorem aNb:cO Tryz.prog 249=some { k:=.struct [(0,1,false),(1,1,false),(2,1,false),(3,1,false)],size:=4,bytes:=56,zero:=[.dat (.str ⟨#[]⟩),.dat (.int .i64 0),.nil,.dat (.bool false)],sl:=[none,none,some (9,1),none] }:=by kernel_rfl
theorem aMl:cO Tryz.prog 251=some { k:=.slice 537,size:=1,bytes:=24,zero:=[.nil],sl:=[some (537,4)] }:=by kernel_rfl
theorem aNM:cO Tryz.prog 253=some { k:=.struct [(0,1,false),(1,1,false),(2,1,false)],size:=3,bytes:=48,zero:=[.dat (.str ⟨#[]⟩),.nil,.dat (.int .i64 0)],sl:=[none,some (537,4),none] }:=by kernel_rfl
theorem aNZ:cO Tryz.prog 254=some { k:=.slice 499,size:=1,bytes:=24,zero:=[.nil],sl:=[some (499,2)] }:=by kernel_rfl
theorem aNp:cO Tryz.prog 255=some { k:=.slice 490,size:=1,bytes:=24,zero:=[.nil],sl:=[some (490,7)] }:=by kernel_rfl
theorem aMW:cO Tryz.prog 257=some { k:=.struct [(0,3,true),(3,1,false),(4,1,false)],size:=5,bytes:=96,zero:=[.dat (.str ⟨#[]⟩),.nil,.dat (.int .i64 0),.nil,.nil],sl:=[none,some (537,4),none,some (499,2),some (490,7)] }:=by kernel_rfl
theorem aNS:cO Tryz.prog 260=some { k:=.struct [(0,1,false),(1,1,false)],size:=2,bytes:=24,zero:=[.dat (.str ⟨#[]⟩),.dat (.int .i64 0)],cmp:=[.str,.int] }:=by kernel_rfl
theorem aNR:cO Tryz.prog 267=some { k:=.struct [(0,1,false),(1,1,false)],size:=2,bytes:=24,zero:=[.dat (.str ⟨#[]⟩),.dat (.int .i64 0)],cmp:=[.str,.int] }:=by kernel_rfl
theorem aNv:cO Tryz.prog 272=some { k:=.slice 431,size:=1,bytes:=24,zero:=[.nil],sl:=[some (431,2)] }:=by kernel_rfl
theorem aMX:cO Tryz.prog 274=some { k:=.struct [(0,3,true),(3,1,false),(4,1,false)],size:=5,bytes:=96,zero:=[.dat (.str ⟨#[]⟩),.nil,.dat (.int .i64 0),.nil,.nil],sl:=[none,some (227,4),none,some (431,2),some (359,7)] }:=by kernel_rfl
theorem aNz:cO Tryz.prog 276=some { k:=.struct [(0,1,false),(1,1,false)],size:=2,bytes:=24,zero:=[.dat (.str ⟨#[]⟩),.dat (.int .i64 0)],cmp:=[.str,.int] }:=by kernel_rfl
theorem aNo:cO Tryz.prog 280=some { k:=.slice 22,size:=1,bytes:=24,zero:=[.nil],sl:=[some (22,1)] }:=by kernel_rfl
theorem aMg:cO Tryz.prog 283=some { k:=.slice 332,size:=1,bytes:=24,zero:=[.nil],sl:=[some (332,7)] }:=by kernel_rfl
theorem aEO:cO Tryz.prog 332=some { k:=.struct [(0,1,false),(1,1,false),(2,3,true),(5,1,true),(6,1,false)],size:=7,bytes:=96,zero:=[.dat (.int .i64 0),.dat (.str ⟨#[]⟩),.dat (.int .i64 0),.dat (.int .i64 0),.dat (.str ⟨#[]⟩),.nil,.dat (.str ⟨#[]⟩)],sl:=[none,none,none,none,none,some (267,2),none] }:=by kernel_rfl
theorem aMu:cO Tryz.prog 359=some { k:=.struct [(0,1,false),(1,1,false),(2,3,true),(5,1,false),(6,1,false)],size:=7,bytes:=72,zero:=[.dat (.int .i64 0),.dat (.int .i64 0),.dat (.int .i64 0),.dat (.int .i64 0),.dat (.str ⟨#[]⟩),.dat (.str ⟨#[]⟩),.dat (.int .i64 0)],cmp:=[.int,.int,.int,.int,.str,.str,.int] }:=by kernel_rfl
theorem aND:cO Tryz.prog 368=some { k:=.struct [(0,1,false),(1,1,false),(2,1,false),(3,1,false)],size:=4,bytes:=40,zero:=[.dat (.str ⟨#[]⟩),.dat (.int .i64 0),.dat (.int .i64 0),.dat (.int .i64 0)],cmp:=[.str,.int,.int,.int] }:=by kernel_rfl
theorem aNu:cO Tryz.prog 369=some { k:=.slice 552,size:=1,bytes:=24,zero:=[.nil],sl:=[some (552,2)] }:=by kernel_rfl
theorem aNN:cO Tryz.prog 371=some { k:=.struct [(0,1,false)],size:=1,bytes:=24,zero:=[.nil],sl:=[some (552,2)] }:=by kernel_rfl
theorem aNk:cO Tryz.prog 372=some { k:=.slice 253,size:=1,bytes:=24,zero:=[.nil],sl:=[some (253,3)] }:=by kernel_rfl
theorem aMS:cO Tryz.prog 373=some { k:=.slice 574,size:=1,bytes:=24,zero:=[.nil],sl:=[some (574,2)] }:=by kernel_rfl
theorem aNt:cO Tryz.prog 375=some { k:=.struct [(0,1,false),(1,1,false),(2,1,false),(3,1,false)],size:=4,bytes:=72,zero:=[.dat (.str ⟨#[]⟩),.dat (.int .i64 0),.nil,.nil],sl:=[none,none,some (253,3),some (574,2)] }:=by kernel_rfl
theorem aNC:cO Tryz.prog 377=some { k:=.struct [(0,4,true),(4,1,false),(5,1,false)],size:=6,bytes:=104,zero:=[.dat (.str ⟨#[]⟩),.dat (.int .i64 0),.nil,.nil,.nil,.dat (.int .i64 0)],sl:=[none,none,some (253,3),some (574,2),some (5,1),none] }:=by kernel_rfl
theorem aNO:cO Tryz.prog 379=some { k:=.struct [(0,1,false),(1,1,false),(2,1,false)],size:=3,bytes:=40,zero:=[.dat (.int .i64 0),.dat (.int .i64 0),.nil],sl:=[none,none,some (490,7)] }:=by kernel_rfl
theorem aN8:cO Tryz.prog 381=some { k:=.struct [(0,3,true),(3,1,false),(4,1,false)],size:=5,bytes:=56,zero:=[.dat (.int .i64 0),.dat (.int .i64 0),.nil,.dat (.int .i64 0),.dat (.int .i64 0)],sl:=[none,none,some (490,7),none,none] }:=by kernel_rfl
theorem aNE:cO Tryz.prog 383=some { k:=.struct [(0,3,true),(3,1,false),(4,5,true)],size:=9,bytes:=112,zero:=[.dat (.str ⟨#[]⟩),.nil,.dat (.int .i64 0),.dat (.int .i64 0),.dat (.int .i64 0),.dat (.int .i64 0),.nil,.dat (.int .i64 0),.dat (.int .i64 0)],sl:=[none,some (537,4),none,none,none,none,some (490,7),none,none] }:=by kernel_rfl
theorem aM9:cO Tryz.prog 385=some { k:=.struct [(0,1,false),(1,1,false),(2,4,true),(6,1,true),(7,6,true),(13,9,true),(22,1,false),(23,1,false)],size:=24,bytes:=328,zero:=[.dat (.str ⟨#[]⟩),.dat (.str ⟨#[]⟩),.dat (.str ⟨#[]⟩),.dat (.int .i64 0),.dat (.int .i64 0),.dat (.int .i64 0),.nil,.dat (.str ⟨#[]⟩),.dat (.int .i64 0),.nil,.nil,.nil,.dat (.int .i64 0),.dat (.str ⟨#[]⟩),.nil,.dat (.int .i64 0),.dat (.int .i64 0),.dat (.int .i64 0),.dat (.int .i64 0),.nil,.dat (.int .i64 0),.dat (.int .i64 0),.dat (.int .i64 0),.dat (.bool false)],sl:=[none,none,none,none,none,none,some (552,2),none,none,some (253,3),some (574,2),some (5,1),none,none,some (537,4),none,none,none,none,some (490,7),none,none,none,none] }:=by kernel_rfl
theorem aM1:cO Tryz.prog 388=some { k:=.struct [(0,1,false),(1,1,false),(2,1,false),(3,1,false)],size:=4,bytes:=32,zero:=[.dat (.str ⟨#[]⟩),.dat (.int .i64 0),.dat (.bool false),.dat (.bool false)],cmp:=[.str,.int,.bool,.bool] }:=by kernel_rfl
theorem aM0:cO Tryz.prog 394=some { k:=.struct [(0,1,false),(1,1,false),(2,1,false),(3,1,false)],size:=4,bytes:=40,zero:=[.dat (.int .i64 0),.dat (.int .i64 0),.dat (.int .i64 0),.dat (.str ⟨#[]⟩)],cmp:=[.int,.int,.int,.str] }:=by kernel_rfl
theorem aM8:cO Tryz.prog 396=some { k:=.struct [(0,1,false),(1,1,false),(2,1,false),(3,1,false)],size:=4,bytes:=32,zero:=[.dat (.str ⟨#[]⟩),.dat (.int .i64 0),.dat (.bool false),.dat (.bool false)],cmp:=[.str,.int,.bool,.bool] }:=by kernel_rfl
theorem aMw:cO Tryz.prog 399=some { k:=.struct [(0,1,false),(1,1,false),(2,1,false)],size:=3,bytes:=24,zero:=[.dat (.int .i64 0),.dat (.int .i64 0),.dat (.int .i64 0)],cmp:=[.int,.int,.int] }:=by kernel_rfl
theorem aMo:cO Tryz.prog 401=some { k:=.struct [(0,1,false),(1,1,false),(2,1,false)],size:=3,bytes:=24,zero:=[.dat (.int .i64 0),.dat (.int .i64 0),.dat (.int .i64 0)],cmp:=[.int,.int,.int] }:=by kernel_rfl
theorem aN3:cO Tryz.prog 406=some { k:=.struct [(0,1,false),(1,1,false),(2,1,false),(3,1,false)],size:=4,bytes:=40,zero:=[.dat (.int .i64 0),.dat (.int .i64 0),.dat (.int .i64 0),.dat (.str ⟨#[]⟩)],cmp:=[.int,.int,.int,.str] }:=by kernel_rfl
theorem aAl:cO Tryz.prog 413=some { k:=.arr 22 4,size:=4,bytes:=96,zero:=[.nil,.nil,.nil,.nil],sl:=[some (5,1),some (5,1),some (5,1),some (5,1)] }:=by kernel_rfl
theorem aMd:cO Tryz.prog 431=some { k:=.struct [(0,1,false),(1,1,false)],size:=2,bytes:=16,zero:=[.dat (.int .i64 0),.dat (.int .i64 0)],cmp:=[.int,.int] }:=by kernel_rfl
theorem aNs:cO Tryz.prog 488=some { k:=.struct [(0,1,false),(1,1,false),(2,1,false)],size:=3,bytes:=32,zero:=[.dat (.int .i64 0),.dat (.int .i64 0),.dat (.str ⟨#[]⟩)],cmp:=[.int,.int,.str] }:=by kernel_rfl
theorem aM4:cO Tryz.prog 490=some { k:=.struct [(0,1,false),(1,1,false),(2,3,true),(5,1,false),(6,1,false)],size:=7,bytes:=72,zero:=[.dat (.int .i64 0),.dat (.int .i64 0),.dat (.int .i64 0),.dat (.int .i64 0),.dat (.str ⟨#[]⟩),.dat (.str ⟨#[]⟩),.dat (.int .i64 0)],cmp:=[.int,.int,.int,.int,.str,.str,.int] }:=by kernel_rfl
theorem aNB:cO Tryz.prog 499=some { k:=.struct [(0,1,false),(1,1,false)],size:=2,bytes:=16,zero:=[.dat (.int .i64 0),.dat (.int .i64 0)],cmp:=[.int,.int] }:=by kernel_rfl
theorem aMc:cO Tryz.prog 533=some { k:=.slice 587,size:=1,bytes:=24,zero:=[.nil],sl:=[some (587,2)] }:=by kernel_rfl
theorem aMh:cO Tryz.prog 535=some { k:=.struct [(0,1,false)],size:=1,bytes:=24,zero:=[.nil],sl:=[some (587,2)] }:=by kernel_rfl
theorem aNL:cO Tryz.prog 537=some { k:=.struct [(0,3,true),(3,1,true)],size:=4,bytes:=56,zero:=[.dat (.int .i64 0),.dat (.int .i64 0),.dat (.str ⟨#[]⟩),.nil],sl:=[none,none,none,some (587,2)] }:=by kernel_rfl
theorem aNh:cO Tryz.prog 547=some { k:=.struct [(0,1,false),(1,1,false),(2,3,true),(5,3,true)],size:=8,bytes:=72,zero:=[.dat (.bool false),.dat (.bool false),.dat (.int .i64 0),.dat (.int .i64 0),.dat (.str ⟨#[]⟩),.dat (.int .i64 0),.dat (.int .i64 0),.dat (.str ⟨#[]⟩)],cmp:=[.bool,.bool,.int,.int,.str,.int,.int,.str] }:=by kernel_rfl
theorem aNi:cO Tryz.prog 550=some { k:=.slice 585,size:=1,bytes:=24,zero:=[.nil],sl:=[some (585,7)] }:=by kernel_rfl
theorem aNQ:cO Tryz.prog 552=some { k:=.struct [(0,1,false),(1,1,false)],size:=2,bytes:=32,zero:=[.dat (.int .i64 0),.nil],sl:=[none,some (585,7)] }:=by kernel_rfl
theorem aNd:cO Tryz.prog 574=some { k:=.struct [(0,1,false),(1,1,false)],size:=2,bytes:=32,zero:=[.dat (.str ⟨#[]⟩),.dat (.str ⟨#[]⟩)],cmp:=[.str,.str] }:=by kernel_rfl
theorem aNq:cO Tryz.prog 583=some { k:=.struct [(0,1,false),(1,1,false),(2,1,false),(3,1,false),(4,1,false)],size:=5,bytes:=56,zero:=[.dat (.int .i64 0),.dat (.int .i64 0),.dat (.int .i64 0),.nil,.dat (.bool false)],sl:=[none,none,none,some (5,1),none] }:=by kernel_rfl
theorem aMi:cO Tryz.prog 585=some { k:=.struct [(0,1,false),(1,1,false),(2,5,true)],size:=7,bytes:=88,zero:=[.dat (.str ⟨#[]⟩),.dat (.str ⟨#[]⟩),.dat (.int .i64 0),.dat (.int .i64 0),.dat (.int .i64 0),.nil,.dat (.bool false)],sl:=[none,none,none,none,none,some (5,1),none] }:=by kernel_rfl
theorem aMz:cO Tryz.prog 587=some { k:=.struct [(0,1,false),(1,1,false)],size:=2,bytes:=24,zero:=[.dat (.str ⟨#[]⟩),.dat (.int .i64 0)],cmp:=[.str,.int] }:=by kernel_rfl
abbrev Sc:=oM Tryz.prog
def M.aO.rs (r:M.aO):List RC:=[.ro (.int .i64 r.Device),.ro (.int .i64 r.Seq)]
def M.Bucket.ra (r:M.Bucket):List RC:=[.ro (.str r.Site),.ro (.str r.Top),.ro (.str r.Registration.Site),.ro (.int .i64 r.Registration.Installing),.ro (.int .i64 r.Registration.Waiting),.ro (.int .i64 r.Registration.Active),.any (.sl (List.map M.Cache.en r.Caches.Caches)),.ro (.str r.fQ.Base.Name),.ro (.int .i64 r.fQ.Base.Version),.any (.sl (List.map M.aC.en r.fQ.Base.Stores)),.any (.sl (List.map M.aE.en r.fQ.Base.Unique)),.any (.sl (List.map enB r.fQ.Log)),.ro (.int .i64 r.fQ.Count),.ro (.str r.aK.Base.Name),.any (.sl (List.map M.Item.en r.aK.Base.Items)),.ro (.int .i64 r.aK.Base.Auto),.ro (.int .i64 r.aK.Seen),.ro (.int .i64 r.aK.Sync.bH.Device),.ro (.int .i64 r.aK.Sync.bH.Next),.any (.sl (List.map M.bM.en r.aK.Sync.bH.Writes)),.ro (.int .i64 r.aK.Sync.Tries),.ro (.int .i64 r.aK.Sync.WaitUntil),.ro (.int .i64 r.LastUsed),.ro (.bool r.Persistent)]
def M.Bucket.rs (r:M.Bucket):List RC:=[.ro (.str r.Site),.ro (.str r.Top),.ro (.str r.Registration.Site),.ro (.int .i64 r.Registration.Installing),.ro (.int .i64 r.Registration.Waiting),.ro (.int .i64 r.Registration.Active),.own 212 2 (List.map M.Cache.en r.Caches.Caches),.ro (.str r.fQ.Base.Name),.ro (.int .i64 r.fQ.Base.Version),.own 37 3 (List.map M.aC.en r.fQ.Base.Stores),.own 239 2 (List.map M.aE.en r.fQ.Base.Unique),.own 5 1 (List.map enB r.fQ.Log),.ro (.int .i64 r.fQ.Count),.ro (.str r.aK.Base.Name),.own 227 4 (List.map M.Item.en r.aK.Base.Items),.ro (.int .i64 r.aK.Base.Auto),.ro (.int .i64 r.aK.Seen),.ro (.int .i64 r.aK.Sync.bH.Device),.ro (.int .i64 r.aK.Sync.bH.Next),.own 359 7 (List.map M.bM.en r.aK.Sync.bH.Writes),.ro (.int .i64 r.aK.Sync.Tries),.ro (.int .i64 r.aK.Sync.WaitUntil),.ro (.int .i64 r.LastUsed),.ro (.bool r.Persistent)]
def M.Cache.rs (r:M.Cache):List RC:=[.ro (.int .i64 r.Version),.own 221 7 (List.map M.Cached.en r.Entries)]
def M.bF.rs (r:M.bF):List RC:=[.own 212 2 (List.map M.Cache.en r.Caches)]
def M.Cached.rs (r:M.Cached):List RC:=[.ro (.str r.Site),.ro (.str r.Path),.ro (.int .i64 r.Response.Type_),.ro (.int .i64 r.Response.Status),.ro (.int .i64 r.Response.Version),.own 5 1 (List.map enB r.Response.Body),.ro (.bool r.Response.Shares)]
def M.Channel.rs (r:M.Channel):List RC:=[.own 399 3 (List.map M.pC.en r.Mails)]
def M.Database.ra (r:M.Database):List RC:=[.ro (.str r.Name),.ro (.int .i64 r.Version),.any (.sl (List.map M.aC.en r.Stores)),.any (.sl (List.map M.aE.en r.Unique))]
def M.Database.rs (r:M.Database):List RC:=[.ro (.str r.Name),.ro (.int .i64 r.Version),.own 37 3 (List.map M.aC.en r.Stores),.own 239 2 (List.map M.aE.en r.Unique)]
def M.fQ.rs (r:M.fQ):List RC:=[.ro (.str r.Base.Name),.ro (.int .i64 r.Base.Version),.own 37 3 (List.map M.aC.en r.Base.Stores),.own 239 2 (List.map M.aE.en r.Base.Unique),.own 5 1 (List.map enB r.Log),.ro (.int .i64 r.Count)]
def M.Field.rs (r:M.Field):List RC:=[.ro (.str r.Name),.ro (.int .i64 r.N)]
def M.aE.rs (r:M.aE):List RC:=[.ro (.str r.aC),.ro (.str r.Field)]
def M.Instr.rs (r:M.Instr):List RC:=[.ro (.int .i64 r.Kind),.ro (.int .i64 r.R),.ro (.int .i64 r.N),.ro (.str r.Text)]
def M.Item.rs (r:M.Item):List RC:=[.ro (.int .i64 r.Key.Kind),.ro (.int .i64 r.Key.N),.ro (.str r.Key.Text),.own 267 2 (List.map M.Field.en r.aA.Fields)]
def M.Key.rs (r:M.Key):List RC:=[.ro (.int .i64 r.Kind),.ro (.int .i64 r.N),.ro (.str r.Text)]
def M.aT.rs (r:M.aT):List RC:=[.ro (.str r.Path),.ro (.int .i64 r.Version)]
def M.kI.rs (r:M.kI):List RC:=[.ro (.str r.Name),.ro (.int .i64 r.gX),.ro (.bool r.Shared),.ro (.bool r.Held)]
def M.bA.rs (r:M.bA):List RC:=[.own 396 4 (List.map M.kI.en r.Locks)]
def M.Machine.rs (r:M.Machine):List RC:=[.own 406 4 (List.map M.Instr.en r.Script),.ro (.int .i64 r.Pc),.own 3 1 (List.map enI r.Regs),.ro (.int .i64 r.Steps),.ro (.bool r.Done),.ro (.bool r.Wait)]
def M.pC.rs (r:M.pC):List RC:=[.ro (.int .i64 r.To),.ro (.int .i64 r.From),.ro (.int .i64 r.N)]
def M.Op.rs (r:M.Op):List RC:=[.ro (.int .i64 r.Kind),.ro (.str r.aC),.ro (.int .i64 r.Key.Kind),.ro (.int .i64 r.Key.N),.ro (.str r.Key.Text),.own 267 2 (List.map M.Field.en r.aA.Fields),.ro (.str r.Field)]
def M.bH.rs (r:M.bH):List RC:=[.ro (.int .i64 r.Device),.ro (.int .i64 r.Next),.own 359 7 (List.map M.bM.en r.Writes)]
def M.gX.rs (r:M.gX):List RC:=[.ro (.int .i64 r.Id),.ro (.str r.Site),.ro (.str r.Top),.ro (.int .i64 r.Version),.own 276 2 (List.map M.aT.en r.aT),.own 406 4 (List.map M.Instr.en r.Machine.Script),.ro (.int .i64 r.Machine.Pc),.own 3 1 (List.map enI r.Machine.Regs),.ro (.int .i64 r.Machine.Steps),.ro (.bool r.Machine.Done),.ro (.bool r.Machine.Wait)]
def M.aA.ra (r:M.aA):List RC:=[.any (.sl (List.map M.Field.en r.Fields))]
def M.aA.rs (r:M.aA):List RC:=[.own 267 2 (List.map M.Field.en r.Fields)]
def M.Registration.rs (r:M.Registration):List RC:=[.ro (.str r.Site),.ro (.int .i64 r.Installing),.ro (.int .i64 r.Waiting),.ro (.int .i64 r.Active)]
def M.aK.rs (r:M.aK):List RC:=[.ro (.str r.Base.Name),.own 227 4 (List.map M.Item.en r.Base.Items),.ro (.int .i64 r.Base.Auto),.ro (.int .i64 r.Seen),.ro (.int .i64 r.Sync.bH.Device),.ro (.int .i64 r.Sync.bH.Next),.own 359 7 (List.map M.bM.en r.Sync.bH.Writes),.ro (.int .i64 r.Sync.Tries),.ro (.int .i64 r.Sync.WaitUntil)]
def M.Response.rs (r:M.Response):List RC:=[.ro (.int .i64 r.Type_),.ro (.int .i64 r.Status),.ro (.int .i64 r.Version),.own 5 1 (List.map enB r.Body),.ro (.bool r.Shares)]
def M.Server.rs (r:M.Server):List RC:=[.ro (.str r.aC.Name),.own 227 4 (List.map M.Item.en r.aC.Items),.ro (.int .i64 r.aC.Auto),.own 431 2 (List.map M.aO.en r.aO),.own 359 7 (List.map M.bM.en r.Changes)]
def M.Site.rs (r:M.Site):List RC:=[.ro (.str r.Name),.ro (.int .i64 r.Version),.own 9 1 (List.map enS r.Files),.ro (.bool r.Shared)]
def M.aM.rs (r:M.aM):List RC:=[.own 46 24 (List.map M.Bucket.en r.Buckets)]
def M.aC.ra (r:M.aC):List RC:=[.ro (.str r.Name),.any (.sl (List.map M.Item.en r.Items)),.ro (.int .i64 r.Auto)]
def M.aC.rs (r:M.aC):List RC:=[.ro (.str r.Name),.own 227 4 (List.map M.Item.en r.Items),.ro (.int .i64 r.Auto)]
def M.Sync.rs (r:M.Sync):List RC:=[.ro (.int .i64 r.bH.Device),.ro (.int .i64 r.bH.Next),.own 359 7 (List.map M.bM.en r.bH.Writes),.ro (.int .i64 r.Tries),.ro (.int .i64 r.WaitUntil)]
def M.World.rs (r:M.World):List RC:=[.ro (.int .i64 r.Now),.ro (.bool r.Online),.ro (.int .i64 r.Device),.own 46 24 (List.map M.Bucket.en r.aM.Buckets),.own 103 11 (List.map M.gX.en r.Pages),.ro (.int .i64 r.NextPage),.own 396 4 (List.map M.kI.en r.Locks.Locks),.own 399 3 (List.map M.pC.en r.Channel.Mails),.own 180 4 (List.map M.Site.en r.Sites),.own 274 5 (List.map M.Server.en r.Servers)]
def M.bM.rs (r:M.bM):List RC:=[.ro (.int .i64 r.Device),.ro (.int .i64 r.Seq),.ro (.int .i64 r.Key.Kind),.ro (.int .i64 r.Key.N),.ro (.str r.Key.Text),.ro (.str r.Field),.ro (.int .i64 r.N)]
def aJh:aBJ:=oB 32 [cS (⟨#[]⟩:ByteArray),cI 0,.nil,.nil]
def aNU:aBJ:=oB 332 [cI 0,cS (⟨#[]⟩:ByteArray),cI 0,cI 0,cS (⟨#[]⟩:ByteArray),.nil,cS (⟨#[]⟩:ByteArray)]
def aIA:aBJ:=oB 413 [.nil,.nil,.nil,.nil]
def aQ7:=PLift.up (qI ti3 (qI ti4 (qI ti5 (qI ti9 (qI aFa (qI aR6 (qI aRw (qI aRq (qI aR2 (qI aR3 (qI aRy (qI aR0 (qI aHY (qI aGV (qI aR8 (qI aRt (qI aRx (qI aRp (qI aR9 (qI aRm (qI aRd (qI aRv (qI aRU (qI aRr (qI aRc (qI aRk (qI aRe (qI aRW (qI aRQ (qI aRS (qI aR4 (qI aRz (qI aRR (qI aRV (qI aRn (qI aRX (qI aRZ (qI aR7 (qI aRj (qI aRo (qI aR5 (qI aRT (qI aRl (qI aRa (qI aRs (qI aRi (qI aMV (qI aMm (qI aNe (qI aLg (qI aNl (qI aN6 (qI aMb (qI aN4 (qI aN7 (qI aMs (qI aK9 (qI aDs (qI aNx (qI aNb (qI aMl (qI aNM (qI aNZ (qI aNp (qI aMW (qI aNS (qI aNR (qI aNv (qI aMX (qI aNz (qI aNo (qI aMg (qI aEO (qI aMu (qI aND (qI aNu (qI aNN (qI aNk (qI aMS (qI aNt (qI aNC (qI aNO (qI aN8 (qI aNE (qI aM9 (qI aM1 (qI aM0 (qI aM8 (qI aMw (qI aMo (qI aN3 (qI aAl (qI aMd (qI aNs (qI aM4 (qI aNB (qI aMc (qI aMh (qI aNL (qI aNh (qI aNi (qI aNQ (qI aNd (qI aNq (qI aMi aMz)))))))))))))))))))))))))))))))))))))))))))))))))))))))))))))))))))))))))))))))))))))))))))))))))))))))))
theorem TB:type_of% aQ7.down:=aQ7.down
def aP5:=PLift.up (qI @enI.eq_1 (qI @enB.eq_1 (qI @enS.eq_1 (qI @enT.eq_1 (qI @enL.eq_1 (qI @enI.fl (qI @enB.fl (qI @enS.fl (qI @enT.fl (qI @aJZ (qI @aBW (qI @aAg (qI @aI.eq_1 (qI @aB.eq_1 (qI @aS.eq_1 (qI @aL.eq_1 (qI @aX.eq_1 (qI @cI.eq_1 (qI @cB.eq_1 (qI @cS.eq_1 (qI @cL.eq_1 (qI @vI.eq_1 (qI @vB.eq_1 (qI @vS.eq_1 (qI @vL.eq_1 (qI @vR.eq_1 (qI @vP.eq_1 (qI @oX.eq_1 (qI @oB.eq_1 (qI @oW.eq_1 (qI @rI.eq_1 (qI @rB.eq_1 (qI @rS.eq_1 (qI @rW.eq_1 (qI @M.aO.rs.eq_1 (qI @M.Bucket.ra.eq_1 (qI @M.Bucket.rs.eq_1 (qI @M.Cache.rs.eq_1 (qI @M.bF.rs.eq_1 (qI @M.Cached.rs.eq_1 (qI @M.Channel.rs.eq_1 (qI @M.Database.ra.eq_1 (qI @M.Database.rs.eq_1 (qI @M.fQ.rs.eq_1 (qI @M.Field.rs.eq_1 (qI @M.aE.rs.eq_1 (qI @M.Instr.rs.eq_1 (qI @M.Item.rs.eq_1 (qI @M.Key.rs.eq_1 (qI @M.aT.rs.eq_1 (qI @M.kI.rs.eq_1 (qI @M.bA.rs.eq_1 (qI @M.Machine.rs.eq_1 (qI @M.pC.rs.eq_1 (qI @M.Op.rs.eq_1 (qI @M.bH.rs.eq_1 (qI @M.gX.rs.eq_1 (qI @M.aA.ra.eq_1 (qI @M.aA.rs.eq_1 (qI @M.Registration.rs.eq_1 (qI @M.aK.rs.eq_1 (qI @M.Response.rs.eq_1 (qI @M.Server.rs.eq_1 (qI @M.Site.rs.eq_1 (qI @M.aM.rs.eq_1 (qI @M.aC.ra.eq_1 (qI @M.aC.rs.eq_1 (qI @M.Sync.rs.eq_1 (qI @M.World.rs.eq_1 (qI @M.bM.rs.eq_1 (qI @aJh.eq_1 (qI @aNU.eq_1 (qI @aIA.eq_1 (qI @M.Registration.en.eq_1 (qI @M.Registration.en.fl (qI @M.Response.en.eq_1 (qI @M.Cached.en.eq_1 (qI @M.Cache.en.eq_1 (qI @M.bF.en.eq_1 (qI @M.Key.en.eq_1 (qI @M.Key.en.fl (qI @M.Field.en.eq_1 (qI @M.Field.en.fl (qI @M.aA.en.eq_1 (qI @M.Item.en.eq_1 (qI @M.aC.en.eq_1 (qI @M.aE.en.eq_1 (qI @M.aE.en.fl (qI @M.Database.en.eq_1 (qI @M.fQ.en.eq_1 (qI @M.bM.en.eq_1 (qI @M.bM.en.fl (qI @M.bH.en.eq_1 (qI @M.Sync.en.eq_1 (qI @M.aK.en.eq_1 (qI @M.Bucket.en.eq_1 (qI @M.aM.en.eq_1 (qI @M.aT.en.eq_1 (qI @M.aT.en.fl (qI @M.Instr.en.eq_1 (qI @M.Instr.en.fl (qI @M.Machine.en.eq_1 (qI @M.gX.en.eq_1 (qI @M.kI.en.eq_1 (qI @M.kI.en.fl (qI @M.bA.en.eq_1 (qI @M.pC.en.eq_1 (qI @M.pC.en.fl (qI @M.Channel.en.eq_1 (qI @M.Site.en.eq_1 (qI @M.aO.en.eq_1 (qI @M.aO.en.fl (qI @M.Server.en.eq_1 (qI @M.World.en.eq_1 (qI @M.Op.en.eq_1 (qI @M.bU.en.eq_1 @M.bU.en.fl))))))))))))))))))))))))))))))))))))))))))))))))))))))))))))))))))))))))))))))))))))))))))))))))))))))))))))))))))))
theorem EN:type_of% aP5.down:=aP5.down
end Go.Proofs.YtidhkhdnjonjfaaGreat.gen
