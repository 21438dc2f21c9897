/-
  Helper text. No conditions.
-/
import Derived.Test.YtjlnkcoeghonfaaGreatRunPageMod
import Derived.Test.YtjlnkcoeghonfaaGreatProg
import Derived.KernelRfl
set_option linter.all false
namespace Go.Proofs.YtjlnkcoeghonfaaGreat.gen
open Go Go.Sh
theorem mixed:Tryz.prog.follows .mixedOrders=true:=by kernel_rfl
theorem ti3:dJ Tryz.prog 3=some { k:=.int .i64,size:=1,bytes:=8,zero:=[.dat (.int .i64 0)] }:=by kernel_rfl
theorem ti4:dJ Tryz.prog 4=some { k:=.bool,size:=1,bytes:=1,zero:=[.dat (.bool false)] }:=by kernel_rfl
theorem ti5:dJ Tryz.prog 5=some { k:=.int .u8,size:=1,bytes:=1,zero:=[.dat (.int .u8 0)] }:=by kernel_rfl
theorem ti9:dJ Tryz.prog 9=some { k:=.str,size:=1,bytes:=16,zero:=[.dat (.str ⟨#[]⟩)] }:=by kernel_rfl
theorem aIw:dJ Tryz.prog 22=some { k:=.slice 302,size:=1,bytes:=24,zero:=[.nil],sl:=[some (302,24)] }:=by kernel_rfl
theorem aIk:dJ Tryz.prog 24=some { k:=.struct [(0,1,false)],size:=1,bytes:=24,zero:=[.nil],sl:=[some (302,24)] }:=by kernel_rfl
theorem aJd:dJ Tryz.prog 25=some { k:=.slice 176,size:=1,bytes:=24,zero:=[.nil],sl:=[some (176,11)] }:=by kernel_rfl
theorem aJM:dJ Tryz.prog 26=some { k:=.slice 306,size:=1,bytes:=24,zero:=[.nil],sl:=[some (306,4)] }:=by kernel_rfl
theorem aI7:dJ Tryz.prog 28=some { k:=.struct [(0,1,false)],size:=1,bytes:=24,zero:=[.nil],sl:=[some (306,4)] }:=by kernel_rfl
theorem aJS:dJ Tryz.prog 29=some { k:=.slice 343,size:=1,bytes:=24,zero:=[.nil],sl:=[some (343,3)] }:=by kernel_rfl
theorem aIy:dJ Tryz.prog 31=some { k:=.struct [(0,1,false)],size:=1,bytes:=24,zero:=[.nil],sl:=[some (343,3)] }:=by kernel_rfl
theorem aJN:dJ Tryz.prog 32=some { k:=.slice 180,size:=1,bytes:=24,zero:=[.nil],sl:=[some (180,4)] }:=by kernel_rfl
theorem aJG:dJ Tryz.prog 33=some { k:=.slice 188,size:=1,bytes:=24,zero:=[.nil],sl:=[some (188,5)] }:=by kernel_rfl
theorem aI8:dJ Tryz.prog 35=some { k:=.struct [(0,1,false),(1,1,false),(2,1,false),(3,1,true),(4,1,false),(5,1,false),(6,1,true),(7,1,true),(8,1,false),(9,1,false)],size:=10,bytes:=176,zero:=[.dat (.int .i64 0),.dat (.bool false),.dat (.int .i64 0),.nil,.nil,.dat (.int .i64 0),.nil,.nil,.nil,.nil],sl:=[none,none,none,some (302,24),some (176,11),none,some (306,4),some (343,3),some (180,4),some (188,5)] }:=by kernel_rfl
theorem aIl:dJ Tryz.prog 37=some { k:=.slice 84,size:=1,bytes:=24,zero:=[.nil],sl:=[some (84,24)] }:=by kernel_rfl
theorem aJa:dJ Tryz.prog 39=some { k:=.struct [(0,1,false)],size:=1,bytes:=24,zero:=[.nil],sl:=[some (84,24)] }:=by kernel_rfl
theorem aJJ:dJ Tryz.prog 40=some { k:=.slice 91,size:=1,bytes:=24,zero:=[.nil],sl:=[some (91,11)] }:=by kernel_rfl
theorem aJV:dJ Tryz.prog 41=some { k:=.slice 144,size:=1,bytes:=24,zero:=[.nil],sl:=[some (144,4)] }:=by kernel_rfl
theorem aJO:dJ Tryz.prog 43=some { k:=.struct [(0,1,false)],size:=1,bytes:=24,zero:=[.nil],sl:=[some (144,4)] }:=by kernel_rfl
theorem aI4:dJ Tryz.prog 44=some { k:=.slice 147,size:=1,bytes:=24,zero:=[.nil],sl:=[some (147,3)] }:=by kernel_rfl
theorem aJg:dJ Tryz.prog 46=some { k:=.struct [(0,1,false)],size:=1,bytes:=24,zero:=[.nil],sl:=[some (147,3)] }:=by kernel_rfl
theorem aIz:dJ Tryz.prog 47=some { k:=.slice 151,size:=1,bytes:=24,zero:=[.nil],sl:=[some (151,4)] }:=by kernel_rfl
theorem aIe:dJ Tryz.prog 48=some { k:=.slice 156,size:=1,bytes:=24,zero:=[.nil],sl:=[some (156,5)] }:=by kernel_rfl
theorem aIc:dJ Tryz.prog 50=some { k:=.struct [(0,1,false),(1,1,false),(2,1,false),(3,1,true),(4,1,false),(5,1,false),(6,1,true),(7,1,true),(8,1,false),(9,1,false)],size:=10,bytes:=176,zero:=[.dat (.int .i64 0),.dat (.bool false),.dat (.int .i64 0),.nil,.nil,.dat (.int .i64 0),.nil,.nil,.nil,.nil],sl:=[none,none,none,some (84,24),some (91,11),none,some (144,4),some (147,3),some (151,4),some (156,5)] }:=by kernel_rfl
theorem Rv:dJ Tryz.prog 58=some { k:=.slice 5,size:=1,bytes:=24,zero:=[.nil],sl:=[some (5,1)] }:=by kernel_rfl
theorem aIX:dJ Tryz.prog 63=some { k:=.struct [(0,1,false),(1,1,false),(2,1,false),(3,1,false)],size:=4,bytes:=40,zero:=[.dat (.str ⟨#[]⟩),.dat (.int .i64 0),.dat (.int .i64 0),.dat (.int .i64 0)],cmp:=[.str,.int,.int,.int] }:=by kernel_rfl
theorem aIb:dJ Tryz.prog 64=some { k:=.slice 277,size:=1,bytes:=24,zero:=[.nil],sl:=[some (277,2)] }:=by kernel_rfl
theorem aIs:dJ Tryz.prog 66=some { k:=.struct [(0,1,false)],size:=1,bytes:=24,zero:=[.nil],sl:=[some (277,2)] }:=by kernel_rfl
theorem aIt:dJ Tryz.prog 67=some { k:=.slice 75,size:=1,bytes:=24,zero:=[.nil],sl:=[some (75,3)] }:=by kernel_rfl
theorem aI1:dJ Tryz.prog 68=some { k:=.slice 382,size:=1,bytes:=24,zero:=[.nil],sl:=[some (382,2)] }:=by kernel_rfl
theorem aId:dJ Tryz.prog 70=some { k:=.struct [(0,1,false),(1,1,false),(2,1,false),(3,1,false)],size:=4,bytes:=72,zero:=[.dat (.str ⟨#[]⟩),.dat (.int .i64 0),.nil,.nil],sl:=[none,none,some (75,3),some (382,2)] }:=by kernel_rfl
theorem aIU:dJ Tryz.prog 72=some { k:=.struct [(0,4,true),(4,1,false),(5,1,false)],size:=6,bytes:=104,zero:=[.dat (.str ⟨#[]⟩),.dat (.int .i64 0),.nil,.nil,.nil,.dat (.int .i64 0)],sl:=[none,none,some (75,3),some (382,2),some (5,1),none] }:=by kernel_rfl
theorem S5:dJ Tryz.prog 73=some { k:=.slice 320,size:=1,bytes:=24,zero:=[.nil],sl:=[some (320,4)] }:=by kernel_rfl
theorem SF:dJ Tryz.prog 75=some { k:=.struct [(0,1,false),(1,1,false),(2,1,false)],size:=3,bytes:=48,zero:=[.dat (.str ⟨#[]⟩),.nil,.dat (.int .i64 0)],sl:=[none,some (320,4),none] }:=by kernel_rfl
theorem aI6:dJ Tryz.prog 76=some { k:=.slice 269,size:=1,bytes:=24,zero:=[.nil],sl:=[some (269,7)] }:=by kernel_rfl
theorem aIh:dJ Tryz.prog 78=some { k:=.struct [(0,1,false),(1,1,false),(2,1,false)],size:=3,bytes:=40,zero:=[.dat (.int .i64 0),.dat (.int .i64 0),.nil],sl:=[none,none,some (269,7)] }:=by kernel_rfl
theorem aJE:dJ Tryz.prog 80=some { k:=.struct [(0,3,true),(3,1,false),(4,1,false)],size:=5,bytes:=56,zero:=[.dat (.int .i64 0),.dat (.int .i64 0),.nil,.dat (.int .i64 0),.dat (.int .i64 0)],sl:=[none,none,some (269,7),none,none] }:=by kernel_rfl
theorem aJH:dJ Tryz.prog 82=some { k:=.struct [(0,3,true),(3,1,false),(4,5,true)],size:=9,bytes:=112,zero:=[.dat (.str ⟨#[]⟩),.nil,.dat (.int .i64 0),.dat (.int .i64 0),.dat (.int .i64 0),.dat (.int .i64 0),.nil,.dat (.int .i64 0),.dat (.int .i64 0)],sl:=[none,some (320,4),none,none,none,none,some (269,7),none,none] }:=by kernel_rfl
theorem Me:dJ Tryz.prog 84=some { k:=.struct [(0,1,false),(1,1,false),(2,4,true),(6,1,true),(7,6,true),(13,9,true),(22,1,false),(23,1,false)],size:=24,bytes:=328,zero:=[.dat (.str ⟨#[]⟩),.dat (.str ⟨#[]⟩),.dat (.str ⟨#[]⟩),.dat (.int .i64 0),.dat (.int .i64 0),.dat (.int .i64 0),.nil,.dat (.str ⟨#[]⟩),.dat (.int .i64 0),.nil,.nil,.nil,.dat (.int .i64 0),.dat (.str ⟨#[]⟩),.nil,.dat (.int .i64 0),.dat (.int .i64 0),.dat (.int .i64 0),.dat (.int .i64 0),.nil,.dat (.int .i64 0),.dat (.int .i64 0),.dat (.int .i64 0),.dat (.bool false)],sl:=[none,none,none,none,none,none,some (277,2),none,none,some (75,3),some (382,2),some (5,1),none,none,some (320,4),none,none,none,none,some (269,7),none,none,none,none] }:=by kernel_rfl
theorem aIf:dJ Tryz.prog 85=some { k:=.slice 204,size:=1,bytes:=24,zero:=[.nil],sl:=[some (204,2)] }:=by kernel_rfl
theorem aIo:dJ Tryz.prog 86=some { k:=.slice 197,size:=1,bytes:=24,zero:=[.nil],sl:=[some (197,4)] }:=by kernel_rfl
theorem aJf:dJ Tryz.prog 87=some { k:=.slice 3,size:=1,bytes:=24,zero:=[.nil],sl:=[some (3,1)] }:=by kernel_rfl
theorem aI0:dJ Tryz.prog 89=some { k:=.struct [(0,1,false),(1,1,false),(2,1,false),(3,1,false),(4,1,false),(5,1,false)],size:=6,bytes:=72,zero:=[.nil,.dat (.int .i64 0),.nil,.dat (.int .i64 0),.dat (.bool false),.dat (.bool false)],sl:=[some (197,4),none,some (3,1),none,none,none] }:=by kernel_rfl
theorem aIW:dJ Tryz.prog 91=some { k:=.struct [(0,1,false),(1,1,false),(2,1,false),(3,1,false),(4,1,false),(5,6,true)],size:=11,bytes:=144,zero:=[.dat (.int .i64 0),.dat (.str ⟨#[]⟩),.dat (.str ⟨#[]⟩),.dat (.int .i64 0),.nil,.nil,.dat (.int .i64 0),.nil,.dat (.int .i64 0),.dat (.bool false),.dat (.bool false)],sl:=[none,none,none,none,some (204,2),some (197,4),none,some (3,1),none,none,none] }:=by kernel_rfl
theorem aCN:dJ Tryz.prog 102=some { k:=.struct [(0,1,false),(1,1,false),(2,1,false),(3,1,false),(4,1,false)],size:=5,bytes:=48,zero:=[.dat (.int .i64 0),.dat (.int .i64 0),.dat (.int .i64 0),.dat (.str ⟨#[]⟩),.dat (.int .i64 0)],cmp:=[.int,.int,.int,.str,.int] }:=by kernel_rfl
theorem aCj:dJ Tryz.prog 107=some { k:=.struct [(0,1,false),(1,1,false),(2,1,false),(3,1,false),(4,1,false)],size:=5,bytes:=56,zero:=[.dat (.int .i64 0),.dat (.int .i64 0),.dat (.int .i64 0),.nil,.dat (.bool false)],sl:=[none,none,none,some (5,1),none] }:=by kernel_rfl
theorem aB3:dJ Tryz.prog 144=some { k:=.struct [(0,1,false),(1,1,false),(2,1,false),(3,1,false)],size:=4,bytes:=32,zero:=[.dat (.str ⟨#[]⟩),.dat (.int .i64 0),.dat (.bool false),.dat (.bool false)],cmp:=[.str,.int,.bool,.bool] }:=by kernel_rfl
theorem aBQ:dJ Tryz.prog 147=some { k:=.struct [(0,1,false),(1,1,false),(2,1,false)],size:=3,bytes:=24,zero:=[.dat (.int .i64 0),.dat (.int .i64 0),.dat (.int .i64 0)],cmp:=[.int,.int,.int] }:=by kernel_rfl
theorem aBP:dJ Tryz.prog 149=some { k:=.slice 9,size:=1,bytes:=24,zero:=[.nil],sl:=[some (9,1)] }:=by kernel_rfl
theorem aBz:dJ Tryz.prog 151=some { k:=.struct [(0,1,false),(1,1,false),(2,1,false),(3,1,false)],size:=4,bytes:=56,zero:=[.dat (.str ⟨#[]⟩),.dat (.int .i64 0),.nil,.dat (.bool false)],sl:=[none,none,some (9,1),none] }:=by kernel_rfl
theorem aBM:dJ Tryz.prog 154=some { k:=.slice 266,size:=1,bytes:=24,zero:=[.nil],sl:=[some (266,2)] }:=by kernel_rfl
theorem aBS:dJ Tryz.prog 156=some { k:=.struct [(0,3,true),(3,1,false),(4,1,false)],size:=5,bytes:=96,zero:=[.dat (.str ⟨#[]⟩),.nil,.dat (.int .i64 0),.nil,.nil],sl:=[none,some (320,4),none,some (266,2),some (269,7)] }:=by kernel_rfl
theorem aCa:dJ Tryz.prog 171=some { k:=.slice 390,size:=1,bytes:=24,zero:=[.nil],sl:=[some (390,2)] }:=by kernel_rfl
theorem aB7:dJ Tryz.prog 172=some { k:=.slice 477,size:=1,bytes:=24,zero:=[.nil],sl:=[some (477,4)] }:=by kernel_rfl
theorem aBv:dJ Tryz.prog 174=some { k:=.struct [(0,1,false),(1,1,false),(2,1,false),(3,1,false),(4,1,false),(5,1,false)],size:=6,bytes:=72,zero:=[.nil,.dat (.int .i64 0),.nil,.dat (.int .i64 0),.dat (.bool false),.dat (.bool false)],sl:=[some (477,4),none,some (3,1),none,none,none] }:=by kernel_rfl
theorem aBd:dJ Tryz.prog 176=some { k:=.struct [(0,1,false),(1,1,false),(2,1,false),(3,1,false),(4,1,false),(5,6,true)],size:=11,bytes:=144,zero:=[.dat (.int .i64 0),.dat (.str ⟨#[]⟩),.dat (.str ⟨#[]⟩),.dat (.int .i64 0),.nil,.nil,.dat (.int .i64 0),.nil,.dat (.int .i64 0),.dat (.bool false),.dat (.bool false)],sl:=[none,none,none,none,some (390,2),some (477,4),none,some (3,1),none,none,none] }:=by kernel_rfl
theorem aCq:dJ Tryz.prog 180=some { k:=.struct [(0,1,false),(1,1,false),(2,1,false),(3,1,false)],size:=4,bytes:=56,zero:=[.dat (.str ⟨#[]⟩),.dat (.int .i64 0),.nil,.dat (.bool false)],sl:=[none,none,some (9,1),none] }:=by kernel_rfl
theorem aCC:dJ Tryz.prog 182=some { k:=.slice 483,size:=1,bytes:=24,zero:=[.nil],sl:=[some (483,4)] }:=by kernel_rfl
theorem aCG:dJ Tryz.prog 184=some { k:=.struct [(0,1,false),(1,1,false),(2,1,false)],size:=3,bytes:=48,zero:=[.dat (.str ⟨#[]⟩),.nil,.dat (.int .i64 0)],sl:=[none,some (483,4),none] }:=by kernel_rfl
theorem aCV:dJ Tryz.prog 185=some { k:=.slice 427,size:=1,bytes:=24,zero:=[.nil],sl:=[some (427,2)] }:=by kernel_rfl
theorem aCr:dJ Tryz.prog 186=some { k:=.slice 396,size:=1,bytes:=24,zero:=[.nil],sl:=[some (396,7)] }:=by kernel_rfl
theorem aBs:dJ Tryz.prog 188=some { k:=.struct [(0,3,true),(3,1,false),(4,1,false)],size:=5,bytes:=96,zero:=[.dat (.str ⟨#[]⟩),.nil,.dat (.int .i64 0),.nil,.nil],sl:=[none,some (483,4),none,some (427,2),some (396,7)] }:=by kernel_rfl
theorem aBt:dJ Tryz.prog 197=some { k:=.struct [(0,1,false),(1,1,false),(2,1,false),(3,1,false)],size:=4,bytes:=40,zero:=[.dat (.int .i64 0),.dat (.int .i64 0),.dat (.int .i64 0),.dat (.str ⟨#[]⟩)],cmp:=[.int,.int,.int,.str] }:=by kernel_rfl
theorem aBE:dJ Tryz.prog 204=some { k:=.struct [(0,1,false),(1,1,false)],size:=2,bytes:=24,zero:=[.dat (.str ⟨#[]⟩),.dat (.int .i64 0)],cmp:=[.str,.int] }:=by kernel_rfl
theorem aBY:dJ Tryz.prog 205=some { k:=.slice 322,size:=1,bytes:=24,zero:=[.nil],sl:=[some (322,2)] }:=by kernel_rfl
theorem ZB:dJ Tryz.prog 207=some { k:=.struct [(0,1,false)],size:=1,bytes:=24,zero:=[.nil],sl:=[some (322,2)] }:=by kernel_rfl
theorem ZL:dJ Tryz.prog 216=some { k:=.struct [(0,1,false),(1,1,false),(2,1,false)],size:=3,bytes:=32,zero:=[.dat (.int .i64 0),.dat (.int .i64 0),.dat (.str ⟨#[]⟩)],cmp:=[.int,.int,.str] }:=by kernel_rfl
theorem Qr:dJ Tryz.prog 219=some { k:=.struct [(0,1,false),(1,1,false),(2,3,true),(5,1,true),(6,1,false)],size:=7,bytes:=96,zero:=[.dat (.int .i64 0),.dat (.str ⟨#[]⟩),.dat (.int .i64 0),.dat (.int .i64 0),.dat (.str ⟨#[]⟩),.nil,.dat (.str ⟨#[]⟩)],sl:=[none,none,none,none,none,some (322,2),none] }:=by kernel_rfl
theorem aBm:dJ Tryz.prog 220=some { k:=.slice 219,size:=1,bytes:=24,zero:=[.nil],sl:=[some (219,7)] }:=by kernel_rfl
theorem aBF:dJ Tryz.prog 266=some { k:=.struct [(0,1,false),(1,1,false)],size:=2,bytes:=16,zero:=[.dat (.int .i64 0),.dat (.int .i64 0)],cmp:=[.int,.int] }:=by kernel_rfl
theorem aCk:dJ Tryz.prog 269=some { k:=.struct [(0,1,false),(1,1,false),(2,3,true),(5,1,false),(6,1,false)],size:=7,bytes:=72,zero:=[.dat (.int .i64 0),.dat (.int .i64 0),.dat (.int .i64 0),.dat (.int .i64 0),.dat (.str ⟨#[]⟩),.dat (.str ⟨#[]⟩),.dat (.int .i64 0)],cmp:=[.int,.int,.int,.int,.str,.str,.int] }:=by kernel_rfl
theorem aCD:dJ Tryz.prog 275=some { k:=.slice 279,size:=1,bytes:=24,zero:=[.nil],sl:=[some (279,7)] }:=by kernel_rfl
theorem aBJ:dJ Tryz.prog 277=some { k:=.struct [(0,1,false),(1,1,false)],size:=2,bytes:=32,zero:=[.dat (.int .i64 0),.nil],sl:=[none,some (279,7)] }:=by kernel_rfl
theorem aBN:dJ Tryz.prog 279=some { k:=.struct [(0,1,false),(1,1,false),(2,5,true)],size:=7,bytes:=88,zero:=[.dat (.str ⟨#[]⟩),.dat (.str ⟨#[]⟩),.dat (.int .i64 0),.dat (.int .i64 0),.dat (.int .i64 0),.nil,.dat (.bool false)],sl:=[none,none,none,none,none,some (5,1),none] }:=by kernel_rfl
theorem aBi:dJ Tryz.prog 285=some { k:=.struct [(0,1,false),(1,1,false),(2,1,false),(3,1,false)],size:=4,bytes:=40,zero:=[.dat (.str ⟨#[]⟩),.dat (.int .i64 0),.dat (.int .i64 0),.dat (.int .i64 0)],cmp:=[.str,.int,.int,.int] }:=by kernel_rfl
theorem aCX:dJ Tryz.prog 286=some { k:=.slice 542,size:=1,bytes:=24,zero:=[.nil],sl:=[some (542,2)] }:=by kernel_rfl
theorem aBb:dJ Tryz.prog 288=some { k:=.struct [(0,1,false)],size:=1,bytes:=24,zero:=[.nil],sl:=[some (542,2)] }:=by kernel_rfl
theorem aBG:dJ Tryz.prog 289=some { k:=.slice 184,size:=1,bytes:=24,zero:=[.nil],sl:=[some (184,3)] }:=by kernel_rfl
theorem aCh:dJ Tryz.prog 290=some { k:=.slice 573,size:=1,bytes:=24,zero:=[.nil],sl:=[some (573,2)] }:=by kernel_rfl
theorem aCb:dJ Tryz.prog 292=some { k:=.struct [(0,1,false),(1,1,false),(2,1,false),(3,1,false)],size:=4,bytes:=72,zero:=[.dat (.str ⟨#[]⟩),.dat (.int .i64 0),.nil,.nil],sl:=[none,none,some (184,3),some (573,2)] }:=by kernel_rfl
theorem aB0:dJ Tryz.prog 294=some { k:=.struct [(0,4,true),(4,1,false),(5,1,false)],size:=6,bytes:=104,zero:=[.dat (.str ⟨#[]⟩),.dat (.int .i64 0),.nil,.nil,.nil,.dat (.int .i64 0)],sl:=[none,none,some (184,3),some (573,2),some (5,1),none] }:=by kernel_rfl
theorem aBW:dJ Tryz.prog 296=some { k:=.struct [(0,1,false),(1,1,false),(2,1,false)],size:=3,bytes:=40,zero:=[.dat (.int .i64 0),.dat (.int .i64 0),.nil],sl:=[none,none,some (396,7)] }:=by kernel_rfl
theorem aBR:dJ Tryz.prog 298=some { k:=.struct [(0,3,true),(3,1,false),(4,1,false)],size:=5,bytes:=56,zero:=[.dat (.int .i64 0),.dat (.int .i64 0),.nil,.dat (.int .i64 0),.dat (.int .i64 0)],sl:=[none,none,some (396,7),none,none] }:=by kernel_rfl
theorem aBZ:dJ Tryz.prog 300=some { k:=.struct [(0,3,true),(3,1,false),(4,5,true)],size:=9,bytes:=112,zero:=[.dat (.str ⟨#[]⟩),.nil,.dat (.int .i64 0),.dat (.int .i64 0),.dat (.int .i64 0),.dat (.int .i64 0),.nil,.dat (.int .i64 0),.dat (.int .i64 0)],sl:=[none,some (483,4),none,none,none,none,some (396,7),none,none] }:=by kernel_rfl
theorem aB4:dJ Tryz.prog 302=some { k:=.struct [(0,1,false),(1,1,false),(2,4,true),(6,1,true),(7,6,true),(13,9,true),(22,1,false),(23,1,false)],size:=24,bytes:=328,zero:=[.dat (.str ⟨#[]⟩),.dat (.str ⟨#[]⟩),.dat (.str ⟨#[]⟩),.dat (.int .i64 0),.dat (.int .i64 0),.dat (.int .i64 0),.nil,.dat (.str ⟨#[]⟩),.dat (.int .i64 0),.nil,.nil,.nil,.dat (.int .i64 0),.dat (.str ⟨#[]⟩),.nil,.dat (.int .i64 0),.dat (.int .i64 0),.dat (.int .i64 0),.dat (.int .i64 0),.nil,.dat (.int .i64 0),.dat (.int .i64 0),.dat (.int .i64 0),.dat (.bool false)],sl:=[none,none,none,none,none,none,some (542,2),none,none,some (184,3),some (573,2),some (5,1),none,none,some (483,4),none,none,none,none,some (396,7),none,none,none,none] }:=by kernel_rfl
theorem aCF:dJ Tryz.prog 306=some { k:=.struct [(0,1,false),(1,1,false),(2,1,false),(3,1,false)],size:=4,bytes:=32,zero:=[.dat (.str ⟨#[]⟩),.dat (.int .i64 0),.dat (.bool false),.dat (.bool false)],cmp:=[.str,.int,.bool,.bool] }:=by kernel_rfl
theorem Ox:dJ Tryz.prog 320=some { k:=.struct [(0,3,true),(3,1,true)],size:=4,bytes:=56,zero:=[.dat (.int .i64 0),.dat (.int .i64 0),.dat (.str ⟨#[]⟩),.nil],sl:=[none,none,none,some (322,2)] }:=by kernel_rfl
theorem aB5:dJ Tryz.prog 322=some { k:=.struct [(0,1,false),(1,1,false)],size:=2,bytes:=24,zero:=[.dat (.str ⟨#[]⟩),.dat (.int .i64 0)],cmp:=[.str,.int] }:=by kernel_rfl
theorem aBn:dJ Tryz.prog 343=some { k:=.struct [(0,1,false),(1,1,false),(2,1,false)],size:=3,bytes:=24,zero:=[.dat (.int .i64 0),.dat (.int .i64 0),.dat (.int .i64 0)],cmp:=[.int,.int,.int] }:=by kernel_rfl
theorem aBg:dJ Tryz.prog 351=some { k:=.slice 58,size:=1,bytes:=24,zero:=[.nil],sl:=[some (58,1)] }:=by kernel_rfl
theorem aB1:dJ Tryz.prog 382=some { k:=.struct [(0,1,false),(1,1,false)],size:=2,bytes:=32,zero:=[.dat (.str ⟨#[]⟩),.dat (.str ⟨#[]⟩)],cmp:=[.str,.str] }:=by kernel_rfl
theorem aCA:dJ Tryz.prog 390=some { k:=.struct [(0,1,false),(1,1,false)],size:=2,bytes:=24,zero:=[.dat (.str ⟨#[]⟩),.dat (.int .i64 0)],cmp:=[.str,.int] }:=by kernel_rfl
theorem aBp:dJ Tryz.prog 394=some { k:=.struct [(0,1,false),(1,1,false),(2,1,false)],size:=3,bytes:=32,zero:=[.dat (.int .i64 0),.dat (.int .i64 0),.dat (.str ⟨#[]⟩)],cmp:=[.int,.int,.str] }:=by kernel_rfl
theorem aBy:dJ Tryz.prog 396=some { k:=.struct [(0,1,false),(1,1,false),(2,3,true),(5,1,false),(6,1,false)],size:=7,bytes:=72,zero:=[.dat (.int .i64 0),.dat (.int .i64 0),.dat (.int .i64 0),.dat (.int .i64 0),.dat (.str ⟨#[]⟩),.dat (.str ⟨#[]⟩),.dat (.int .i64 0)],cmp:=[.int,.int,.int,.int,.str,.str,.int] }:=by kernel_rfl
theorem aBH:dJ Tryz.prog 427=some { k:=.struct [(0,1,false),(1,1,false)],size:=2,bytes:=16,zero:=[.dat (.int .i64 0),.dat (.int .i64 0)],cmp:=[.int,.int] }:=by kernel_rfl
theorem IP:dJ Tryz.prog 434=some { k:=.arr 58 4,size:=4,bytes:=96,zero:=[.nil,.nil,.nil,.nil],sl:=[some (5,1),some (5,1),some (5,1),some (5,1)] }:=by kernel_rfl
theorem aCe:dJ Tryz.prog 477=some { k:=.struct [(0,1,false),(1,1,false),(2,1,false),(3,1,false)],size:=4,bytes:=40,zero:=[.dat (.int .i64 0),.dat (.int .i64 0),.dat (.int .i64 0),.dat (.str ⟨#[]⟩)],cmp:=[.int,.int,.int,.str] }:=by kernel_rfl
theorem aBq:dJ Tryz.prog 479=some { k:=.slice 601,size:=1,bytes:=24,zero:=[.nil],sl:=[some (601,2)] }:=by kernel_rfl
theorem aCI:dJ Tryz.prog 481=some { k:=.struct [(0,1,false)],size:=1,bytes:=24,zero:=[.nil],sl:=[some (601,2)] }:=by kernel_rfl
theorem aCJ:dJ Tryz.prog 483=some { k:=.struct [(0,3,true),(3,1,true)],size:=4,bytes:=56,zero:=[.dat (.int .i64 0),.dat (.int .i64 0),.dat (.str ⟨#[]⟩),.nil],sl:=[none,none,none,some (601,2)] }:=by kernel_rfl
theorem aCR:dJ Tryz.prog 540=some { k:=.slice 599,size:=1,bytes:=24,zero:=[.nil],sl:=[some (599,7)] }:=by kernel_rfl
theorem aCH:dJ Tryz.prog 542=some { k:=.struct [(0,1,false),(1,1,false)],size:=2,bytes:=32,zero:=[.dat (.int .i64 0),.nil],sl:=[none,some (599,7)] }:=by kernel_rfl
theorem aCT:dJ Tryz.prog 550=some { k:=.struct [(0,1,false),(1,1,false),(2,3,true),(5,3,true)],size:=8,bytes:=72,zero:=[.dat (.bool false),.dat (.bool false),.dat (.int .i64 0),.dat (.int .i64 0),.dat (.str ⟨#[]⟩),.dat (.int .i64 0),.dat (.int .i64 0),.dat (.str ⟨#[]⟩)],cmp:=[.bool,.bool,.int,.int,.str,.int,.int,.str] }:=by kernel_rfl
theorem aBa:dJ Tryz.prog 573=some { k:=.struct [(0,1,false),(1,1,false)],size:=2,bytes:=32,zero:=[.dat (.str ⟨#[]⟩),.dat (.str ⟨#[]⟩)],cmp:=[.str,.str] }:=by kernel_rfl
theorem aCp:dJ Tryz.prog 597=some { k:=.struct [(0,1,false),(1,1,false),(2,1,false),(3,1,false),(4,1,false)],size:=5,bytes:=56,zero:=[.dat (.int .i64 0),.dat (.int .i64 0),.dat (.int .i64 0),.nil,.dat (.bool false)],sl:=[none,none,none,some (5,1),none] }:=by kernel_rfl
theorem aCd:dJ Tryz.prog 599=some { k:=.struct [(0,1,false),(1,1,false),(2,5,true)],size:=7,bytes:=88,zero:=[.dat (.str ⟨#[]⟩),.dat (.str ⟨#[]⟩),.dat (.int .i64 0),.dat (.int .i64 0),.dat (.int .i64 0),.nil,.dat (.bool false)],sl:=[none,none,none,none,none,some (5,1),none] }:=by kernel_rfl
theorem aCP:dJ Tryz.prog 601=some { k:=.struct [(0,1,false),(1,1,false)],size:=2,bytes:=24,zero:=[.dat (.str ⟨#[]⟩),.dat (.int .i64 0)],cmp:=[.str,.int] }:=by kernel_rfl
abbrev Sc:=pH Tryz.prog
def M.aK.rs(r:M.aK):List RC:=[.ro (.int .i64 r.aJy),.ro (.int .i64 r.Seq)]
def M.Ask.rs(r:M.Ask):List RC:=[.ro (.int .i64 r.aJz),.ro (.int .i64 r.R),.ro (.int .i64 r.N),.ro (.str r.aKA),.ro (.int .i64 r.Value)]
def M.aJi.ra(r:M.aJi):List RC:=[.ro (.str r.aJr),.ro (.str r.Top),.ro (.str r.aJk.aJr),.ro (.int .i64 r.aJk.aKI),.ro (.int .i64 r.aJk.aKN),.ro (.int .i64 r.aJk.aKT),.any (.sl (List.map M.aJ0.en r.aJs.aJs)),.ro (.str r.bL.aJ8.Name),.ro (.int .i64 r.bL.aJ8.aJl),.any (.sl (List.map M.aD.en r.bL.aJ8.aJw)),.any (.sl (List.map M.aG.en r.bL.aJ8.aJ5)),.any (.sl (List.map enB r.bL.Log)),.ro (.int .i64 r.bL.aKR),.ro (.str r.aE.aJ8.Name),.any (.sl (List.map M.aJt.en r.aE.aJ8.aJm)),.ro (.int .i64 r.aE.aJ8.aKG),.ro (.int .i64 r.aE.aKe),.ro (.int .i64 r.aE.aJ7.aM.aJy),.ro (.int .i64 r.aE.aJ7.aM.aKU),.any (.sl (List.map M.aY.en r.aE.aJ7.aM.aJ9)),.ro (.int .i64 r.aE.aJ7.aKX),.ro (.int .i64 r.aE.aJ7.aKL),.ro (.int .i64 r.aKC),.ro (.bool r.aKB)]
def M.aJi.rs(r:M.aJi):List RC:=[.ro (.str r.aJr),.ro (.str r.Top),.ro (.str r.aJk.aJr),.ro (.int .i64 r.aJk.aKI),.ro (.int .i64 r.aJk.aKN),.ro (.int .i64 r.aJk.aKT),.own 277 2 (List.map M.aJ0.en r.aJs.aJs),.ro (.str r.bL.aJ8.Name),.ro (.int .i64 r.bL.aJ8.aJl),.own 75 3 (List.map M.aD.en r.bL.aJ8.aJw),.own 382 2 (List.map M.aG.en r.bL.aJ8.aJ5),.own 5 1 (List.map enB r.bL.Log),.ro (.int .i64 r.bL.aKR),.ro (.str r.aE.aJ8.Name),.own 320 4 (List.map M.aJt.en r.aE.aJ8.aJm),.ro (.int .i64 r.aE.aJ8.aKG),.ro (.int .i64 r.aE.aKe),.ro (.int .i64 r.aE.aJ7.aM.aJy),.ro (.int .i64 r.aE.aJ7.aM.aKU),.own 269 7 (List.map M.aY.en r.aE.aJ7.aM.aJ9),.ro (.int .i64 r.aE.aJ7.aKX),.ro (.int .i64 r.aE.aJ7.aKL),.ro (.int .i64 r.aKC),.ro (.bool r.aKB)]
def M.aJ0.rs(r:M.aJ0):List RC:=[.ro (.int .i64 r.aJl),.own 279 7 (List.map M.aJx.en r.aJ1)]
def M.aO.rs(r:M.aO):List RC:=[.own 277 2 (List.map M.aJ0.en r.aJs)]
def M.aJx.rs(r:M.aJx):List RC:=[.ro (.str r.aJr),.ro (.str r.aKP),.ro (.int .i64 r.aJo.aKc),.ro (.int .i64 r.aJo.aKS),.ro (.int .i64 r.aJo.aJl),.own 5 1 (List.map enB r.aJo.aKa),.ro (.bool r.aJo.aKh)]
def M.aJu.rs(r:M.aJu):List RC:=[.own 147 3 (List.map M.iU.en r.aKM)]
def M.aJj.ra(r:M.aJj):List RC:=[.ro (.str r.Name),.ro (.int .i64 r.aJl),.any (.sl (List.map M.aD.en r.aJw)),.any (.sl (List.map M.aG.en r.aJ5))]
def M.aJj.rs(r:M.aJj):List RC:=[.ro (.str r.Name),.ro (.int .i64 r.aJl),.own 75 3 (List.map M.aD.en r.aJw),.own 382 2 (List.map M.aG.en r.aJ5)]
def M.bL.rs(r:M.bL):List RC:=[.ro (.str r.aJ8.Name),.ro (.int .i64 r.aJ8.aJl),.own 75 3 (List.map M.aD.en r.aJ8.aJw),.own 382 2 (List.map M.aG.en r.aJ8.aJ5),.own 5 1 (List.map enB r.Log),.ro (.int .i64 r.aKR)]
def M.Field.rs(r:M.Field):List RC:=[.ro (.str r.Name),.ro (.int .i64 r.N)]
def M.aG.rs(r:M.aG):List RC:=[.ro (.str r.aD),.ro (.str r.Field)]
def M.Instr.rs(r:M.Instr):List RC:=[.ro (.int .i64 r.aJz),.ro (.int .i64 r.R),.ro (.int .i64 r.N),.ro (.str r.aKA)]
def M.aJt.rs(r:M.aJt):List RC:=[.ro (.int .i64 r.Key.aJz),.ro (.int .i64 r.Key.N),.ro (.str r.Key.aKA),.own 322 2 (List.map M.Field.en r.aC.aJq)]
def M.Key.rs(r:M.Key):List RC:=[.ro (.int .i64 r.aJz),.ro (.int .i64 r.N),.ro (.str r.aKA)]
def M.aJ.rs(r:M.aJ):List RC:=[.ro (.str r.aKP),.ro (.int .i64 r.aJl)]
def M.eO.rs(r:M.eO):List RC:=[.ro (.str r.Name),.ro (.int .i64 r.bD),.ro (.bool r.aKO),.ro (.bool r.aKj)]
def M.aP.rs(r:M.aP):List RC:=[.own 144 4 (List.map M.eO.en r.aJ3)]
def M.aJn.rs(r:M.aJn):List RC:=[.own 197 4 (List.map M.Instr.en r.aKD),.ro (.int .i64 r.Pc),.own 3 1 (List.map enI r.aKQ),.ro (.int .i64 r.aKW),.ro (.bool r.aKb),.ro (.bool r.aKY)]
def M.iU.rs(r:M.iU):List RC:=[.ro (.int .i64 r.To),.ro (.int .i64 r.aKm),.ro (.int .i64 r.N)]
def M.Op.rs(r:M.Op):List RC:=[.ro (.int .i64 r.aJz),.ro (.str r.aD),.ro (.int .i64 r.Key.aJz),.ro (.int .i64 r.Key.N),.ro (.str r.Key.aKA),.own 322 2 (List.map M.Field.en r.aC.aJq),.ro (.str r.Field)]
def M.aM.rs(r:M.aM):List RC:=[.ro (.int .i64 r.aJy),.ro (.int .i64 r.aKU),.own 269 7 (List.map M.aY.en r.aJ9)]
def M.bD.rs(r:M.bD):List RC:=[.ro (.int .i64 r.Id),.ro (.str r.aJr),.ro (.str r.Top),.ro (.int .i64 r.aJl),.own 204 2 (List.map M.aJ.en r.aJ),.own 197 4 (List.map M.Instr.en r.aJn.aKD),.ro (.int .i64 r.aJn.Pc),.own 3 1 (List.map enI r.aJn.aKQ),.ro (.int .i64 r.aJn.aKW),.ro (.bool r.aJn.aKb),.ro (.bool r.aJn.aKY)]
def M.aC.ra(r:M.aC):List RC:=[.any (.sl (List.map M.Field.en r.aJq))]
def M.aC.rs(r:M.aC):List RC:=[.own 322 2 (List.map M.Field.en r.aJq)]
def M.aJk.rs(r:M.aJk):List RC:=[.ro (.str r.aJr),.ro (.int .i64 r.aKI),.ro (.int .i64 r.aKN),.ro (.int .i64 r.aKT)]
def M.aE.rs(r:M.aE):List RC:=[.ro (.str r.aJ8.Name),.own 320 4 (List.map M.aJt.en r.aJ8.aJm),.ro (.int .i64 r.aJ8.aKG),.ro (.int .i64 r.aKe),.ro (.int .i64 r.aJ7.aM.aJy),.ro (.int .i64 r.aJ7.aM.aKU),.own 269 7 (List.map M.aY.en r.aJ7.aM.aJ9),.ro (.int .i64 r.aJ7.aKX),.ro (.int .i64 r.aJ7.aKL)]
def M.aJo.rs(r:M.aJo):List RC:=[.ro (.int .i64 r.aKc),.ro (.int .i64 r.aKS),.ro (.int .i64 r.aJl),.own 5 1 (List.map enB r.aKa),.ro (.bool r.aKh)]
def M.aJv.rs(r:M.aJv):List RC:=[.ro (.str r.aD.Name),.own 320 4 (List.map M.aJt.en r.aD.aJm),.ro (.int .i64 r.aD.aKG),.own 266 2 (List.map M.aK.en r.aK),.own 269 7 (List.map M.aY.en r.aKH)]
def M.aJr.ra(r:M.aJr):List RC:=[.ro (.str r.Name),.ro (.int .i64 r.aJl),.any (.sl (List.map enS r.aKJ)),.ro (.bool r.aKO)]
def M.aJr.rs(r:M.aJr):List RC:=[.ro (.str r.Name),.ro (.int .i64 r.aJl),.own 9 1 (List.map enS r.aKJ),.ro (.bool r.aKO)]
def M.aA.rs(r:M.aA):List RC:=[.own 84 24 (List.map M.aJi.en r.aJp)]
def M.aD.ra(r:M.aD):List RC:=[.ro (.str r.Name),.any (.sl (List.map M.aJt.en r.aJm)),.ro (.int .i64 r.aKG)]
def M.aD.rs(r:M.aD):List RC:=[.ro (.str r.Name),.own 320 4 (List.map M.aJt.en r.aJm),.ro (.int .i64 r.aKG)]
def M.aJ7.rs(r:M.aJ7):List RC:=[.ro (.int .i64 r.aM.aJy),.ro (.int .i64 r.aM.aKU),.own 269 7 (List.map M.aY.en r.aM.aJ9),.ro (.int .i64 r.aKX),.ro (.int .i64 r.aKL)]
def M.World.rs(r:M.World):List RC:=[.ro (.int .i64 r.Now),.ro (.bool r.aKF),.ro (.int .i64 r.aJy),.own 84 24 (List.map M.aJi.en r.aA.aJp),.own 91 11 (List.map M.bD.en r.aJ2),.ro (.int .i64 r.aJ4),.own 144 4 (List.map M.eO.en r.aJ3.aJ3),.own 147 3 (List.map M.iU.en r.aJu.aKM),.own 151 4 (List.map M.aJr.en r.aKE),.own 156 5 (List.map M.aJv.en r.aJ6)]
def M.aY.rs(r:M.aY):List RC:=[.ro (.int .i64 r.aJy),.ro (.int .i64 r.Seq),.ro (.int .i64 r.Key.aJz),.ro (.int .i64 r.Key.N),.ro (.str r.Key.aKA),.ro (.str r.Field),.ro (.int .i64 r.N)]
def YN:Fo:=oB 50 [cI 0,cB false,cI 0,.nil,.nil,cI 0,.nil,.nil,.nil,.nil]
def Xe:Fo:=oB 70 [cS (⟨#[]⟩:ByteArray),cI 0,.nil,.nil]
def aCi:Fo:=oB 89 [.nil,cI 0,.nil,cI 0,cB false,cB false]
def aIx:Fo:=oB 91 [cI 0,cS (⟨#[]⟩:ByteArray),cS (⟨#[]⟩:ByteArray),cI 0,.nil,.nil,cI 0,.nil,cI 0,cB false,cB false]
def Z6:Fo:=oB 102 [cI 0,cI 0,cI 0,cS (⟨#[]⟩:ByteArray),cI 0]
def aB6:Fo:=oB 219 [cI 0,cS (⟨#[]⟩:ByteArray),cI 0,cI 0,cS (⟨#[]⟩:ByteArray),.nil,cS (⟨#[]⟩:ByteArray)]
def Uz:Fo:=oB 434 [.nil,.nil,.nil,.nil]
def aHs:=PLift.up (qI ti3 (qI ti4 (qI ti5 (qI ti9 (qI aIw (qI aIk (qI aJd (qI aJM (qI aI7 (qI aJS (qI aIy (qI aJN (qI aJG (qI aI8 (qI aIl (qI aJa (qI aJJ (qI aJV (qI aJO (qI aI4 (qI aJg (qI aIz (qI aIe (qI aIc (qI Rv (qI aIX (qI aIb (qI aIs (qI aIt (qI aI1 (qI aId (qI aIU (qI S5 (qI SF (qI aI6 (qI aIh (qI aJE (qI aJH (qI Me (qI aIf (qI aIo (qI aJf (qI aI0 (qI aIW (qI aCN (qI aCj (qI aB3 (qI aBQ (qI aBP (qI aBz (qI aBM (qI aBS (qI aCa (qI aB7 (qI aBv (qI aBd (qI aCq (qI aCC (qI aCG (qI aCV (qI aCr (qI aBs (qI aBt (qI aBE (qI aBY (qI ZB (qI ZL (qI Qr (qI aBm (qI aBF (qI aCk (qI aCD (qI aBJ (qI aBN (qI aBi (qI aCX (qI aBb (qI aBG (qI aCh (qI aCb (qI aB0 (qI aBW (qI aBR (qI aBZ (qI aB4 (qI aCF (qI Ox (qI aB5 (qI aBn (qI aBg (qI aB1 (qI aCA (qI aBp (qI aBy (qI aBH (qI IP (qI aCe (qI aBq (qI aCI (qI aCJ (qI aCR (qI aCH (qI aCT (qI aBa (qI aCp (qI aCd aCP))))))))))))))))))))))))))))))))))))))))))))))))))))))))))))))))))))))))))))))))))))))))))))))))))))))))))
theorem TB:type_of% aHs.down:=aHs.down
def aF4:=PLift.up (qI @enI.eq_1 (qI @enB.eq_1 (qI @enS.eq_1 (qI @enT.eq_1 (qI @enL.eq_1 (qI @enI.fl (qI @enB.fl (qI @enS.fl (qI @enT.fl (qI @WW (qI @J8 (qI @Ix (qI @aI.eq_1 (qI @aB.eq_1 (qI @aS.eq_1 (qI @aL.eq_1 (qI @aX.eq_1 (qI @cI.eq_1 (qI @cB.eq_1 (qI @cS.eq_1 (qI @cL.eq_1 (qI @vI.eq_1 (qI @vB.eq_1 (qI @vS.eq_1 (qI @vL.eq_1 (qI @vR.eq_1 (qI @vP.eq_1 (qI @oX.eq_1 (qI @oB.eq_1 (qI @oW.eq_1 (qI @rI.eq_1 (qI @rB.eq_1 (qI @rS.eq_1 (qI @rW.eq_1 (qI @M.aK.rs.eq_1 (qI @M.Ask.rs.eq_1 (qI @M.aJi.ra.eq_1 (qI @M.aJi.rs.eq_1 (qI @M.aJ0.rs.eq_1 (qI @M.aO.rs.eq_1 (qI @M.aJx.rs.eq_1 (qI @M.aJu.rs.eq_1 (qI @M.aJj.ra.eq_1 (qI @M.aJj.rs.eq_1 (qI @M.bL.rs.eq_1 (qI @M.Field.rs.eq_1 (qI @M.aG.rs.eq_1 (qI @M.Instr.rs.eq_1 (qI @M.aJt.rs.eq_1 (qI @M.Key.rs.eq_1 (qI @M.aJ.rs.eq_1 (qI @M.eO.rs.eq_1 (qI @M.aP.rs.eq_1 (qI @M.aJn.rs.eq_1 (qI @M.iU.rs.eq_1 (qI @M.Op.rs.eq_1 (qI @M.aM.rs.eq_1 (qI @M.bD.rs.eq_1 (qI @M.aC.ra.eq_1 (qI @M.aC.rs.eq_1 (qI @M.aJk.rs.eq_1 (qI @M.aE.rs.eq_1 (qI @M.aJo.rs.eq_1 (qI @M.aJv.rs.eq_1 (qI @M.aJr.ra.eq_1 (qI @M.aJr.rs.eq_1 (qI @M.aA.rs.eq_1 (qI @M.aD.ra.eq_1 (qI @M.aD.rs.eq_1 (qI @M.aJ7.rs.eq_1 (qI @M.World.rs.eq_1 (qI @M.aY.rs.eq_1 (qI @YN.eq_1 (qI @Xe.eq_1 (qI @aCi.eq_1 (qI @aIx.eq_1 (qI @Z6.eq_1 (qI @aB6.eq_1 (qI @Uz.eq_1 (qI @M.aJk.en.eq_1 (qI @M.aJk.en.fl (qI @M.aJo.en.eq_1 (qI @M.aJx.en.eq_1 (qI @M.aJ0.en.eq_1 (qI @M.aO.en.eq_1 (qI @M.Key.en.eq_1 (qI @M.Key.en.fl (qI @M.Field.en.eq_1 (qI @M.Field.en.fl (qI @M.aC.en.eq_1 (qI @M.aJt.en.eq_1 (qI @M.aD.en.eq_1 (qI @M.aG.en.eq_1 (qI @M.aG.en.fl (qI @M.aJj.en.eq_1 (qI @M.bL.en.eq_1 (qI @M.aY.en.eq_1 (qI @M.aY.en.fl (qI @M.aM.en.eq_1 (qI @M.aJ7.en.eq_1 (qI @M.aE.en.eq_1 (qI @M.aJi.en.eq_1 (qI @M.aA.en.eq_1 (qI @M.aJ.en.eq_1 (qI @M.aJ.en.fl (qI @M.Instr.en.eq_1 (qI @M.Instr.en.fl (qI @M.aJn.en.eq_1 (qI @M.bD.en.eq_1 (qI @M.eO.en.eq_1 (qI @M.eO.en.fl (qI @M.aP.en.eq_1 (qI @M.iU.en.eq_1 (qI @M.iU.en.fl (qI @M.aJu.en.eq_1 (qI @M.aJr.en.eq_1 (qI @M.aK.en.eq_1 (qI @M.aK.en.fl (qI @M.aJv.en.eq_1 (qI @M.World.en.eq_1 (qI @M.Ask.en.eq_1 (qI @M.Ask.en.fl (qI @M.Op.en.eq_1 (qI @M.dF.en.eq_1 @M.dF.en.fl))))))))))))))))))))))))))))))))))))))))))))))))))))))))))))))))))))))))))))))))))))))))))))))))))))))))))))))))))))))))))))
theorem EN:type_of% aF4.down:=aF4.down
