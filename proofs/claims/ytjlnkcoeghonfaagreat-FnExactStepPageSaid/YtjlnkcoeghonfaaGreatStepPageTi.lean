/-
  Helper text. No conditions.
-/
import Derived.Test.YtjlnkcoeghonfaaGreatStepPageMod
import Derived.Test.YtjlnkcoeghonfaaGreatProg
import Derived.KernelRfl
set_option linter.all false
namespace Go.Proofs.YtjlnkcoeghonfaaGreat.gen
open Go Go.Sh
theorem mixed:Tryz.prog.follows .mixedOrders=true:=by kernel_rfl
theorem ti3:dI Tryz.prog 3=some { k:=.int .i64,size:=1,bytes:=8,zero:=[.dat (.int .i64 0)] }:=by kernel_rfl
theorem ti4:dI Tryz.prog 4=some { k:=.bool,size:=1,bytes:=1,zero:=[.dat (.bool false)] }:=by kernel_rfl
theorem ti5:dI Tryz.prog 5=some { k:=.int .u8,size:=1,bytes:=1,zero:=[.dat (.int .u8 0)] }:=by kernel_rfl
theorem ti9:dI Tryz.prog 9=some { k:=.str,size:=1,bytes:=16,zero:=[.dat (.str ⟨#[]⟩)] }:=by kernel_rfl
theorem aIo:dI Tryz.prog 22=some { k:=.slice 302,size:=1,bytes:=24,zero:=[.nil],sl:=[some (302,24)] }:=by kernel_rfl
theorem aIc:dI Tryz.prog 24=some { k:=.struct [(0,1,false)],size:=1,bytes:=24,zero:=[.nil],sl:=[some (302,24)] }:=by kernel_rfl
theorem aJV:dI Tryz.prog 25=some { k:=.slice 176,size:=1,bytes:=24,zero:=[.nil],sl:=[some (176,11)] }:=by kernel_rfl
theorem aJE:dI Tryz.prog 26=some { k:=.slice 306,size:=1,bytes:=24,zero:=[.nil],sl:=[some (306,4)] }:=by kernel_rfl
theorem aIz:dI Tryz.prog 28=some { k:=.struct [(0,1,false)],size:=1,bytes:=24,zero:=[.nil],sl:=[some (306,4)] }:=by kernel_rfl
theorem aJK:dI Tryz.prog 29=some { k:=.slice 343,size:=1,bytes:=24,zero:=[.nil],sl:=[some (343,3)] }:=by kernel_rfl
theorem aIq:dI Tryz.prog 31=some { k:=.struct [(0,1,false)],size:=1,bytes:=24,zero:=[.nil],sl:=[some (343,3)] }:=by kernel_rfl
theorem aJF:dI Tryz.prog 32=some { k:=.slice 180,size:=1,bytes:=24,zero:=[.nil],sl:=[some (180,4)] }:=by kernel_rfl
theorem aI8:dI Tryz.prog 33=some { k:=.slice 188,size:=1,bytes:=24,zero:=[.nil],sl:=[some (188,5)] }:=by kernel_rfl
theorem aI0:dI Tryz.prog 35=some { k:=.struct [(0,1,false),(1,1,false),(2,1,false),(3,1,true),(4,1,false),(5,1,false),(6,1,true),(7,1,true),(8,1,false),(9,1,false)],size:=10,bytes:=176,zero:=[.dat (.int .i64 0),.dat (.bool false),.dat (.int .i64 0),.nil,.nil,.dat (.int .i64 0),.nil,.nil,.nil,.nil],sl:=[none,none,none,some (302,24),some (176,11),none,some (306,4),some (343,3),some (180,4),some (188,5)] }:=by kernel_rfl
theorem aId:dI Tryz.prog 37=some { k:=.slice 84,size:=1,bytes:=24,zero:=[.nil],sl:=[some (84,24)] }:=by kernel_rfl
theorem aJS:dI Tryz.prog 39=some { k:=.struct [(0,1,false)],size:=1,bytes:=24,zero:=[.nil],sl:=[some (84,24)] }:=by kernel_rfl
theorem aJB:dI Tryz.prog 40=some { k:=.slice 91,size:=1,bytes:=24,zero:=[.nil],sl:=[some (91,11)] }:=by kernel_rfl
theorem aJN:dI Tryz.prog 41=some { k:=.slice 144,size:=1,bytes:=24,zero:=[.nil],sl:=[some (144,4)] }:=by kernel_rfl
theorem aJG:dI Tryz.prog 43=some { k:=.struct [(0,1,false)],size:=1,bytes:=24,zero:=[.nil],sl:=[some (144,4)] }:=by kernel_rfl
theorem aIw:dI Tryz.prog 44=some { k:=.slice 147,size:=1,bytes:=24,zero:=[.nil],sl:=[some (147,3)] }:=by kernel_rfl
theorem aJY:dI Tryz.prog 46=some { k:=.struct [(0,1,false)],size:=1,bytes:=24,zero:=[.nil],sl:=[some (147,3)] }:=by kernel_rfl
theorem aIr:dI Tryz.prog 47=some { k:=.slice 151,size:=1,bytes:=24,zero:=[.nil],sl:=[some (151,4)] }:=by kernel_rfl
theorem aIW:dI Tryz.prog 48=some { k:=.slice 156,size:=1,bytes:=24,zero:=[.nil],sl:=[some (156,5)] }:=by kernel_rfl
theorem aIU:dI Tryz.prog 50=some { k:=.struct [(0,1,false),(1,1,false),(2,1,false),(3,1,true),(4,1,false),(5,1,false),(6,1,true),(7,1,true),(8,1,false),(9,1,false)],size:=10,bytes:=176,zero:=[.dat (.int .i64 0),.dat (.bool false),.dat (.int .i64 0),.nil,.nil,.dat (.int .i64 0),.nil,.nil,.nil,.nil],sl:=[none,none,none,some (84,24),some (91,11),none,some (144,4),some (147,3),some (151,4),some (156,5)] }:=by kernel_rfl
theorem Rq:dI Tryz.prog 58=some { k:=.slice 5,size:=1,bytes:=24,zero:=[.nil],sl:=[some (5,1)] }:=by kernel_rfl
theorem aIP:dI Tryz.prog 63=some { k:=.struct [(0,1,false),(1,1,false),(2,1,false),(3,1,false)],size:=4,bytes:=40,zero:=[.dat (.str ⟨#[]⟩),.dat (.int .i64 0),.dat (.int .i64 0),.dat (.int .i64 0)],cmp:=[.str,.int,.int,.int] }:=by kernel_rfl
theorem aIT:dI Tryz.prog 64=some { k:=.slice 277,size:=1,bytes:=24,zero:=[.nil],sl:=[some (277,2)] }:=by kernel_rfl
theorem aIk:dI Tryz.prog 66=some { k:=.struct [(0,1,false)],size:=1,bytes:=24,zero:=[.nil],sl:=[some (277,2)] }:=by kernel_rfl
theorem aIl:dI Tryz.prog 67=some { k:=.slice 75,size:=1,bytes:=24,zero:=[.nil],sl:=[some (75,3)] }:=by kernel_rfl
theorem aIt:dI Tryz.prog 68=some { k:=.slice 382,size:=1,bytes:=24,zero:=[.nil],sl:=[some (382,2)] }:=by kernel_rfl
theorem aIV:dI Tryz.prog 70=some { k:=.struct [(0,1,false),(1,1,false),(2,1,false),(3,1,false)],size:=4,bytes:=72,zero:=[.dat (.str ⟨#[]⟩),.dat (.int .i64 0),.nil,.nil],sl:=[none,none,some (75,3),some (382,2)] }:=by kernel_rfl
theorem aIM:dI Tryz.prog 72=some { k:=.struct [(0,4,true),(4,1,false),(5,1,false)],size:=6,bytes:=104,zero:=[.dat (.str ⟨#[]⟩),.dat (.int .i64 0),.nil,.nil,.nil,.dat (.int .i64 0)],sl:=[none,none,some (75,3),some (382,2),some (5,1),none] }:=by kernel_rfl
theorem SZ:dI Tryz.prog 73=some { k:=.slice 320,size:=1,bytes:=24,zero:=[.nil],sl:=[some (320,4)] }:=by kernel_rfl
theorem Sy:dI Tryz.prog 75=some { k:=.struct [(0,1,false),(1,1,false),(2,1,false)],size:=3,bytes:=48,zero:=[.dat (.str ⟨#[]⟩),.nil,.dat (.int .i64 0)],sl:=[none,some (320,4),none] }:=by kernel_rfl
theorem aIy:dI Tryz.prog 76=some { k:=.slice 269,size:=1,bytes:=24,zero:=[.nil],sl:=[some (269,7)] }:=by kernel_rfl
theorem aIZ:dI Tryz.prog 78=some { k:=.struct [(0,1,false),(1,1,false),(2,1,false)],size:=3,bytes:=40,zero:=[.dat (.int .i64 0),.dat (.int .i64 0),.nil],sl:=[none,none,some (269,7)] }:=by kernel_rfl
theorem aI6:dI Tryz.prog 80=some { k:=.struct [(0,3,true),(3,1,false),(4,1,false)],size:=5,bytes:=56,zero:=[.dat (.int .i64 0),.dat (.int .i64 0),.nil,.dat (.int .i64 0),.dat (.int .i64 0)],sl:=[none,none,some (269,7),none,none] }:=by kernel_rfl
theorem aI9:dI Tryz.prog 82=some { k:=.struct [(0,3,true),(3,1,false),(4,5,true)],size:=9,bytes:=112,zero:=[.dat (.str ⟨#[]⟩),.nil,.dat (.int .i64 0),.dat (.int .i64 0),.dat (.int .i64 0),.dat (.int .i64 0),.nil,.dat (.int .i64 0),.dat (.int .i64 0)],sl:=[none,some (320,4),none,none,none,none,some (269,7),none,none] }:=by kernel_rfl
theorem L8:dI Tryz.prog 84=some { k:=.struct [(0,1,false),(1,1,false),(2,4,true),(6,1,true),(7,6,true),(13,9,true),(22,1,false),(23,1,false)],size:=24,bytes:=328,zero:=[.dat (.str ⟨#[]⟩),.dat (.str ⟨#[]⟩),.dat (.str ⟨#[]⟩),.dat (.int .i64 0),.dat (.int .i64 0),.dat (.int .i64 0),.nil,.dat (.str ⟨#[]⟩),.dat (.int .i64 0),.nil,.nil,.nil,.dat (.int .i64 0),.dat (.str ⟨#[]⟩),.nil,.dat (.int .i64 0),.dat (.int .i64 0),.dat (.int .i64 0),.dat (.int .i64 0),.nil,.dat (.int .i64 0),.dat (.int .i64 0),.dat (.int .i64 0),.dat (.bool false)],sl:=[none,none,none,none,none,none,some (277,2),none,none,some (75,3),some (382,2),some (5,1),none,none,some (320,4),none,none,none,none,some (269,7),none,none,none,none] }:=by kernel_rfl
theorem aIX:dI Tryz.prog 85=some { k:=.slice 204,size:=1,bytes:=24,zero:=[.nil],sl:=[some (204,2)] }:=by kernel_rfl
theorem aIg:dI Tryz.prog 86=some { k:=.slice 197,size:=1,bytes:=24,zero:=[.nil],sl:=[some (197,4)] }:=by kernel_rfl
theorem aJX:dI Tryz.prog 87=some { k:=.slice 3,size:=1,bytes:=24,zero:=[.nil],sl:=[some (3,1)] }:=by kernel_rfl
theorem aIs:dI Tryz.prog 89=some { k:=.struct [(0,1,false),(1,1,false),(2,1,false),(3,1,false),(4,1,false),(5,1,false)],size:=6,bytes:=72,zero:=[.nil,.dat (.int .i64 0),.nil,.dat (.int .i64 0),.dat (.bool false),.dat (.bool false)],sl:=[some (197,4),none,some (3,1),none,none,none] }:=by kernel_rfl
theorem aIO:dI Tryz.prog 91=some { k:=.struct [(0,1,false),(1,1,false),(2,1,false),(3,1,false),(4,1,false),(5,6,true)],size:=11,bytes:=144,zero:=[.dat (.int .i64 0),.dat (.str ⟨#[]⟩),.dat (.str ⟨#[]⟩),.dat (.int .i64 0),.nil,.nil,.dat (.int .i64 0),.nil,.dat (.int .i64 0),.dat (.bool false),.dat (.bool false)],sl:=[none,none,none,none,some (204,2),some (197,4),none,some (3,1),none,none,none] }:=by kernel_rfl
theorem aCF:dI Tryz.prog 102=some { k:=.struct [(0,1,false),(1,1,false),(2,1,false),(3,1,false),(4,1,false)],size:=5,bytes:=48,zero:=[.dat (.int .i64 0),.dat (.int .i64 0),.dat (.int .i64 0),.dat (.str ⟨#[]⟩),.dat (.int .i64 0)],cmp:=[.int,.int,.int,.str,.int] }:=by kernel_rfl
theorem aCb:dI Tryz.prog 107=some { k:=.struct [(0,1,false),(1,1,false),(2,1,false),(3,1,false),(4,1,false)],size:=5,bytes:=56,zero:=[.dat (.int .i64 0),.dat (.int .i64 0),.dat (.int .i64 0),.nil,.dat (.bool false)],sl:=[none,none,none,some (5,1),none] }:=by kernel_rfl
theorem aBv:dI Tryz.prog 144=some { k:=.struct [(0,1,false),(1,1,false),(2,1,false),(3,1,false)],size:=4,bytes:=32,zero:=[.dat (.str ⟨#[]⟩),.dat (.int .i64 0),.dat (.bool false),.dat (.bool false)],cmp:=[.str,.int,.bool,.bool] }:=by kernel_rfl
theorem aBI:dI Tryz.prog 147=some { k:=.struct [(0,1,false),(1,1,false),(2,1,false)],size:=3,bytes:=24,zero:=[.dat (.int .i64 0),.dat (.int .i64 0),.dat (.int .i64 0)],cmp:=[.int,.int,.int] }:=by kernel_rfl
theorem aBH:dI Tryz.prog 149=some { k:=.slice 9,size:=1,bytes:=24,zero:=[.nil],sl:=[some (9,1)] }:=by kernel_rfl
theorem aBr:dI Tryz.prog 151=some { k:=.struct [(0,1,false),(1,1,false),(2,1,false),(3,1,false)],size:=4,bytes:=56,zero:=[.dat (.str ⟨#[]⟩),.dat (.int .i64 0),.nil,.dat (.bool false)],sl:=[none,none,some (9,1),none] }:=by kernel_rfl
theorem aBE:dI Tryz.prog 154=some { k:=.slice 266,size:=1,bytes:=24,zero:=[.nil],sl:=[some (266,2)] }:=by kernel_rfl
theorem aBK:dI Tryz.prog 156=some { k:=.struct [(0,3,true),(3,1,false),(4,1,false)],size:=5,bytes:=96,zero:=[.dat (.str ⟨#[]⟩),.nil,.dat (.int .i64 0),.nil,.nil],sl:=[none,some (320,4),none,some (266,2),some (269,7)] }:=by kernel_rfl
theorem aCS:dI Tryz.prog 171=some { k:=.slice 390,size:=1,bytes:=24,zero:=[.nil],sl:=[some (390,2)] }:=by kernel_rfl
theorem aBz:dI Tryz.prog 172=some { k:=.slice 477,size:=1,bytes:=24,zero:=[.nil],sl:=[some (477,4)] }:=by kernel_rfl
theorem aBn:dI Tryz.prog 174=some { k:=.struct [(0,1,false),(1,1,false),(2,1,false),(3,1,false),(4,1,false),(5,1,false)],size:=6,bytes:=72,zero:=[.nil,.dat (.int .i64 0),.nil,.dat (.int .i64 0),.dat (.bool false),.dat (.bool false)],sl:=[some (477,4),none,some (3,1),none,none,none] }:=by kernel_rfl
theorem aBV:dI Tryz.prog 176=some { k:=.struct [(0,1,false),(1,1,false),(2,1,false),(3,1,false),(4,1,false),(5,6,true)],size:=11,bytes:=144,zero:=[.dat (.int .i64 0),.dat (.str ⟨#[]⟩),.dat (.str ⟨#[]⟩),.dat (.int .i64 0),.nil,.nil,.dat (.int .i64 0),.nil,.dat (.int .i64 0),.dat (.bool false),.dat (.bool false)],sl:=[none,none,none,none,some (390,2),some (477,4),none,some (3,1),none,none,none] }:=by kernel_rfl
theorem aCi:dI Tryz.prog 180=some { k:=.struct [(0,1,false),(1,1,false),(2,1,false),(3,1,false)],size:=4,bytes:=56,zero:=[.dat (.str ⟨#[]⟩),.dat (.int .i64 0),.nil,.dat (.bool false)],sl:=[none,none,some (9,1),none] }:=by kernel_rfl
theorem aB4:dI Tryz.prog 182=some { k:=.slice 483,size:=1,bytes:=24,zero:=[.nil],sl:=[some (483,4)] }:=by kernel_rfl
theorem aB8:dI Tryz.prog 184=some { k:=.struct [(0,1,false),(1,1,false),(2,1,false)],size:=3,bytes:=48,zero:=[.dat (.str ⟨#[]⟩),.nil,.dat (.int .i64 0)],sl:=[none,some (483,4),none] }:=by kernel_rfl
theorem aCN:dI Tryz.prog 185=some { k:=.slice 427,size:=1,bytes:=24,zero:=[.nil],sl:=[some (427,2)] }:=by kernel_rfl
theorem aCj:dI Tryz.prog 186=some { k:=.slice 396,size:=1,bytes:=24,zero:=[.nil],sl:=[some (396,7)] }:=by kernel_rfl
theorem aBk:dI Tryz.prog 188=some { k:=.struct [(0,3,true),(3,1,false),(4,1,false)],size:=5,bytes:=96,zero:=[.dat (.str ⟨#[]⟩),.nil,.dat (.int .i64 0),.nil,.nil],sl:=[none,some (483,4),none,some (427,2),some (396,7)] }:=by kernel_rfl
theorem aBl:dI Tryz.prog 197=some { k:=.struct [(0,1,false),(1,1,false),(2,1,false),(3,1,false)],size:=4,bytes:=40,zero:=[.dat (.int .i64 0),.dat (.int .i64 0),.dat (.int .i64 0),.dat (.str ⟨#[]⟩)],cmp:=[.int,.int,.int,.str] }:=by kernel_rfl
theorem aA7:dI Tryz.prog 204=some { k:=.struct [(0,1,false),(1,1,false)],size:=2,bytes:=24,zero:=[.dat (.str ⟨#[]⟩),.dat (.int .i64 0)],cmp:=[.str,.int] }:=by kernel_rfl
theorem aBQ:dI Tryz.prog 205=some { k:=.slice 322,size:=1,bytes:=24,zero:=[.nil],sl:=[some (322,2)] }:=by kernel_rfl
theorem Zt:dI Tryz.prog 207=some { k:=.struct [(0,1,false)],size:=1,bytes:=24,zero:=[.nil],sl:=[some (322,2)] }:=by kernel_rfl
theorem ZD:dI Tryz.prog 216=some { k:=.struct [(0,1,false),(1,1,false),(2,1,false)],size:=3,bytes:=32,zero:=[.dat (.int .i64 0),.dat (.int .i64 0),.dat (.str ⟨#[]⟩)],cmp:=[.int,.int,.str] }:=by kernel_rfl
theorem Qn:dI Tryz.prog 219=some { k:=.struct [(0,1,false),(1,1,false),(2,3,true),(5,1,true),(6,1,false)],size:=7,bytes:=96,zero:=[.dat (.int .i64 0),.dat (.str ⟨#[]⟩),.dat (.int .i64 0),.dat (.int .i64 0),.dat (.str ⟨#[]⟩),.nil,.dat (.str ⟨#[]⟩)],sl:=[none,none,none,none,none,some (322,2),none] }:=by kernel_rfl
theorem aBe:dI Tryz.prog 220=some { k:=.slice 219,size:=1,bytes:=24,zero:=[.nil],sl:=[some (219,7)] }:=by kernel_rfl
theorem aA8:dI Tryz.prog 266=some { k:=.struct [(0,1,false),(1,1,false)],size:=2,bytes:=16,zero:=[.dat (.int .i64 0),.dat (.int .i64 0)],cmp:=[.int,.int] }:=by kernel_rfl
theorem aCc:dI Tryz.prog 269=some { k:=.struct [(0,1,false),(1,1,false),(2,3,true),(5,1,false),(6,1,false)],size:=7,bytes:=72,zero:=[.dat (.int .i64 0),.dat (.int .i64 0),.dat (.int .i64 0),.dat (.int .i64 0),.dat (.str ⟨#[]⟩),.dat (.str ⟨#[]⟩),.dat (.int .i64 0)],cmp:=[.int,.int,.int,.int,.str,.str,.int] }:=by kernel_rfl
theorem aB5:dI Tryz.prog 275=some { k:=.slice 279,size:=1,bytes:=24,zero:=[.nil],sl:=[some (279,7)] }:=by kernel_rfl
theorem aBB:dI Tryz.prog 277=some { k:=.struct [(0,1,false),(1,1,false)],size:=2,bytes:=32,zero:=[.dat (.int .i64 0),.nil],sl:=[none,some (279,7)] }:=by kernel_rfl
theorem aBF:dI Tryz.prog 279=some { k:=.struct [(0,1,false),(1,1,false),(2,5,true)],size:=7,bytes:=88,zero:=[.dat (.str ⟨#[]⟩),.dat (.str ⟨#[]⟩),.dat (.int .i64 0),.dat (.int .i64 0),.dat (.int .i64 0),.nil,.dat (.bool false)],sl:=[none,none,none,none,none,some (5,1),none] }:=by kernel_rfl
theorem aBa:dI Tryz.prog 285=some { k:=.struct [(0,1,false),(1,1,false),(2,1,false),(3,1,false)],size:=4,bytes:=40,zero:=[.dat (.str ⟨#[]⟩),.dat (.int .i64 0),.dat (.int .i64 0),.dat (.int .i64 0)],cmp:=[.str,.int,.int,.int] }:=by kernel_rfl
theorem aCP:dI Tryz.prog 286=some { k:=.slice 542,size:=1,bytes:=24,zero:=[.nil],sl:=[some (542,2)] }:=by kernel_rfl
theorem aBT:dI Tryz.prog 288=some { k:=.struct [(0,1,false)],size:=1,bytes:=24,zero:=[.nil],sl:=[some (542,2)] }:=by kernel_rfl
theorem aA9:dI Tryz.prog 289=some { k:=.slice 184,size:=1,bytes:=24,zero:=[.nil],sl:=[some (184,3)] }:=by kernel_rfl
theorem aCZ:dI Tryz.prog 290=some { k:=.slice 573,size:=1,bytes:=24,zero:=[.nil],sl:=[some (573,2)] }:=by kernel_rfl
theorem aCT:dI Tryz.prog 292=some { k:=.struct [(0,1,false),(1,1,false),(2,1,false),(3,1,false)],size:=4,bytes:=72,zero:=[.dat (.str ⟨#[]⟩),.dat (.int .i64 0),.nil,.nil],sl:=[none,none,some (184,3),some (573,2)] }:=by kernel_rfl
theorem aBs:dI Tryz.prog 294=some { k:=.struct [(0,4,true),(4,1,false),(5,1,false)],size:=6,bytes:=104,zero:=[.dat (.str ⟨#[]⟩),.dat (.int .i64 0),.nil,.nil,.nil,.dat (.int .i64 0)],sl:=[none,none,some (184,3),some (573,2),some (5,1),none] }:=by kernel_rfl
theorem aBO:dI Tryz.prog 296=some { k:=.struct [(0,1,false),(1,1,false),(2,1,false)],size:=3,bytes:=40,zero:=[.dat (.int .i64 0),.dat (.int .i64 0),.nil],sl:=[none,none,some (396,7)] }:=by kernel_rfl
theorem aBJ:dI Tryz.prog 298=some { k:=.struct [(0,3,true),(3,1,false),(4,1,false)],size:=5,bytes:=56,zero:=[.dat (.int .i64 0),.dat (.int .i64 0),.nil,.dat (.int .i64 0),.dat (.int .i64 0)],sl:=[none,none,some (396,7),none,none] }:=by kernel_rfl
theorem aBR:dI Tryz.prog 300=some { k:=.struct [(0,3,true),(3,1,false),(4,5,true)],size:=9,bytes:=112,zero:=[.dat (.str ⟨#[]⟩),.nil,.dat (.int .i64 0),.dat (.int .i64 0),.dat (.int .i64 0),.dat (.int .i64 0),.nil,.dat (.int .i64 0),.dat (.int .i64 0)],sl:=[none,some (483,4),none,none,none,none,some (396,7),none,none] }:=by kernel_rfl
theorem aBw:dI Tryz.prog 302=some { k:=.struct [(0,1,false),(1,1,false),(2,4,true),(6,1,true),(7,6,true),(13,9,true),(22,1,false),(23,1,false)],size:=24,bytes:=328,zero:=[.dat (.str ⟨#[]⟩),.dat (.str ⟨#[]⟩),.dat (.str ⟨#[]⟩),.dat (.int .i64 0),.dat (.int .i64 0),.dat (.int .i64 0),.nil,.dat (.str ⟨#[]⟩),.dat (.int .i64 0),.nil,.nil,.nil,.dat (.int .i64 0),.dat (.str ⟨#[]⟩),.nil,.dat (.int .i64 0),.dat (.int .i64 0),.dat (.int .i64 0),.dat (.int .i64 0),.nil,.dat (.int .i64 0),.dat (.int .i64 0),.dat (.int .i64 0),.dat (.bool false)],sl:=[none,none,none,none,none,none,some (542,2),none,none,some (184,3),some (573,2),some (5,1),none,none,some (483,4),none,none,none,none,some (396,7),none,none,none,none] }:=by kernel_rfl
theorem aB7:dI Tryz.prog 306=some { k:=.struct [(0,1,false),(1,1,false),(2,1,false),(3,1,false)],size:=4,bytes:=32,zero:=[.dat (.str ⟨#[]⟩),.dat (.int .i64 0),.dat (.bool false),.dat (.bool false)],cmp:=[.str,.int,.bool,.bool] }:=by kernel_rfl
theorem Oq:dI Tryz.prog 320=some { k:=.struct [(0,3,true),(3,1,true)],size:=4,bytes:=56,zero:=[.dat (.int .i64 0),.dat (.int .i64 0),.dat (.str ⟨#[]⟩),.nil],sl:=[none,none,none,some (322,2)] }:=by kernel_rfl
theorem aBx:dI Tryz.prog 322=some { k:=.struct [(0,1,false),(1,1,false)],size:=2,bytes:=24,zero:=[.dat (.str ⟨#[]⟩),.dat (.int .i64 0)],cmp:=[.str,.int] }:=by kernel_rfl
theorem aBf:dI Tryz.prog 343=some { k:=.struct [(0,1,false),(1,1,false),(2,1,false)],size:=3,bytes:=24,zero:=[.dat (.int .i64 0),.dat (.int .i64 0),.dat (.int .i64 0)],cmp:=[.int,.int,.int] }:=by kernel_rfl
theorem aBY:dI Tryz.prog 351=some { k:=.slice 58,size:=1,bytes:=24,zero:=[.nil],sl:=[some (58,1)] }:=by kernel_rfl
theorem aBt:dI Tryz.prog 382=some { k:=.struct [(0,1,false),(1,1,false)],size:=2,bytes:=32,zero:=[.dat (.str ⟨#[]⟩),.dat (.str ⟨#[]⟩)],cmp:=[.str,.str] }:=by kernel_rfl
theorem aB2:dI Tryz.prog 390=some { k:=.struct [(0,1,false),(1,1,false)],size:=2,bytes:=24,zero:=[.dat (.str ⟨#[]⟩),.dat (.int .i64 0)],cmp:=[.str,.int] }:=by kernel_rfl
theorem aBh:dI Tryz.prog 394=some { k:=.struct [(0,1,false),(1,1,false),(2,1,false)],size:=3,bytes:=32,zero:=[.dat (.int .i64 0),.dat (.int .i64 0),.dat (.str ⟨#[]⟩)],cmp:=[.int,.int,.str] }:=by kernel_rfl
theorem aBq:dI Tryz.prog 396=some { k:=.struct [(0,1,false),(1,1,false),(2,3,true),(5,1,false),(6,1,false)],size:=7,bytes:=72,zero:=[.dat (.int .i64 0),.dat (.int .i64 0),.dat (.int .i64 0),.dat (.int .i64 0),.dat (.str ⟨#[]⟩),.dat (.str ⟨#[]⟩),.dat (.int .i64 0)],cmp:=[.int,.int,.int,.int,.str,.str,.int] }:=by kernel_rfl
theorem aBA:dI Tryz.prog 427=some { k:=.struct [(0,1,false),(1,1,false)],size:=2,bytes:=16,zero:=[.dat (.int .i64 0),.dat (.int .i64 0)],cmp:=[.int,.int] }:=by kernel_rfl
theorem IF:dI Tryz.prog 434=some { k:=.arr 58 4,size:=4,bytes:=96,zero:=[.nil,.nil,.nil,.nil],sl:=[some (5,1),some (5,1),some (5,1),some (5,1)] }:=by kernel_rfl
theorem aCW:dI Tryz.prog 477=some { k:=.struct [(0,1,false),(1,1,false),(2,1,false),(3,1,false)],size:=4,bytes:=40,zero:=[.dat (.int .i64 0),.dat (.int .i64 0),.dat (.int .i64 0),.dat (.str ⟨#[]⟩)],cmp:=[.int,.int,.int,.str] }:=by kernel_rfl
theorem aBi:dI Tryz.prog 479=some { k:=.slice 601,size:=1,bytes:=24,zero:=[.nil],sl:=[some (601,2)] }:=by kernel_rfl
theorem aCA:dI Tryz.prog 481=some { k:=.struct [(0,1,false)],size:=1,bytes:=24,zero:=[.nil],sl:=[some (601,2)] }:=by kernel_rfl
theorem aCB:dI Tryz.prog 483=some { k:=.struct [(0,3,true),(3,1,true)],size:=4,bytes:=56,zero:=[.dat (.int .i64 0),.dat (.int .i64 0),.dat (.str ⟨#[]⟩),.nil],sl:=[none,none,none,some (601,2)] }:=by kernel_rfl
theorem aCJ:dI Tryz.prog 540=some { k:=.slice 599,size:=1,bytes:=24,zero:=[.nil],sl:=[some (599,7)] }:=by kernel_rfl
theorem aB9:dI Tryz.prog 542=some { k:=.struct [(0,1,false),(1,1,false)],size:=2,bytes:=32,zero:=[.dat (.int .i64 0),.nil],sl:=[none,some (599,7)] }:=by kernel_rfl
theorem aCL:dI Tryz.prog 550=some { k:=.struct [(0,1,false),(1,1,false),(2,3,true),(5,3,true)],size:=8,bytes:=72,zero:=[.dat (.bool false),.dat (.bool false),.dat (.int .i64 0),.dat (.int .i64 0),.dat (.str ⟨#[]⟩),.dat (.int .i64 0),.dat (.int .i64 0),.dat (.str ⟨#[]⟩)],cmp:=[.bool,.bool,.int,.int,.str,.int,.int,.str] }:=by kernel_rfl
theorem aBS:dI Tryz.prog 573=some { k:=.struct [(0,1,false),(1,1,false)],size:=2,bytes:=32,zero:=[.dat (.str ⟨#[]⟩),.dat (.str ⟨#[]⟩)],cmp:=[.str,.str] }:=by kernel_rfl
theorem aCh:dI Tryz.prog 597=some { k:=.struct [(0,1,false),(1,1,false),(2,1,false),(3,1,false),(4,1,false)],size:=5,bytes:=56,zero:=[.dat (.int .i64 0),.dat (.int .i64 0),.dat (.int .i64 0),.nil,.dat (.bool false)],sl:=[none,none,none,some (5,1),none] }:=by kernel_rfl
theorem aCV:dI Tryz.prog 599=some { k:=.struct [(0,1,false),(1,1,false),(2,5,true)],size:=7,bytes:=88,zero:=[.dat (.str ⟨#[]⟩),.dat (.str ⟨#[]⟩),.dat (.int .i64 0),.dat (.int .i64 0),.dat (.int .i64 0),.nil,.dat (.bool false)],sl:=[none,none,none,none,none,some (5,1),none] }:=by kernel_rfl
theorem aCH:dI Tryz.prog 601=some { k:=.struct [(0,1,false),(1,1,false)],size:=2,bytes:=24,zero:=[.dat (.str ⟨#[]⟩),.dat (.int .i64 0)],cmp:=[.str,.int] }:=by kernel_rfl
abbrev Sc:=pC Tryz.prog
def M.aK.rs(r:M.aK):List RC:=[.ro (.int .i64 r.aJq),.ro (.int .i64 r.Seq)]
def M.Ask.rs(r:M.Ask):List RC:=[.ro (.int .i64 r.aJr),.ro (.int .i64 r.R),.ro (.int .i64 r.N),.ro (.str r.aJ2),.ro (.int .i64 r.Value)]
def M.aJa.ra(r:M.aJa):List RC:=[.ro (.str r.aJj),.ro (.str r.Top),.ro (.str r.aJc.aJj),.ro (.int .i64 r.aJc.aJ9),.ro (.int .i64 r.aJc.aKE),.ro (.int .i64 r.aJc.aKL),.any (.sl (List.map M.aJs.en r.aJk.aJk)),.ro (.str r.bL.aJz.Name),.ro (.int .i64 r.bL.aJz.aJd),.any (.sl (List.map M.aD.en r.bL.aJz.aJm)),.any (.sl (List.map M.aG.en r.bL.aJz.aJw)),.any (.sl (List.map enB r.bL.Log)),.ro (.int .i64 r.bL.aKJ),.ro (.str r.aE.aJz.Name),.any (.sl (List.map M.aJl.en r.aE.aJz.aJe)),.ro (.int .i64 r.aE.aJz.aJ7),.ro (.int .i64 r.aE.aKV),.ro (.int .i64 r.aE.aJx.aM.aJq),.ro (.int .i64 r.aE.aJx.aM.aKM),.any (.sl (List.map M.aW.en r.aE.aJx.aM.aJ1)),.ro (.int .i64 r.aE.aJx.aKP),.ro (.int .i64 r.aE.aJx.aKC),.ro (.int .i64 r.aJ4),.ro (.bool r.aJ3)]
def M.aJa.rs(r:M.aJa):List RC:=[.ro (.str r.aJj),.ro (.str r.Top),.ro (.str r.aJc.aJj),.ro (.int .i64 r.aJc.aJ9),.ro (.int .i64 r.aJc.aKE),.ro (.int .i64 r.aJc.aKL),.own 277 2 (List.map M.aJs.en r.aJk.aJk),.ro (.str r.bL.aJz.Name),.ro (.int .i64 r.bL.aJz.aJd),.own 75 3 (List.map M.aD.en r.bL.aJz.aJm),.own 382 2 (List.map M.aG.en r.bL.aJz.aJw),.own 5 1 (List.map enB r.bL.Log),.ro (.int .i64 r.bL.aKJ),.ro (.str r.aE.aJz.Name),.own 320 4 (List.map M.aJl.en r.aE.aJz.aJe),.ro (.int .i64 r.aE.aJz.aJ7),.ro (.int .i64 r.aE.aKV),.ro (.int .i64 r.aE.aJx.aM.aJq),.ro (.int .i64 r.aE.aJx.aM.aKM),.own 269 7 (List.map M.aW.en r.aE.aJx.aM.aJ1),.ro (.int .i64 r.aE.aJx.aKP),.ro (.int .i64 r.aE.aJx.aKC),.ro (.int .i64 r.aJ4),.ro (.bool r.aJ3)]
def M.aJs.rs(r:M.aJs):List RC:=[.ro (.int .i64 r.aJd),.own 279 7 (List.map M.aJo.en r.aJt)]
def M.aO.rs(r:M.aO):List RC:=[.own 277 2 (List.map M.aJs.en r.aJk)]
def M.aJo.rs(r:M.aJo):List RC:=[.ro (.str r.aJj),.ro (.str r.aKG),.ro (.int .i64 r.aJg.aKU),.ro (.int .i64 r.aJg.aKK),.ro (.int .i64 r.aJg.aJd),.own 5 1 (List.map enB r.aJg.aKS),.ro (.bool r.aJg.aKZ)]
def M.aJp.rs(r:M.aJp):List RC:=[.own 147 3 (List.map M.kK.en r.aKI)]
def M.aJb.ra(r:M.aJb):List RC:=[.ro (.str r.Name),.ro (.int .i64 r.aJd),.any (.sl (List.map M.aD.en r.aJm)),.any (.sl (List.map M.aG.en r.aJw))]
def M.aJb.rs(r:M.aJb):List RC:=[.ro (.str r.Name),.ro (.int .i64 r.aJd),.own 75 3 (List.map M.aD.en r.aJm),.own 382 2 (List.map M.aG.en r.aJw)]
def M.bL.rs(r:M.bL):List RC:=[.ro (.str r.aJz.Name),.ro (.int .i64 r.aJz.aJd),.own 75 3 (List.map M.aD.en r.aJz.aJm),.own 382 2 (List.map M.aG.en r.aJz.aJw),.own 5 1 (List.map enB r.Log),.ro (.int .i64 r.aKJ)]
def M.Field.rs(r:M.Field):List RC:=[.ro (.str r.Name),.ro (.int .i64 r.N)]
def M.aG.rs(r:M.aG):List RC:=[.ro (.str r.aD),.ro (.str r.Field)]
def M.Instr.rs(r:M.Instr):List RC:=[.ro (.int .i64 r.aJr),.ro (.int .i64 r.R),.ro (.int .i64 r.N),.ro (.str r.aJ2)]
def M.aJl.rs(r:M.aJl):List RC:=[.ro (.int .i64 r.Key.aJr),.ro (.int .i64 r.Key.N),.ro (.str r.Key.aJ2),.own 322 2 (List.map M.Field.en r.aA.aJi)]
def M.Key.rs(r:M.Key):List RC:=[.ro (.int .i64 r.aJr),.ro (.int .i64 r.N),.ro (.str r.aJ2)]
def M.aJ.rs(r:M.aJ):List RC:=[.ro (.str r.aKG),.ro (.int .i64 r.aJd)]
def M.fE.rs(r:M.fE):List RC:=[.ro (.str r.Name),.ro (.int .i64 r.bD),.ro (.bool r.aKF),.ro (.bool r.aKb)]
def M.aQ.rs(r:M.aQ):List RC:=[.own 144 4 (List.map M.fE.en r.aJv)]
def M.aJf.rs(r:M.aJf):List RC:=[.own 197 4 (List.map M.Instr.en r.aJ5),.ro (.int .i64 r.Pc),.own 3 1 (List.map enI r.aKH),.ro (.int .i64 r.aKO),.ro (.bool r.aKT),.ro (.bool r.aKQ)]
def M.kK.rs(r:M.kK):List RC:=[.ro (.int .i64 r.To),.ro (.int .i64 r.aKe),.ro (.int .i64 r.N)]
def M.Op.rs(r:M.Op):List RC:=[.ro (.int .i64 r.aJr),.ro (.str r.aD),.ro (.int .i64 r.Key.aJr),.ro (.int .i64 r.Key.N),.ro (.str r.Key.aJ2),.own 322 2 (List.map M.Field.en r.aA.aJi),.ro (.str r.Field)]
def M.aM.rs(r:M.aM):List RC:=[.ro (.int .i64 r.aJq),.ro (.int .i64 r.aKM),.own 269 7 (List.map M.aW.en r.aJ1)]
def M.bD.rs(r:M.bD):List RC:=[.ro (.int .i64 r.Id),.ro (.str r.aJj),.ro (.str r.Top),.ro (.int .i64 r.aJd),.own 204 2 (List.map M.aJ.en r.aJ),.own 197 4 (List.map M.Instr.en r.aJf.aJ5),.ro (.int .i64 r.aJf.Pc),.own 3 1 (List.map enI r.aJf.aKH),.ro (.int .i64 r.aJf.aKO),.ro (.bool r.aJf.aKT),.ro (.bool r.aJf.aKQ)]
def M.aA.ra(r:M.aA):List RC:=[.any (.sl (List.map M.Field.en r.aJi))]
def M.aA.rs(r:M.aA):List RC:=[.own 322 2 (List.map M.Field.en r.aJi)]
def M.aJc.rs(r:M.aJc):List RC:=[.ro (.str r.aJj),.ro (.int .i64 r.aJ9),.ro (.int .i64 r.aKE),.ro (.int .i64 r.aKL)]
def M.aE.rs(r:M.aE):List RC:=[.ro (.str r.aJz.Name),.own 320 4 (List.map M.aJl.en r.aJz.aJe),.ro (.int .i64 r.aJz.aJ7),.ro (.int .i64 r.aKV),.ro (.int .i64 r.aJx.aM.aJq),.ro (.int .i64 r.aJx.aM.aKM),.own 269 7 (List.map M.aW.en r.aJx.aM.aJ1),.ro (.int .i64 r.aJx.aKP),.ro (.int .i64 r.aJx.aKC)]
def M.aJg.rs(r:M.aJg):List RC:=[.ro (.int .i64 r.aKU),.ro (.int .i64 r.aKK),.ro (.int .i64 r.aJd),.own 5 1 (List.map enB r.aKS),.ro (.bool r.aKZ)]
def M.aJn.rs(r:M.aJn):List RC:=[.ro (.str r.aD.Name),.own 320 4 (List.map M.aJl.en r.aD.aJe),.ro (.int .i64 r.aD.aJ7),.own 266 2 (List.map M.aK.en r.aK),.own 269 7 (List.map M.aW.en r.aJ8)]
def M.aJj.ra(r:M.aJj):List RC:=[.ro (.str r.Name),.ro (.int .i64 r.aJd),.any (.sl (List.map enS r.aKA)),.ro (.bool r.aKF)]
def M.aJj.rs(r:M.aJj):List RC:=[.ro (.str r.Name),.ro (.int .i64 r.aJd),.own 9 1 (List.map enS r.aKA),.ro (.bool r.aKF)]
def M.aC.rs(r:M.aC):List RC:=[.own 84 24 (List.map M.aJa.en r.aJh)]
def M.aD.ra(r:M.aD):List RC:=[.ro (.str r.Name),.any (.sl (List.map M.aJl.en r.aJe)),.ro (.int .i64 r.aJ7)]
def M.aD.rs(r:M.aD):List RC:=[.ro (.str r.Name),.own 320 4 (List.map M.aJl.en r.aJe),.ro (.int .i64 r.aJ7)]
def M.aJx.rs(r:M.aJx):List RC:=[.ro (.int .i64 r.aM.aJq),.ro (.int .i64 r.aM.aKM),.own 269 7 (List.map M.aW.en r.aM.aJ1),.ro (.int .i64 r.aKP),.ro (.int .i64 r.aKC)]
def M.World.rs(r:M.World):List RC:=[.ro (.int .i64 r.Now),.ro (.bool r.aKB),.ro (.int .i64 r.aJq),.own 84 24 (List.map M.aJa.en r.aC.aJh),.own 91 11 (List.map M.bD.en r.aJu),.ro (.int .i64 r.aJy),.own 144 4 (List.map M.fE.en r.aJv.aJv),.own 147 3 (List.map M.kK.en r.aJp.aKI),.own 151 4 (List.map M.aJj.en r.aJ6),.own 156 5 (List.map M.aJn.en r.aJ0)]
def M.aW.rs(r:M.aW):List RC:=[.ro (.int .i64 r.aJq),.ro (.int .i64 r.Seq),.ro (.int .i64 r.Key.aJr),.ro (.int .i64 r.Key.N),.ro (.str r.Key.aJ2),.ro (.str r.Field),.ro (.int .i64 r.N)]
def Z8:Ff:=oB 50 [cI 0,cB false,cI 0,.nil,.nil,cI 0,.nil,.nil,.nil,.nil]
def W8:Ff:=oB 70 [cS (⟨#[]⟩:ByteArray),cI 0,.nil,.nil]
def aCa:Ff:=oB 89 [.nil,cI 0,.nil,cI 0,cB false,cB false]
def aIp:Ff:=oB 91 [cI 0,cS (⟨#[]⟩:ByteArray),cS (⟨#[]⟩:ByteArray),cI 0,.nil,.nil,cI 0,.nil,cI 0,cB false,cB false]
def ZX:Ff:=oB 102 [cI 0,cI 0,cI 0,cS (⟨#[]⟩:ByteArray),cI 0]
def aBy:Ff:=oB 219 [cI 0,cS (⟨#[]⟩:ByteArray),cI 0,cI 0,cS (⟨#[]⟩:ByteArray),.nil,cS (⟨#[]⟩:ByteArray)]
def Ut:Ff:=oB 434 [.nil,.nil,.nil,.nil]
def aHk:=PLift.up (qI ti3 (qI ti4 (qI ti5 (qI ti9 (qI aIo (qI aIc (qI aJV (qI aJE (qI aIz (qI aJK (qI aIq (qI aJF (qI aI8 (qI aI0 (qI aId (qI aJS (qI aJB (qI aJN (qI aJG (qI aIw (qI aJY (qI aIr (qI aIW (qI aIU (qI Rq (qI aIP (qI aIT (qI aIk (qI aIl (qI aIt (qI aIV (qI aIM (qI SZ (qI Sy (qI aIy (qI aIZ (qI aI6 (qI aI9 (qI L8 (qI aIX (qI aIg (qI aJX (qI aIs (qI aIO (qI aCF (qI aCb (qI aBv (qI aBI (qI aBH (qI aBr (qI aBE (qI aBK (qI aCS (qI aBz (qI aBn (qI aBV (qI aCi (qI aB4 (qI aB8 (qI aCN (qI aCj (qI aBk (qI aBl (qI aA7 (qI aBQ (qI Zt (qI ZD (qI Qn (qI aBe (qI aA8 (qI aCc (qI aB5 (qI aBB (qI aBF (qI aBa (qI aCP (qI aBT (qI aA9 (qI aCZ (qI aCT (qI aBs (qI aBO (qI aBJ (qI aBR (qI aBw (qI aB7 (qI Oq (qI aBx (qI aBf (qI aBY (qI aBt (qI aB2 (qI aBh (qI aBq (qI aBA (qI IF (qI aCW (qI aBi (qI aCA (qI aCB (qI aCJ (qI aB9 (qI aCL (qI aBS (qI aCh (qI aCV aCH))))))))))))))))))))))))))))))))))))))))))))))))))))))))))))))))))))))))))))))))))))))))))))))))))))))))))
theorem TB:type_of% aHk.down:=aHk.down
def aFw:=PLift.up (qI @enI.eq_1 (qI @enB.eq_1 (qI @enS.eq_1 (qI @enT.eq_1 (qI @enL.eq_1 (qI @enI.fl (qI @enB.fl (qI @enS.fl (qI @enT.fl (qI @WQ (qI @J2 (qI @Ip (qI @aI.eq_1 (qI @aB.eq_1 (qI @aS.eq_1 (qI @aL.eq_1 (qI @aX.eq_1 (qI @cI.eq_1 (qI @cB.eq_1 (qI @cS.eq_1 (qI @cL.eq_1 (qI @vI.eq_1 (qI @vB.eq_1 (qI @vS.eq_1 (qI @vL.eq_1 (qI @vR.eq_1 (qI @vP.eq_1 (qI @oX.eq_1 (qI @oB.eq_1 (qI @oW.eq_1 (qI @rI.eq_1 (qI @rB.eq_1 (qI @rS.eq_1 (qI @rW.eq_1 (qI @M.aK.rs.eq_1 (qI @M.Ask.rs.eq_1 (qI @M.aJa.ra.eq_1 (qI @M.aJa.rs.eq_1 (qI @M.aJs.rs.eq_1 (qI @M.aO.rs.eq_1 (qI @M.aJo.rs.eq_1 (qI @M.aJp.rs.eq_1 (qI @M.aJb.ra.eq_1 (qI @M.aJb.rs.eq_1 (qI @M.bL.rs.eq_1 (qI @M.Field.rs.eq_1 (qI @M.aG.rs.eq_1 (qI @M.Instr.rs.eq_1 (qI @M.aJl.rs.eq_1 (qI @M.Key.rs.eq_1 (qI @M.aJ.rs.eq_1 (qI @M.fE.rs.eq_1 (qI @M.aQ.rs.eq_1 (qI @M.aJf.rs.eq_1 (qI @M.kK.rs.eq_1 (qI @M.Op.rs.eq_1 (qI @M.aM.rs.eq_1 (qI @M.bD.rs.eq_1 (qI @M.aA.ra.eq_1 (qI @M.aA.rs.eq_1 (qI @M.aJc.rs.eq_1 (qI @M.aE.rs.eq_1 (qI @M.aJg.rs.eq_1 (qI @M.aJn.rs.eq_1 (qI @M.aJj.ra.eq_1 (qI @M.aJj.rs.eq_1 (qI @M.aC.rs.eq_1 (qI @M.aD.ra.eq_1 (qI @M.aD.rs.eq_1 (qI @M.aJx.rs.eq_1 (qI @M.World.rs.eq_1 (qI @M.aW.rs.eq_1 (qI @Z8.eq_1 (qI @W8.eq_1 (qI @aCa.eq_1 (qI @aIp.eq_1 (qI @ZX.eq_1 (qI @aBy.eq_1 (qI @Ut.eq_1 (qI @M.aJc.en.eq_1 (qI @M.aJc.en.fl (qI @M.aJg.en.eq_1 (qI @M.aJo.en.eq_1 (qI @M.aJs.en.eq_1 (qI @M.aO.en.eq_1 (qI @M.Key.en.eq_1 (qI @M.Key.en.fl (qI @M.Field.en.eq_1 (qI @M.Field.en.fl (qI @M.aA.en.eq_1 (qI @M.aJl.en.eq_1 (qI @M.aD.en.eq_1 (qI @M.aG.en.eq_1 (qI @M.aG.en.fl (qI @M.aJb.en.eq_1 (qI @M.bL.en.eq_1 (qI @M.aW.en.eq_1 (qI @M.aW.en.fl (qI @M.aM.en.eq_1 (qI @M.aJx.en.eq_1 (qI @M.aE.en.eq_1 (qI @M.aJa.en.eq_1 (qI @M.aC.en.eq_1 (qI @M.aJ.en.eq_1 (qI @M.aJ.en.fl (qI @M.Instr.en.eq_1 (qI @M.Instr.en.fl (qI @M.aJf.en.eq_1 (qI @M.bD.en.eq_1 (qI @M.fE.en.eq_1 (qI @M.fE.en.fl (qI @M.aQ.en.eq_1 (qI @M.kK.en.eq_1 (qI @M.kK.en.fl (qI @M.aJp.en.eq_1 (qI @M.aJj.en.eq_1 (qI @M.aK.en.eq_1 (qI @M.aK.en.fl (qI @M.aJn.en.eq_1 (qI @M.World.en.eq_1 (qI @M.Ask.en.eq_1 (qI @M.Ask.en.fl (qI @M.Op.en.eq_1 (qI @M.dE.en.eq_1 @M.dE.en.fl))))))))))))))))))))))))))))))))))))))))))))))))))))))))))))))))))))))))))))))))))))))))))))))))))))))))))))))))))))))))))))
theorem EN:type_of% aFw.down:=aFw.down
