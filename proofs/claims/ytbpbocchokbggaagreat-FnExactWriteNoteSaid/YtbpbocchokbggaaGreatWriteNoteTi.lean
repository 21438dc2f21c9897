/-
  Helper text. No conditions.
-/
import Derived.Test.YtbpbocchokbggaaGreatWriteNoteMod
import Derived.Test.YtbpbocchokbggaaGreatProg
import Derived.KernelRfl
set_option linter.all false
namespace Go.Proofs.YtbpbocchokbggaaGreat.gen
open Go Go.Sh
theorem mixed:Tryz.prog.follows .mixedOrders=true:=by kernel_rfl
theorem ti3:cW Tryz.prog 3=some { k:=.int .i64,size:=1,bytes:=8,zero:=[.dat (.int .i64 0)] }:=by kernel_rfl
theorem ti4:cW Tryz.prog 4=some { k:=.bool,size:=1,bytes:=1,zero:=[.dat (.bool false)] }:=by kernel_rfl
theorem ti5:cW Tryz.prog 5=some { k:=.int .u8,size:=1,bytes:=1,zero:=[.dat (.int .u8 0)] }:=by kernel_rfl
theorem ti9:cW Tryz.prog 9=some { k:=.str,size:=1,bytes:=16,zero:=[.dat (.str ⟨#[]⟩)] }:=by kernel_rfl
theorem aDf:cW Tryz.prog 22=some { k:=.slice 370,size:=1,bytes:=24,zero:=[.nil],sl:=[some (370,24)] }:=by kernel_rfl
theorem aDW:cW Tryz.prog 24=some { k:=.struct [(0,1,false)],size:=1,bytes:=24,zero:=[.nil],sl:=[some (370,24)] }:=by kernel_rfl
theorem aEA:cW Tryz.prog 25=some { k:=.slice 42,size:=1,bytes:=24,zero:=[.nil],sl:=[some (42,11)] }:=by kernel_rfl
theorem aDy:cW Tryz.prog 26=some { k:=.slice 372,size:=1,bytes:=24,zero:=[.nil],sl:=[some (372,4)] }:=by kernel_rfl
theorem aDm:cW Tryz.prog 28=some { k:=.struct [(0,1,false)],size:=1,bytes:=24,zero:=[.nil],sl:=[some (372,4)] }:=by kernel_rfl
theorem aD3:cW Tryz.prog 29=some { k:=.slice 391,size:=1,bytes:=24,zero:=[.nil],sl:=[some (391,3)] }:=by kernel_rfl
theorem aDh:cW Tryz.prog 31=some { k:=.struct [(0,1,false)],size:=1,bytes:=24,zero:=[.nil],sl:=[some (391,3)] }:=by kernel_rfl
theorem aDz:cW Tryz.prog 32=some { k:=.slice 238,size:=1,bytes:=24,zero:=[.nil],sl:=[some (238,4)] }:=by kernel_rfl
theorem aDq:cW Tryz.prog 33=some { k:=.slice 246,size:=1,bytes:=24,zero:=[.nil],sl:=[some (246,5)] }:=by kernel_rfl
theorem TX:cW Tryz.prog 35=some { k:=.struct [(0,1,false),(1,1,false),(2,1,false),(3,1,true),(4,1,false),(5,1,false),(6,1,true),(7,1,true),(8,1,false),(9,1,false)],size:=10,bytes:=176,zero:=[.dat (.int .i64 0),.dat (.bool false),.dat (.int .i64 0),.nil,.nil,.dat (.int .i64 0),.nil,.nil,.nil,.nil],sl:=[none,none,none,some (370,24),some (42,11),none,some (372,4),some (391,3),some (238,4),some (246,5)] }:=by kernel_rfl
theorem aDM:cW Tryz.prog 36=some { k:=.slice 248,size:=1,bytes:=24,zero:=[.nil],sl:=[some (248,2)] }:=by kernel_rfl
theorem aDX:cW Tryz.prog 37=some { k:=.slice 377,size:=1,bytes:=24,zero:=[.nil],sl:=[some (377,4)] }:=by kernel_rfl
theorem aED:cW Tryz.prog 38=some { k:=.slice 3,size:=1,bytes:=24,zero:=[.nil],sl:=[some (3,1)] }:=by kernel_rfl
theorem aDs:cW Tryz.prog 40=some { k:=.struct [(0,1,false),(1,1,false),(2,1,false),(3,1,false),(4,1,false),(5,1,false)],size:=6,bytes:=72,zero:=[.nil,.dat (.int .i64 0),.nil,.dat (.int .i64 0),.dat (.bool false),.dat (.bool false)],sl:=[some (377,4),none,some (3,1),none,none,none] }:=by kernel_rfl
theorem T9:cW Tryz.prog 42=some { k:=.struct [(0,1,false),(1,1,false),(2,1,false),(3,1,false),(4,1,false),(5,6,true)],size:=11,bytes:=144,zero:=[.dat (.int .i64 0),.dat (.str ⟨#[]⟩),.dat (.str ⟨#[]⟩),.dat (.int .i64 0),.nil,.nil,.dat (.int .i64 0),.nil,.dat (.int .i64 0),.dat (.bool false),.dat (.bool false)],sl:=[none,none,none,none,some (248,2),some (377,4),none,some (3,1),none,none,none] }:=by kernel_rfl
theorem aDj:cW Tryz.prog 45=some { k:=.slice 126,size:=1,bytes:=24,zero:=[.nil],sl:=[some (126,24)] }:=by kernel_rfl
theorem aDi:cW Tryz.prog 47=some { k:=.struct [(0,1,false)],size:=1,bytes:=24,zero:=[.nil],sl:=[some (126,24)] }:=by kernel_rfl
theorem aDS:cW Tryz.prog 48=some { k:=.slice 67,size:=1,bytes:=24,zero:=[.nil],sl:=[some (67,11)] }:=by kernel_rfl
theorem aD5:cW Tryz.prog 49=some { k:=.slice 196,size:=1,bytes:=24,zero:=[.nil],sl:=[some (196,4)] }:=by kernel_rfl
theorem aEF:cW Tryz.prog 51=some { k:=.struct [(0,1,false)],size:=1,bytes:=24,zero:=[.nil],sl:=[some (196,4)] }:=by kernel_rfl
theorem aDJ:cW Tryz.prog 52=some { k:=.slice 199,size:=1,bytes:=24,zero:=[.nil],sl:=[some (199,3)] }:=by kernel_rfl
theorem aD0:cW Tryz.prog 54=some { k:=.struct [(0,1,false)],size:=1,bytes:=24,zero:=[.nil],sl:=[some (199,3)] }:=by kernel_rfl
theorem aDk:cW Tryz.prog 55=some { k:=.slice 92,size:=1,bytes:=24,zero:=[.nil],sl:=[some (92,4)] }:=by kernel_rfl
theorem aDO:cW Tryz.prog 56=some { k:=.slice 205,size:=1,bytes:=24,zero:=[.nil],sl:=[some (205,5)] }:=by kernel_rfl
theorem Uk:cW Tryz.prog 58=some { k:=.struct [(0,1,false),(1,1,false),(2,1,false),(3,1,true),(4,1,false),(5,1,false),(6,1,true),(7,1,true),(8,1,false),(9,1,false)],size:=10,bytes:=176,zero:=[.dat (.int .i64 0),.dat (.bool false),.dat (.int .i64 0),.nil,.nil,.dat (.int .i64 0),.nil,.nil,.nil,.nil],sl:=[none,none,none,some (126,24),some (67,11),none,some (196,4),some (199,3),some (92,4),some (205,5)] }:=by kernel_rfl
theorem aDv:cW Tryz.prog 62=some { k:=.slice 81,size:=1,bytes:=24,zero:=[.nil],sl:=[some (81,2)] }:=by kernel_rfl
theorem aDK:cW Tryz.prog 63=some { k:=.slice 308,size:=1,bytes:=24,zero:=[.nil],sl:=[some (308,4)] }:=by kernel_rfl
theorem aDo:cW Tryz.prog 65=some { k:=.struct [(0,1,false),(1,1,false),(2,1,false),(3,1,false),(4,1,false),(5,1,false)],size:=6,bytes:=72,zero:=[.nil,.dat (.int .i64 0),.nil,.dat (.int .i64 0),.dat (.bool false),.dat (.bool false)],sl:=[some (308,4),none,some (3,1),none,none,none] }:=by kernel_rfl
theorem aDd:cW Tryz.prog 67=some { k:=.struct [(0,1,false),(1,1,false),(2,1,false),(3,1,false),(4,1,false),(5,6,true)],size:=11,bytes:=144,zero:=[.dat (.int .i64 0),.dat (.str ⟨#[]⟩),.dat (.str ⟨#[]⟩),.dat (.int .i64 0),.nil,.nil,.dat (.int .i64 0),.nil,.dat (.int .i64 0),.dat (.bool false),.dat (.bool false)],sl:=[none,none,none,none,some (81,2),some (308,4),none,some (3,1),none,none,none] }:=by kernel_rfl
theorem NN:cW Tryz.prog 74=some { k:=.slice 5,size:=1,bytes:=24,zero:=[.nil],sl:=[some (5,1)] }:=by kernel_rfl
theorem aDN:cW Tryz.prog 81=some { k:=.struct [(0,1,false),(1,1,false)],size:=2,bytes:=24,zero:=[.dat (.str ⟨#[]⟩),.dat (.int .i64 0)],cmp:=[.str,.int] }:=by kernel_rfl
theorem aDl:cW Tryz.prog 90=some { k:=.slice 9,size:=1,bytes:=24,zero:=[.nil],sl:=[some (9,1)] }:=by kernel_rfl
theorem aD7:cW Tryz.prog 92=some { k:=.struct [(0,1,false),(1,1,false),(2,1,false),(3,1,false)],size:=4,bytes:=56,zero:=[.dat (.str ⟨#[]⟩),.dat (.int .i64 0),.nil,.dat (.bool false)],sl:=[none,none,some (9,1),none] }:=by kernel_rfl
theorem XR:cW Tryz.prog 105=some { k:=.struct [(0,1,false),(1,1,false),(2,1,false),(3,1,false)],size:=4,bytes:=40,zero:=[.dat (.str ⟨#[]⟩),.dat (.int .i64 0),.dat (.int .i64 0),.dat (.int .i64 0)],cmp:=[.str,.int,.int,.int] }:=by kernel_rfl
theorem XW:cW Tryz.prog 106=some { k:=.slice 345,size:=1,bytes:=24,zero:=[.nil],sl:=[some (345,2)] }:=by kernel_rfl
theorem XH:cW Tryz.prog 108=some { k:=.struct [(0,1,false)],size:=1,bytes:=24,zero:=[.nil],sl:=[some (345,2)] }:=by kernel_rfl
theorem XN:cW Tryz.prog 109=some { k:=.slice 117,size:=1,bytes:=24,zero:=[.nil],sl:=[some (117,3)] }:=by kernel_rfl
theorem Xp:cW Tryz.prog 110=some { k:=.slice 471,size:=1,bytes:=24,zero:=[.nil],sl:=[some (471,2)] }:=by kernel_rfl
theorem XG:cW Tryz.prog 112=some { k:=.struct [(0,1,false),(1,1,false),(2,1,false),(3,1,false)],size:=4,bytes:=72,zero:=[.dat (.str ⟨#[]⟩),.dat (.int .i64 0),.nil,.nil],sl:=[none,none,some (117,3),some (471,2)] }:=by kernel_rfl
theorem Yh:cW Tryz.prog 114=some { k:=.struct [(0,4,true),(4,1,false),(5,1,false)],size:=6,bytes:=104,zero:=[.dat (.str ⟨#[]⟩),.dat (.int .i64 0),.nil,.nil,.nil,.dat (.int .i64 0)],sl:=[none,none,some (117,3),some (471,2),some (5,1),none] }:=by kernel_rfl
theorem HF:cW Tryz.prog 115=some { k:=.slice 260,size:=1,bytes:=24,zero:=[.nil],sl:=[some (260,4)] }:=by kernel_rfl
theorem GK:cW Tryz.prog 117=some { k:=.struct [(0,1,false),(1,1,false),(2,1,false)],size:=3,bytes:=48,zero:=[.dat (.str ⟨#[]⟩),.nil,.dat (.int .i64 0)],sl:=[none,some (260,4),none] }:=by kernel_rfl
theorem X7:cW Tryz.prog 118=some { k:=.slice 328,size:=1,bytes:=24,zero:=[.nil],sl:=[some (328,7)] }:=by kernel_rfl
theorem Ys:cW Tryz.prog 120=some { k:=.struct [(0,1,false),(1,1,false),(2,1,false)],size:=3,bytes:=40,zero:=[.dat (.int .i64 0),.dat (.int .i64 0),.nil],sl:=[none,none,some (328,7)] }:=by kernel_rfl
theorem XU:cW Tryz.prog 122=some { k:=.struct [(0,3,true),(3,1,false),(4,1,false)],size:=5,bytes:=56,zero:=[.dat (.int .i64 0),.dat (.int .i64 0),.nil,.dat (.int .i64 0),.dat (.int .i64 0)],sl:=[none,none,some (328,7),none,none] }:=by kernel_rfl
theorem X0:cW Tryz.prog 124=some { k:=.struct [(0,3,true),(3,1,false),(4,5,true)],size:=9,bytes:=112,zero:=[.dat (.str ⟨#[]⟩),.nil,.dat (.int .i64 0),.dat (.int .i64 0),.dat (.int .i64 0),.dat (.int .i64 0),.nil,.dat (.int .i64 0),.dat (.int .i64 0)],sl:=[none,some (260,4),none,none,none,none,some (328,7),none,none] }:=by kernel_rfl
theorem CJ:cW Tryz.prog 126=some { k:=.struct [(0,1,false),(1,1,false),(2,4,true),(6,1,true),(7,6,true),(13,9,true),(22,1,false),(23,1,false)],size:=24,bytes:=328,zero:=[.dat (.str ⟨#[]⟩),.dat (.str ⟨#[]⟩),.dat (.str ⟨#[]⟩),.dat (.int .i64 0),.dat (.int .i64 0),.dat (.int .i64 0),.nil,.dat (.str ⟨#[]⟩),.dat (.int .i64 0),.nil,.nil,.nil,.dat (.int .i64 0),.dat (.str ⟨#[]⟩),.nil,.dat (.int .i64 0),.dat (.int .i64 0),.dat (.int .i64 0),.dat (.int .i64 0),.nil,.dat (.int .i64 0),.dat (.int .i64 0),.dat (.int .i64 0),.dat (.bool false)],sl:=[none,none,none,none,none,none,some (345,2),none,none,some (117,3),some (471,2),some (5,1),none,none,some (260,4),none,none,none,none,some (328,7),none,none,none,none] }:=by kernel_rfl
theorem X4:cW Tryz.prog 127=some { k:=.slice 262,size:=1,bytes:=24,zero:=[.nil],sl:=[some (262,2)] }:=by kernel_rfl
theorem VW:cW Tryz.prog 129=some { k:=.struct [(0,1,false)],size:=1,bytes:=24,zero:=[.nil],sl:=[some (262,2)] }:=by kernel_rfl
theorem U7:cW Tryz.prog 136=some { k:=.struct [(0,1,false),(1,1,false),(2,1,false)],size:=3,bytes:=32,zero:=[.dat (.int .i64 0),.dat (.int .i64 0),.dat (.str ⟨#[]⟩)],cmp:=[.int,.int,.str] }:=by kernel_rfl
theorem L9:cW Tryz.prog 139=some { k:=.struct [(0,1,false),(1,1,false),(2,3,true),(5,1,true),(6,1,false)],size:=7,bytes:=96,zero:=[.dat (.int .i64 0),.dat (.str ⟨#[]⟩),.dat (.int .i64 0),.dat (.int .i64 0),.dat (.str ⟨#[]⟩),.nil,.dat (.str ⟨#[]⟩)],sl:=[none,none,none,none,none,some (262,2),none] }:=by kernel_rfl
theorem XL:cW Tryz.prog 140=some { k:=.slice 139,size:=1,bytes:=24,zero:=[.nil],sl:=[some (139,7)] }:=by kernel_rfl
theorem XZ:cW Tryz.prog 189=some { k:=.struct [(0,1,false),(1,1,false),(2,1,false),(3,1,false),(4,1,false)],size:=5,bytes:=56,zero:=[.dat (.int .i64 0),.dat (.int .i64 0),.dat (.int .i64 0),.nil,.dat (.bool false)],sl:=[none,none,none,some (5,1),none] }:=by kernel_rfl
theorem Xf:cW Tryz.prog 196=some { k:=.struct [(0,1,false),(1,1,false),(2,1,false),(3,1,false)],size:=4,bytes:=32,zero:=[.dat (.str ⟨#[]⟩),.dat (.int .i64 0),.dat (.bool false),.dat (.bool false)],cmp:=[.str,.int,.bool,.bool] }:=by kernel_rfl
theorem Xn:cW Tryz.prog 199=some { k:=.struct [(0,1,false),(1,1,false),(2,1,false)],size:=3,bytes:=24,zero:=[.dat (.int .i64 0),.dat (.int .i64 0),.dat (.int .i64 0)],cmp:=[.int,.int,.int] }:=by kernel_rfl
theorem W2:cW Tryz.prog 203=some { k:=.slice 325,size:=1,bytes:=24,zero:=[.nil],sl:=[some (325,2)] }:=by kernel_rfl
theorem Xo:cW Tryz.prog 205=some { k:=.struct [(0,3,true),(3,1,false),(4,1,false)],size:=5,bytes:=96,zero:=[.dat (.str ⟨#[]⟩),.nil,.dat (.int .i64 0),.nil,.nil],sl:=[none,some (260,4),none,some (325,2),some (328,7)] }:=by kernel_rfl
theorem Yu:cW Tryz.prog 238=some { k:=.struct [(0,1,false),(1,1,false),(2,1,false),(3,1,false)],size:=4,bytes:=56,zero:=[.dat (.str ⟨#[]⟩),.dat (.int .i64 0),.nil,.dat (.bool false)],sl:=[none,none,some (9,1),none] }:=by kernel_rfl
theorem Yj:cW Tryz.prog 240=some { k:=.slice 523,size:=1,bytes:=24,zero:=[.nil],sl:=[some (523,4)] }:=by kernel_rfl
theorem YA:cW Tryz.prog 242=some { k:=.struct [(0,1,false),(1,1,false),(2,1,false)],size:=3,bytes:=48,zero:=[.dat (.str ⟨#[]⟩),.nil,.dat (.int .i64 0)],sl:=[none,some (523,4),none] }:=by kernel_rfl
theorem Yi:cW Tryz.prog 243=some { k:=.slice 485,size:=1,bytes:=24,zero:=[.nil],sl:=[some (485,2)] }:=by kernel_rfl
theorem WX:cW Tryz.prog 244=some { k:=.slice 466,size:=1,bytes:=24,zero:=[.nil],sl:=[some (466,7)] }:=by kernel_rfl
theorem Xc:cW Tryz.prog 246=some { k:=.struct [(0,3,true),(3,1,false),(4,1,false)],size:=5,bytes:=96,zero:=[.dat (.str ⟨#[]⟩),.nil,.dat (.int .i64 0),.nil,.nil],sl:=[none,some (523,4),none,some (485,2),some (466,7)] }:=by kernel_rfl
theorem Ym:cW Tryz.prog 248=some { k:=.struct [(0,1,false),(1,1,false)],size:=2,bytes:=24,zero:=[.dat (.str ⟨#[]⟩),.dat (.int .i64 0)],cmp:=[.str,.int] }:=by kernel_rfl
theorem KX:cW Tryz.prog 260=some { k:=.struct [(0,3,true),(3,1,true)],size:=4,bytes:=56,zero:=[.dat (.int .i64 0),.dat (.int .i64 0),.dat (.str ⟨#[]⟩),.nil],sl:=[none,none,none,some (262,2)] }:=by kernel_rfl
theorem Xu:cW Tryz.prog 262=some { k:=.struct [(0,1,false),(1,1,false)],size:=2,bytes:=24,zero:=[.dat (.str ⟨#[]⟩),.dat (.int .i64 0)],cmp:=[.str,.int] }:=by kernel_rfl
theorem XX:cW Tryz.prog 281=some { k:=.slice 74,size:=1,bytes:=24,zero:=[.nil],sl:=[some (74,1)] }:=by kernel_rfl
theorem XT:cW Tryz.prog 308=some { k:=.struct [(0,1,false),(1,1,false),(2,1,false),(3,1,false)],size:=4,bytes:=40,zero:=[.dat (.int .i64 0),.dat (.int .i64 0),.dat (.int .i64 0),.dat (.str ⟨#[]⟩)],cmp:=[.int,.int,.int,.str] }:=by kernel_rfl
theorem W3:cW Tryz.prog 325=some { k:=.struct [(0,1,false),(1,1,false)],size:=2,bytes:=16,zero:=[.dat (.int .i64 0),.dat (.int .i64 0)],cmp:=[.int,.int] }:=by kernel_rfl
theorem Xa:cW Tryz.prog 328=some { k:=.struct [(0,1,false),(1,1,false),(2,3,true),(5,1,false),(6,1,false)],size:=7,bytes:=72,zero:=[.dat (.int .i64 0),.dat (.int .i64 0),.dat (.int .i64 0),.dat (.int .i64 0),.dat (.str ⟨#[]⟩),.dat (.str ⟨#[]⟩),.dat (.int .i64 0)],cmp:=[.int,.int,.int,.int,.str,.str,.int] }:=by kernel_rfl
theorem XF:cW Tryz.prog 343=some { k:=.slice 351,size:=1,bytes:=24,zero:=[.nil],sl:=[some (351,7)] }:=by kernel_rfl
theorem Yb:cW Tryz.prog 345=some { k:=.struct [(0,1,false),(1,1,false)],size:=2,bytes:=32,zero:=[.dat (.int .i64 0),.nil],sl:=[none,some (351,7)] }:=by kernel_rfl
theorem Xx:cW Tryz.prog 351=some { k:=.struct [(0,1,false),(1,1,false),(2,5,true)],size:=7,bytes:=88,zero:=[.dat (.str ⟨#[]⟩),.dat (.str ⟨#[]⟩),.dat (.int .i64 0),.dat (.int .i64 0),.dat (.int .i64 0),.nil,.dat (.bool false)],sl:=[none,none,none,none,none,some (5,1),none] }:=by kernel_rfl
theorem YI:cW Tryz.prog 353=some { k:=.struct [(0,1,false),(1,1,false),(2,1,false),(3,1,false)],size:=4,bytes:=40,zero:=[.dat (.str ⟨#[]⟩),.dat (.int .i64 0),.dat (.int .i64 0),.dat (.int .i64 0)],cmp:=[.str,.int,.int,.int] }:=by kernel_rfl
theorem Yl:cW Tryz.prog 354=some { k:=.slice 569,size:=1,bytes:=24,zero:=[.nil],sl:=[some (569,2)] }:=by kernel_rfl
theorem Xr:cW Tryz.prog 356=some { k:=.struct [(0,1,false)],size:=1,bytes:=24,zero:=[.nil],sl:=[some (569,2)] }:=by kernel_rfl
theorem Xz:cW Tryz.prog 357=some { k:=.slice 242,size:=1,bytes:=24,zero:=[.nil],sl:=[some (242,3)] }:=by kernel_rfl
theorem XJ:cW Tryz.prog 358=some { k:=.slice 602,size:=1,bytes:=24,zero:=[.nil],sl:=[some (602,2)] }:=by kernel_rfl
theorem XB:cW Tryz.prog 360=some { k:=.struct [(0,1,false),(1,1,false),(2,1,false),(3,1,false)],size:=4,bytes:=72,zero:=[.dat (.str ⟨#[]⟩),.dat (.int .i64 0),.nil,.nil],sl:=[none,none,some (242,3),some (602,2)] }:=by kernel_rfl
theorem XK:cW Tryz.prog 362=some { k:=.struct [(0,4,true),(4,1,false),(5,1,false)],size:=6,bytes:=104,zero:=[.dat (.str ⟨#[]⟩),.dat (.int .i64 0),.nil,.nil,.nil,.dat (.int .i64 0)],sl:=[none,none,some (242,3),some (602,2),some (5,1),none] }:=by kernel_rfl
theorem Yc:cW Tryz.prog 364=some { k:=.struct [(0,1,false),(1,1,false),(2,1,false)],size:=3,bytes:=40,zero:=[.dat (.int .i64 0),.dat (.int .i64 0),.nil],sl:=[none,none,some (466,7)] }:=by kernel_rfl
theorem YB:cW Tryz.prog 366=some { k:=.struct [(0,3,true),(3,1,false),(4,1,false)],size:=5,bytes:=56,zero:=[.dat (.int .i64 0),.dat (.int .i64 0),.nil,.dat (.int .i64 0),.dat (.int .i64 0)],sl:=[none,none,some (466,7),none,none] }:=by kernel_rfl
theorem X6:cW Tryz.prog 368=some { k:=.struct [(0,3,true),(3,1,false),(4,5,true)],size:=9,bytes:=112,zero:=[.dat (.str ⟨#[]⟩),.nil,.dat (.int .i64 0),.dat (.int .i64 0),.dat (.int .i64 0),.dat (.int .i64 0),.nil,.dat (.int .i64 0),.dat (.int .i64 0)],sl:=[none,some (523,4),none,none,none,none,some (466,7),none,none] }:=by kernel_rfl
theorem XV:cW Tryz.prog 370=some { k:=.struct [(0,1,false),(1,1,false),(2,4,true),(6,1,true),(7,6,true),(13,9,true),(22,1,false),(23,1,false)],size:=24,bytes:=328,zero:=[.dat (.str ⟨#[]⟩),.dat (.str ⟨#[]⟩),.dat (.str ⟨#[]⟩),.dat (.int .i64 0),.dat (.int .i64 0),.dat (.int .i64 0),.nil,.dat (.str ⟨#[]⟩),.dat (.int .i64 0),.nil,.nil,.nil,.dat (.int .i64 0),.dat (.str ⟨#[]⟩),.nil,.dat (.int .i64 0),.dat (.int .i64 0),.dat (.int .i64 0),.dat (.int .i64 0),.nil,.dat (.int .i64 0),.dat (.int .i64 0),.dat (.int .i64 0),.dat (.bool false)],sl:=[none,none,none,none,none,none,some (569,2),none,none,some (242,3),some (602,2),some (5,1),none,none,some (523,4),none,none,none,none,some (466,7),none,none,none,none] }:=by kernel_rfl
theorem Yt:cW Tryz.prog 372=some { k:=.struct [(0,1,false),(1,1,false),(2,1,false),(3,1,false)],size:=4,bytes:=32,zero:=[.dat (.str ⟨#[]⟩),.dat (.int .i64 0),.dat (.bool false),.dat (.bool false)],cmp:=[.str,.int,.bool,.bool] }:=by kernel_rfl
theorem X5:cW Tryz.prog 377=some { k:=.struct [(0,1,false),(1,1,false),(2,1,false),(3,1,false)],size:=4,bytes:=40,zero:=[.dat (.int .i64 0),.dat (.int .i64 0),.dat (.int .i64 0),.dat (.str ⟨#[]⟩)],cmp:=[.int,.int,.int,.str] }:=by kernel_rfl
theorem Xs:cW Tryz.prog 391=some { k:=.struct [(0,1,false),(1,1,false),(2,1,false)],size:=3,bytes:=24,zero:=[.dat (.int .i64 0),.dat (.int .i64 0),.dat (.int .i64 0)],cmp:=[.int,.int,.int] }:=by kernel_rfl
theorem Fm:cW Tryz.prog 402=some { k:=.arr 74 4,size:=4,bytes:=96,zero:=[.nil,.nil,.nil,.nil],sl:=[some (5,1),some (5,1),some (5,1),some (5,1)] }:=by kernel_rfl
theorem YH:cW Tryz.prog 464=some { k:=.struct [(0,1,false),(1,1,false),(2,1,false)],size:=3,bytes:=32,zero:=[.dat (.int .i64 0),.dat (.int .i64 0),.dat (.str ⟨#[]⟩)],cmp:=[.int,.int,.str] }:=by kernel_rfl
theorem XQ:cW Tryz.prog 466=some { k:=.struct [(0,1,false),(1,1,false),(2,3,true),(5,1,false),(6,1,false)],size:=7,bytes:=72,zero:=[.dat (.int .i64 0),.dat (.int .i64 0),.dat (.int .i64 0),.dat (.int .i64 0),.dat (.str ⟨#[]⟩),.dat (.str ⟨#[]⟩),.dat (.int .i64 0)],cmp:=[.int,.int,.int,.int,.str,.str,.int] }:=by kernel_rfl
theorem XY:cW Tryz.prog 471=some { k:=.struct [(0,1,false),(1,1,false)],size:=2,bytes:=32,zero:=[.dat (.str ⟨#[]⟩),.dat (.str ⟨#[]⟩)],cmp:=[.str,.str] }:=by kernel_rfl
theorem WZ:cW Tryz.prog 485=some { k:=.struct [(0,1,false),(1,1,false)],size:=2,bytes:=16,zero:=[.dat (.int .i64 0),.dat (.int .i64 0)],cmp:=[.int,.int] }:=by kernel_rfl
theorem YD:cW Tryz.prog 519=some { k:=.slice 626,size:=1,bytes:=24,zero:=[.nil],sl:=[some (626,2)] }:=by kernel_rfl
theorem Yn:cW Tryz.prog 521=some { k:=.struct [(0,1,false)],size:=1,bytes:=24,zero:=[.nil],sl:=[some (626,2)] }:=by kernel_rfl
theorem Yd:cW Tryz.prog 523=some { k:=.struct [(0,3,true),(3,1,true)],size:=4,bytes:=56,zero:=[.dat (.int .i64 0),.dat (.int .i64 0),.dat (.str ⟨#[]⟩),.nil],sl:=[none,none,none,some (626,2)] }:=by kernel_rfl
theorem Xb:cW Tryz.prog 533=some { k:=.struct [(0,1,false),(1,1,false),(2,3,true),(5,3,true)],size:=8,bytes:=72,zero:=[.dat (.bool false),.dat (.bool false),.dat (.int .i64 0),.dat (.int .i64 0),.dat (.str ⟨#[]⟩),.dat (.int .i64 0),.dat (.int .i64 0),.dat (.str ⟨#[]⟩)],cmp:=[.bool,.bool,.int,.int,.str,.int,.int,.str] }:=by kernel_rfl
theorem Yk:cW Tryz.prog 567=some { k:=.slice 624,size:=1,bytes:=24,zero:=[.nil],sl:=[some (624,7)] }:=by kernel_rfl
theorem XS:cW Tryz.prog 569=some { k:=.struct [(0,1,false),(1,1,false)],size:=2,bytes:=32,zero:=[.dat (.int .i64 0),.nil],sl:=[none,some (624,7)] }:=by kernel_rfl
theorem W8:cW Tryz.prog 602=some { k:=.struct [(0,1,false),(1,1,false)],size:=2,bytes:=32,zero:=[.dat (.str ⟨#[]⟩),.dat (.str ⟨#[]⟩)],cmp:=[.str,.str] }:=by kernel_rfl
theorem Xh:cW Tryz.prog 622=some { k:=.struct [(0,1,false),(1,1,false),(2,1,false),(3,1,false),(4,1,false)],size:=5,bytes:=56,zero:=[.dat (.int .i64 0),.dat (.int .i64 0),.dat (.int .i64 0),.nil,.dat (.bool false)],sl:=[none,none,none,some (5,1),none] }:=by kernel_rfl
theorem W6:cW Tryz.prog 624=some { k:=.struct [(0,1,false),(1,1,false),(2,5,true)],size:=7,bytes:=88,zero:=[.dat (.str ⟨#[]⟩),.dat (.str ⟨#[]⟩),.dat (.int .i64 0),.dat (.int .i64 0),.dat (.int .i64 0),.nil,.dat (.bool false)],sl:=[none,none,none,none,none,some (5,1),none] }:=by kernel_rfl
theorem Xw:cW Tryz.prog 626=some { k:=.struct [(0,1,false),(1,1,false)],size:=2,bytes:=24,zero:=[.dat (.str ⟨#[]⟩),.dat (.int .i64 0)],cmp:=[.str,.int] }:=by kernel_rfl
abbrev Sc:=nB Tryz.prog
def M.aQ.rs(r:M.aQ):List RC:=[.ro (.int .i64 r.aEd),.ro (.int .i64 r.Seq)]
def M.aEJ.ra(r:M.aEJ):List RC:=[.ro (.str r.aET),.ro (.str r.Top),.ro (.str r.aEL.aET),.ro (.int .i64 r.aEL.aEn),.ro (.int .i64 r.aEL.aEw),.ro (.int .i64 r.aEL.aE0),.any (.sl (List.map M.aEZ.en r.aEV.aEV)),.ro (.str r.bK.aEe.Name),.ro (.int .i64 r.bK.aEe.aER),.any (.sl (List.map M.aC.en r.bK.aEe.aEU)),.any (.sl (List.map M.aG.en r.bK.aEe.aEb)),.any (.sl (List.map enB r.bK.Log)),.ro (.int .i64 r.bK.aEx),.ro (.str r.aF.aEe.Name),.any (.sl (List.map M.aES.en r.aF.aEe.aEM)),.ro (.int .i64 r.aF.aEe.aEo),.ro (.int .i64 r.aF.aFF),.ro (.int .i64 r.aF.aEf.aU.aEd),.ro (.int .i64 r.aF.aEf.aU.aFB),.any (.sl (List.map M.bB.en r.aF.aEf.aU.aEm)),.ro (.int .i64 r.aF.aEf.aE9),.ro (.int .i64 r.aF.aEf.aEt),.ro (.int .i64 r.aEk),.ro (.bool r.aEg)]
def M.aEJ.rs(r:M.aEJ):List RC:=[.ro (.str r.aET),.ro (.str r.Top),.ro (.str r.aEL.aET),.ro (.int .i64 r.aEL.aEn),.ro (.int .i64 r.aEL.aEw),.ro (.int .i64 r.aEL.aE0),.own 345 2 (List.map M.aEZ.en r.aEV.aEV),.ro (.str r.bK.aEe.Name),.ro (.int .i64 r.bK.aEe.aER),.own 117 3 (List.map M.aC.en r.bK.aEe.aEU),.own 471 2 (List.map M.aG.en r.bK.aEe.aEb),.own 5 1 (List.map enB r.bK.Log),.ro (.int .i64 r.bK.aEx),.ro (.str r.aF.aEe.Name),.own 260 4 (List.map M.aES.en r.aF.aEe.aEM),.ro (.int .i64 r.aF.aEe.aEo),.ro (.int .i64 r.aF.aFF),.ro (.int .i64 r.aF.aEf.aU.aEd),.ro (.int .i64 r.aF.aEf.aU.aFB),.own 328 7 (List.map M.bB.en r.aF.aEf.aU.aEm),.ro (.int .i64 r.aF.aEf.aE9),.ro (.int .i64 r.aF.aEf.aEt),.ro (.int .i64 r.aEk),.ro (.bool r.aEg)]
def M.aEZ.rs(r:M.aEZ):List RC:=[.ro (.int .i64 r.aER),.own 351 7 (List.map M.aEW.en r.aEa)]
def M.aP.rs(r:M.aP):List RC:=[.own 345 2 (List.map M.aEZ.en r.aEV)]
def M.aEW.rs(r:M.aEW):List RC:=[.ro (.str r.aET),.ro (.str r.aEy),.ro (.int .i64 r.aEQ.aE8),.ro (.int .i64 r.aEQ.aE5),.ro (.int .i64 r.aEQ.aER),.own 5 1 (List.map enB r.aEQ.aFA),.ro (.bool r.aEQ.aFE)]
def M.aEY.rs(r:M.aEY):List RC:=[.own 199 3 (List.map M.gT.en r.aEv)]
def M.aEK.ra(r:M.aEK):List RC:=[.ro (.str r.Name),.ro (.int .i64 r.aER),.any (.sl (List.map M.aC.en r.aEU)),.any (.sl (List.map M.aG.en r.aEb))]
def M.aEK.rs(r:M.aEK):List RC:=[.ro (.str r.Name),.ro (.int .i64 r.aER),.own 117 3 (List.map M.aC.en r.aEU),.own 471 2 (List.map M.aG.en r.aEb)]
def M.bK.rs(r:M.bK):List RC:=[.ro (.str r.aEe.Name),.ro (.int .i64 r.aEe.aER),.own 117 3 (List.map M.aC.en r.aEe.aEU),.own 471 2 (List.map M.aG.en r.aEe.aEb),.own 5 1 (List.map enB r.Log),.ro (.int .i64 r.aEx)]
def M.Field.rs(r:M.Field):List RC:=[.ro (.str r.Name),.ro (.int .i64 r.N)]
def M.aG.rs(r:M.aG):List RC:=[.ro (.str r.aC),.ro (.str r.Field)]
def M.Instr.rs(r:M.Instr):List RC:=[.ro (.int .i64 r.aEc),.ro (.int .i64 r.R),.ro (.int .i64 r.N),.ro (.str r.aEj)]
def M.aES.rs(r:M.aES):List RC:=[.ro (.int .i64 r.Key.aEc),.ro (.int .i64 r.Key.N),.ro (.str r.Key.aEj),.own 262 2 (List.map M.Field.en r.aA.aEN)]
def M.Key.rs(r:M.Key):List RC:=[.ro (.int .i64 r.aEc),.ro (.int .i64 r.N),.ro (.str r.aEj)]
def M.aK.rs(r:M.aK):List RC:=[.ro (.str r.aEy),.ro (.int .i64 r.aER)]
def M.eV.rs(r:M.eV):List RC:=[.ro (.str r.Name),.ro (.int .i64 r.bS),.ro (.bool r.aE4),.ro (.bool r.aFM)]
def M.aR.rs(r:M.aR):List RC:=[.own 196 4 (List.map M.eV.en r.aEh)]
def M.aEO.rs(r:M.aEO):List RC:=[.own 308 4 (List.map M.Instr.en r.aEp),.ro (.int .i64 r.Pc),.own 3 1 (List.map enI r.aE3),.ro (.int .i64 r.aE2),.ro (.bool r.aFG),.ro (.bool r.aFH)]
def M.gT.rs(r:M.gT):List RC:=[.ro (.int .i64 r.To),.ro (.int .i64 r.aFL),.ro (.int .i64 r.N)]
def M.Op.rs(r:M.Op):List RC:=[.ro (.int .i64 r.aEc),.ro (.str r.aC),.ro (.int .i64 r.Key.aEc),.ro (.int .i64 r.Key.N),.ro (.str r.Key.aEj),.own 262 2 (List.map M.Field.en r.aA.aEN),.ro (.str r.Field)]
def M.aU.rs(r:M.aU):List RC:=[.ro (.int .i64 r.aEd),.ro (.int .i64 r.aFB),.own 328 7 (List.map M.bB.en r.aEm)]
def M.bS.rs(r:M.bS):List RC:=[.ro (.int .i64 r.Id),.ro (.str r.aET),.ro (.str r.Top),.ro (.int .i64 r.aER),.own 81 2 (List.map M.aK.en r.aK),.own 308 4 (List.map M.Instr.en r.aEO.aEp),.ro (.int .i64 r.aEO.Pc),.own 3 1 (List.map enI r.aEO.aE3),.ro (.int .i64 r.aEO.aE2),.ro (.bool r.aEO.aFG),.ro (.bool r.aEO.aFH)]
def M.aA.ra(r:M.aA):List RC:=[.any (.sl (List.map M.Field.en r.aEN))]
def M.aA.rs(r:M.aA):List RC:=[.own 262 2 (List.map M.Field.en r.aEN)]
def M.aEL.rs(r:M.aEL):List RC:=[.ro (.str r.aET),.ro (.int .i64 r.aEn),.ro (.int .i64 r.aEw),.ro (.int .i64 r.aE0)]
def M.aF.rs(r:M.aF):List RC:=[.ro (.str r.aEe.Name),.own 260 4 (List.map M.aES.en r.aEe.aEM),.ro (.int .i64 r.aEe.aEo),.ro (.int .i64 r.aFF),.ro (.int .i64 r.aEf.aU.aEd),.ro (.int .i64 r.aEf.aU.aFB),.own 328 7 (List.map M.bB.en r.aEf.aU.aEm),.ro (.int .i64 r.aEf.aE9),.ro (.int .i64 r.aEf.aEt)]
def M.aEQ.rs(r:M.aEQ):List RC:=[.ro (.int .i64 r.aE8),.ro (.int .i64 r.aE5),.ro (.int .i64 r.aER),.own 5 1 (List.map enB r.aFA),.ro (.bool r.aFE)]
def M.aEX.rs(r:M.aEX):List RC:=[.ro (.str r.aC.Name),.own 260 4 (List.map M.aES.en r.aC.aEM),.ro (.int .i64 r.aC.aEo),.own 325 2 (List.map M.aQ.en r.aQ),.own 328 7 (List.map M.bB.en r.aEu)]
def M.aET.rs(r:M.aET):List RC:=[.ro (.str r.Name),.ro (.int .i64 r.aER),.own 9 1 (List.map enS r.aE6),.ro (.bool r.aE4)]
def M.aD.rs(r:M.aD):List RC:=[.own 126 24 (List.map M.aEJ.en r.aEP)]
def M.aC.ra(r:M.aC):List RC:=[.ro (.str r.Name),.any (.sl (List.map M.aES.en r.aEM)),.ro (.int .i64 r.aEo)]
def M.aC.rs(r:M.aC):List RC:=[.ro (.str r.Name),.own 260 4 (List.map M.aES.en r.aEM),.ro (.int .i64 r.aEo)]
def M.aEf.rs(r:M.aEf):List RC:=[.ro (.int .i64 r.aU.aEd),.ro (.int .i64 r.aU.aFB),.own 328 7 (List.map M.bB.en r.aU.aEm),.ro (.int .i64 r.aE9),.ro (.int .i64 r.aEt)]
def M.World.rs(r:M.World):List RC:=[.ro (.int .i64 r.Now),.ro (.bool r.aEs),.ro (.int .i64 r.aEd),.own 126 24 (List.map M.aEJ.en r.aD.aEP),.own 67 11 (List.map M.bS.en r.aEq),.ro (.int .i64 r.aEl),.own 196 4 (List.map M.eV.en r.aEh.aEh),.own 199 3 (List.map M.gT.en r.aEY.aEv),.own 92 4 (List.map M.aET.en r.aEr),.own 205 5 (List.map M.aEX.en r.aEi)]
def M.bB.rs(r:M.bB):List RC:=[.ro (.int .i64 r.aEd),.ro (.int .i64 r.Seq),.ro (.int .i64 r.Key.aEc),.ro (.int .i64 r.Key.N),.ro (.str r.Key.aEj),.ro (.str r.Field),.ro (.int .i64 r.N)]
def V0:C9:=oB 58 [cI 0,cB false,cI 0,.nil,.nil,cI 0,.nil,.nil,.nil,.nil]
def aDZ:C9:=oB 65 [.nil,cI 0,.nil,cI 0,cB false,cB false]
def aEB:C9:=oB 67 [cI 0,cS (⟨#[]⟩:ByteArray),cS (⟨#[]⟩:ByteArray),cI 0,.nil,.nil,cI 0,.nil,cI 0,cB false,cB false]
def KH:C9:=oB 112 [cS (⟨#[]⟩:ByteArray),cI 0,.nil,.nil]
def WY:C9:=oB 139 [cI 0,cS (⟨#[]⟩:ByteArray),cI 0,cI 0,cS (⟨#[]⟩:ByteArray),.nil,cS (⟨#[]⟩:ByteArray)]
def QG:C9:=oB 402 [.nil,.nil,.nil,.nil]
def aCp:=PLift.up (qI ti3 (qI ti4 (qI ti5 (qI ti9 (qI aDf (qI aDW (qI aEA (qI aDy (qI aDm (qI aD3 (qI aDh (qI aDz (qI aDq (qI TX (qI aDM (qI aDX (qI aED (qI aDs (qI T9 (qI aDj (qI aDi (qI aDS (qI aD5 (qI aEF (qI aDJ (qI aD0 (qI aDk (qI aDO (qI Uk (qI aDv (qI aDK (qI aDo (qI aDd (qI NN (qI aDN (qI aDl (qI aD7 (qI XR (qI XW (qI XH (qI XN (qI Xp (qI XG (qI Yh (qI HF (qI GK (qI X7 (qI Ys (qI XU (qI X0 (qI CJ (qI X4 (qI VW (qI U7 (qI L9 (qI XL (qI XZ (qI Xf (qI Xn (qI W2 (qI Xo (qI Yu (qI Yj (qI YA (qI Yi (qI WX (qI Xc (qI Ym (qI KX (qI Xu (qI XX (qI XT (qI W3 (qI Xa (qI XF (qI Yb (qI Xx (qI YI (qI Yl (qI Xr (qI Xz (qI XJ (qI XB (qI XK (qI Yc (qI YB (qI X6 (qI XV (qI Yt (qI X5 (qI Xs (qI Fm (qI YH (qI XQ (qI XY (qI WZ (qI YD (qI Yn (qI Yd (qI Xb (qI Yk (qI XS (qI W8 (qI Xh (qI W6 Xw)))))))))))))))))))))))))))))))))))))))))))))))))))))))))))))))))))))))))))))))))))))))))))))))))))))))))
theorem TB:type_of% aCp.down:=aCp.down
def aA9:=PLift.up (qI @enI.eq_1 (qI @enB.eq_1 (qI @enS.eq_1 (qI @enT.eq_1 (qI @enL.eq_1 (qI @enI.fl (qI @enB.fl (qI @enS.fl (qI @enT.fl (qI @SQ (qI @GY (qI @Fl (qI @aI.eq_1 (qI @aB.eq_1 (qI @aS.eq_1 (qI @aL.eq_1 (qI @aX.eq_1 (qI @cI.eq_1 (qI @cB.eq_1 (qI @cS.eq_1 (qI @cL.eq_1 (qI @vI.eq_1 (qI @vB.eq_1 (qI @vS.eq_1 (qI @vL.eq_1 (qI @vR.eq_1 (qI @vP.eq_1 (qI @oX.eq_1 (qI @oB.eq_1 (qI @oW.eq_1 (qI @rI.eq_1 (qI @rB.eq_1 (qI @rS.eq_1 (qI @rW.eq_1 (qI @M.aQ.rs.eq_1 (qI @M.aEJ.ra.eq_1 (qI @M.aEJ.rs.eq_1 (qI @M.aEZ.rs.eq_1 (qI @M.aP.rs.eq_1 (qI @M.aEW.rs.eq_1 (qI @M.aEY.rs.eq_1 (qI @M.aEK.ra.eq_1 (qI @M.aEK.rs.eq_1 (qI @M.bK.rs.eq_1 (qI @M.Field.rs.eq_1 (qI @M.aG.rs.eq_1 (qI @M.Instr.rs.eq_1 (qI @M.aES.rs.eq_1 (qI @M.Key.rs.eq_1 (qI @M.aK.rs.eq_1 (qI @M.eV.rs.eq_1 (qI @M.aR.rs.eq_1 (qI @M.aEO.rs.eq_1 (qI @M.gT.rs.eq_1 (qI @M.Op.rs.eq_1 (qI @M.aU.rs.eq_1 (qI @M.bS.rs.eq_1 (qI @M.aA.ra.eq_1 (qI @M.aA.rs.eq_1 (qI @M.aEL.rs.eq_1 (qI @M.aF.rs.eq_1 (qI @M.aEQ.rs.eq_1 (qI @M.aEX.rs.eq_1 (qI @M.aET.rs.eq_1 (qI @M.aD.rs.eq_1 (qI @M.aC.ra.eq_1 (qI @M.aC.rs.eq_1 (qI @M.aEf.rs.eq_1 (qI @M.World.rs.eq_1 (qI @M.bB.rs.eq_1 (qI @V0.eq_1 (qI @aDZ.eq_1 (qI @aEB.eq_1 (qI @KH.eq_1 (qI @WY.eq_1 (qI @QG.eq_1 (qI @M.aEL.en.eq_1 (qI @M.aEL.en.fl (qI @M.aEQ.en.eq_1 (qI @M.aEW.en.eq_1 (qI @M.aEZ.en.eq_1 (qI @M.aP.en.eq_1 (qI @M.Key.en.eq_1 (qI @M.Key.en.fl (qI @M.Field.en.eq_1 (qI @M.Field.en.fl (qI @M.aA.en.eq_1 (qI @M.aES.en.eq_1 (qI @M.aC.en.eq_1 (qI @M.aG.en.eq_1 (qI @M.aG.en.fl (qI @M.aEK.en.eq_1 (qI @M.bK.en.eq_1 (qI @M.bB.en.eq_1 (qI @M.bB.en.fl (qI @M.aU.en.eq_1 (qI @M.aEf.en.eq_1 (qI @M.aF.en.eq_1 (qI @M.aEJ.en.eq_1 (qI @M.aD.en.eq_1 (qI @M.aK.en.eq_1 (qI @M.aK.en.fl (qI @M.Instr.en.eq_1 (qI @M.Instr.en.fl (qI @M.aEO.en.eq_1 (qI @M.bS.en.eq_1 (qI @M.eV.en.eq_1 (qI @M.eV.en.fl (qI @M.aR.en.eq_1 (qI @M.gT.en.eq_1 (qI @M.gT.en.fl (qI @M.aEY.en.eq_1 (qI @M.aET.en.eq_1 (qI @M.aQ.en.eq_1 (qI @M.aQ.en.fl (qI @M.aEX.en.eq_1 (qI @M.World.en.eq_1 (qI @M.Op.en.eq_1 (qI @M.cP.en.eq_1 @M.cP.en.fl)))))))))))))))))))))))))))))))))))))))))))))))))))))))))))))))))))))))))))))))))))))))))))))))))))))))))))))))))))))))
theorem EN:type_of% aA9.down:=aA9.down
