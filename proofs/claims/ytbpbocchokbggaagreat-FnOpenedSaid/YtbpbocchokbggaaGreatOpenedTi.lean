/-
  Helper text. No conditions.
-/
import Derived.Test.YtbpbocchokbggaaGreatOpenedMod
import Derived.Test.YtbpbocchokbggaaGreatProg
import Derived.KernelRfl
set_option linter.all false
namespace Go.Proofs.YtbpbocchokbggaaGreat.gen
open Go Go.Sh
theorem mixed:Tryz.prog.follows .mixedOrders=true:=by kernel_rfl
theorem ti3:fN Tryz.prog 3=some { k:=.int .i64,size:=1,bytes:=8,zero:=[.dat (.int .i64 0)] }:=by kernel_rfl
theorem ti4:fN Tryz.prog 4=some { k:=.bool,size:=1,bytes:=1,zero:=[.dat (.bool false)] }:=by kernel_rfl
theorem ti5:fN Tryz.prog 5=some { k:=.int .u8,size:=1,bytes:=1,zero:=[.dat (.int .u8 0)] }:=by kernel_rfl
theorem ti9:fN Tryz.prog 9=some { k:=.str,size:=1,bytes:=16,zero:=[.dat (.str ⟨#[]⟩)] }:=by kernel_rfl
theorem X9:fN Tryz.prog 38=some { k:=.slice 3,size:=1,bytes:=24,zero:=[.nil],sl:=[some (3,1)] }:=by kernel_rfl
theorem aA8:fN Tryz.prog 45=some { k:=.slice 126,size:=1,bytes:=24,zero:=[.nil],sl:=[some (126,24)] }:=by kernel_rfl
theorem RL:fN Tryz.prog 47=some { k:=.struct [(0,1,false)],size:=1,bytes:=24,zero:=[.nil],sl:=[some (126,24)] }:=by kernel_rfl
theorem O2:fN Tryz.prog 48=some { k:=.slice 67,size:=1,bytes:=24,zero:=[.nil],sl:=[some (67,11)] }:=by kernel_rfl
theorem Xq:fN Tryz.prog 49=some { k:=.slice 196,size:=1,bytes:=24,zero:=[.nil],sl:=[some (196,4)] }:=by kernel_rfl
theorem aG6:fN Tryz.prog 51=some { k:=.struct [(0,1,false)],size:=1,bytes:=24,zero:=[.nil],sl:=[some (196,4)] }:=by kernel_rfl
theorem Wi:fN Tryz.prog 52=some { k:=.slice 199,size:=1,bytes:=24,zero:=[.nil],sl:=[some (199,3)] }:=by kernel_rfl
theorem aGv:fN Tryz.prog 54=some { k:=.struct [(0,1,false)],size:=1,bytes:=24,zero:=[.nil],sl:=[some (199,3)] }:=by kernel_rfl
theorem aBD:fN Tryz.prog 55=some { k:=.slice 92,size:=1,bytes:=24,zero:=[.nil],sl:=[some (92,4)] }:=by kernel_rfl
theorem aAw:fN Tryz.prog 56=some { k:=.slice 205,size:=1,bytes:=24,zero:=[.nil],sl:=[some (205,5)] }:=by kernel_rfl
theorem BM:fN Tryz.prog 58=some { k:=.struct [(0,1,false),(1,1,false),(2,1,false),(3,1,true),(4,1,false),(5,1,false),(6,1,true),(7,1,true),(8,1,false),(9,1,false)],size:=10,bytes:=176,zero:=[.dat (.int .i64 0),.dat (.bool false),.dat (.int .i64 0),.nil,.nil,.dat (.int .i64 0),.nil,.nil,.nil,.nil],sl:=[none,none,none,some (126,24),some (67,11),none,some (196,4),some (199,3),some (92,4),some (205,5)] }:=by kernel_rfl
theorem aGs:fN Tryz.prog 62=some { k:=.slice 81,size:=1,bytes:=24,zero:=[.nil],sl:=[some (81,2)] }:=by kernel_rfl
theorem aGF:fN Tryz.prog 63=some { k:=.slice 308,size:=1,bytes:=24,zero:=[.nil],sl:=[some (308,4)] }:=by kernel_rfl
theorem aBM:fN Tryz.prog 65=some { k:=.struct [(0,1,false),(1,1,false),(2,1,false),(3,1,false),(4,1,false),(5,1,false)],size:=6,bytes:=72,zero:=[.nil,.dat (.int .i64 0),.nil,.dat (.int .i64 0),.dat (.bool false),.dat (.bool false)],sl:=[some (308,4),none,some (3,1),none,none,none] }:=by kernel_rfl
theorem Tu:fN Tryz.prog 67=some { k:=.struct [(0,1,false),(1,1,false),(2,1,false),(3,1,false),(4,1,false),(5,6,true)],size:=11,bytes:=144,zero:=[.dat (.int .i64 0),.dat (.str ⟨#[]⟩),.dat (.str ⟨#[]⟩),.dat (.int .i64 0),.nil,.nil,.dat (.int .i64 0),.nil,.dat (.int .i64 0),.dat (.bool false),.dat (.bool false)],sl:=[none,none,none,none,some (81,2),some (308,4),none,some (3,1),none,none,none] }:=by kernel_rfl
theorem aAb:fN Tryz.prog 74=some { k:=.slice 5,size:=1,bytes:=24,zero:=[.nil],sl:=[some (5,1)] }:=by kernel_rfl
theorem aGI:fN Tryz.prog 81=some { k:=.struct [(0,1,false),(1,1,false)],size:=2,bytes:=24,zero:=[.dat (.str ⟨#[]⟩),.dat (.int .i64 0)],cmp:=[.str,.int] }:=by kernel_rfl
theorem Z2:fN Tryz.prog 90=some { k:=.slice 9,size:=1,bytes:=24,zero:=[.nil],sl:=[some (9,1)] }:=by kernel_rfl
theorem aBg:fN Tryz.prog 92=some { k:=.struct [(0,1,false),(1,1,false),(2,1,false),(3,1,false)],size:=4,bytes:=56,zero:=[.dat (.str ⟨#[]⟩),.dat (.int .i64 0),.nil,.dat (.bool false)],sl:=[none,none,some (9,1),none] }:=by kernel_rfl
theorem aBC:fN Tryz.prog 105=some { k:=.struct [(0,1,false),(1,1,false),(2,1,false),(3,1,false)],size:=4,bytes:=40,zero:=[.dat (.str ⟨#[]⟩),.dat (.int .i64 0),.dat (.int .i64 0),.dat (.int .i64 0)],cmp:=[.str,.int,.int,.int] }:=by kernel_rfl
theorem It:fN Tryz.prog 106=some { k:=.slice 345,size:=1,bytes:=24,zero:=[.nil],sl:=[some (345,2)] }:=by kernel_rfl
theorem pG:fN Tryz.prog 108=some { k:=.struct [(0,1,false)],size:=1,bytes:=24,zero:=[.nil],sl:=[some (345,2)] }:=by kernel_rfl
theorem QB:fN Tryz.prog 109=some { k:=.slice 117,size:=1,bytes:=24,zero:=[.nil],sl:=[some (117,3)] }:=by kernel_rfl
theorem Um:fN Tryz.prog 110=some { k:=.slice 471,size:=1,bytes:=24,zero:=[.nil],sl:=[some (471,2)] }:=by kernel_rfl
theorem LB:fN Tryz.prog 112=some { k:=.struct [(0,1,false),(1,1,false),(2,1,false),(3,1,false)],size:=4,bytes:=72,zero:=[.dat (.str ⟨#[]⟩),.dat (.int .i64 0),.nil,.nil],sl:=[none,none,some (117,3),some (471,2)] }:=by kernel_rfl
theorem aBU:fN Tryz.prog 114=some { k:=.struct [(0,4,true),(4,1,false),(5,1,false)],size:=6,bytes:=104,zero:=[.dat (.str ⟨#[]⟩),.dat (.int .i64 0),.nil,.nil,.nil,.dat (.int .i64 0)],sl:=[none,none,some (117,3),some (471,2),some (5,1),none] }:=by kernel_rfl
theorem aBa:fN Tryz.prog 115=some { k:=.slice 260,size:=1,bytes:=24,zero:=[.nil],sl:=[some (260,4)] }:=by kernel_rfl
theorem QQ:fN Tryz.prog 117=some { k:=.struct [(0,1,false),(1,1,false),(2,1,false)],size:=3,bytes:=48,zero:=[.dat (.str ⟨#[]⟩),.nil,.dat (.int .i64 0)],sl:=[none,some (260,4),none] }:=by kernel_rfl
theorem aBL:fN Tryz.prog 118=some { k:=.slice 328,size:=1,bytes:=24,zero:=[.nil],sl:=[some (328,7)] }:=by kernel_rfl
theorem aBe:fN Tryz.prog 120=some { k:=.struct [(0,1,false),(1,1,false),(2,1,false)],size:=3,bytes:=40,zero:=[.dat (.int .i64 0),.dat (.int .i64 0),.nil],sl:=[none,none,some (328,7)] }:=by kernel_rfl
theorem aBF:fN Tryz.prog 122=some { k:=.struct [(0,3,true),(3,1,false),(4,1,false)],size:=5,bytes:=56,zero:=[.dat (.int .i64 0),.dat (.int .i64 0),.nil,.dat (.int .i64 0),.dat (.int .i64 0)],sl:=[none,none,some (328,7),none,none] }:=by kernel_rfl
theorem S0:fN Tryz.prog 124=some { k:=.struct [(0,3,true),(3,1,false),(4,5,true)],size:=9,bytes:=112,zero:=[.dat (.str ⟨#[]⟩),.nil,.dat (.int .i64 0),.dat (.int .i64 0),.dat (.int .i64 0),.dat (.int .i64 0),.nil,.dat (.int .i64 0),.dat (.int .i64 0)],sl:=[none,some (260,4),none,none,none,none,some (328,7),none,none] }:=by kernel_rfl
theorem HX:fN Tryz.prog 126=some { k:=.struct [(0,1,false),(1,1,false),(2,4,true),(6,1,true),(7,6,true),(13,9,true),(22,1,false),(23,1,false)],size:=24,bytes:=328,zero:=[.dat (.str ⟨#[]⟩),.dat (.str ⟨#[]⟩),.dat (.str ⟨#[]⟩),.dat (.int .i64 0),.dat (.int .i64 0),.dat (.int .i64 0),.nil,.dat (.str ⟨#[]⟩),.dat (.int .i64 0),.nil,.nil,.nil,.dat (.int .i64 0),.dat (.str ⟨#[]⟩),.nil,.dat (.int .i64 0),.dat (.int .i64 0),.dat (.int .i64 0),.dat (.int .i64 0),.nil,.dat (.int .i64 0),.dat (.int .i64 0),.dat (.int .i64 0),.dat (.bool false)],sl:=[none,none,none,none,none,none,some (345,2),none,none,some (117,3),some (471,2),some (5,1),none,none,some (260,4),none,none,none,none,some (328,7),none,none,none,none] }:=by kernel_rfl
theorem aBK:fN Tryz.prog 127=some { k:=.slice 262,size:=1,bytes:=24,zero:=[.nil],sl:=[some (262,2)] }:=by kernel_rfl
theorem aBl:fN Tryz.prog 129=some { k:=.struct [(0,1,false)],size:=1,bytes:=24,zero:=[.nil],sl:=[some (262,2)] }:=by kernel_rfl
theorem aAj:fN Tryz.prog 136=some { k:=.struct [(0,1,false),(1,1,false),(2,1,false)],size:=3,bytes:=32,zero:=[.dat (.int .i64 0),.dat (.int .i64 0),.dat (.str ⟨#[]⟩)],cmp:=[.int,.int,.str] }:=by kernel_rfl
theorem aBI:fN Tryz.prog 139=some { k:=.struct [(0,1,false),(1,1,false),(2,3,true),(5,1,true),(6,1,false)],size:=7,bytes:=96,zero:=[.dat (.int .i64 0),.dat (.str ⟨#[]⟩),.dat (.int .i64 0),.dat (.int .i64 0),.dat (.str ⟨#[]⟩),.nil,.dat (.str ⟨#[]⟩)],sl:=[none,none,none,none,none,some (262,2),none] }:=by kernel_rfl
theorem aA5:fN Tryz.prog 140=some { k:=.slice 139,size:=1,bytes:=24,zero:=[.nil],sl:=[some (139,7)] }:=by kernel_rfl
theorem YX:fN Tryz.prog 189=some { k:=.struct [(0,1,false),(1,1,false),(2,1,false),(3,1,false),(4,1,false)],size:=5,bytes:=56,zero:=[.dat (.int .i64 0),.dat (.int .i64 0),.dat (.int .i64 0),.nil,.dat (.bool false)],sl:=[none,none,none,some (5,1),none] }:=by kernel_rfl
theorem MC:fN Tryz.prog 196=some { k:=.struct [(0,1,false),(1,1,false),(2,1,false),(3,1,false)],size:=4,bytes:=32,zero:=[.dat (.str ⟨#[]⟩),.dat (.int .i64 0),.dat (.bool false),.dat (.bool false)],cmp:=[.str,.int,.bool,.bool] }:=by kernel_rfl
theorem MF:fN Tryz.prog 199=some { k:=.struct [(0,1,false),(1,1,false),(2,1,false)],size:=3,bytes:=24,zero:=[.dat (.int .i64 0),.dat (.int .i64 0),.dat (.int .i64 0)],cmp:=[.int,.int,.int] }:=by kernel_rfl
theorem aAl:fN Tryz.prog 203=some { k:=.slice 325,size:=1,bytes:=24,zero:=[.nil],sl:=[some (325,2)] }:=by kernel_rfl
theorem Yu:fN Tryz.prog 205=some { k:=.struct [(0,3,true),(3,1,false),(4,1,false)],size:=5,bytes:=96,zero:=[.dat (.str ⟨#[]⟩),.nil,.dat (.int .i64 0),.nil,.nil],sl:=[none,some (260,4),none,some (325,2),some (328,7)] }:=by kernel_rfl
theorem aBX:fN Tryz.prog 260=some { k:=.struct [(0,3,true),(3,1,true)],size:=4,bytes:=56,zero:=[.dat (.int .i64 0),.dat (.int .i64 0),.dat (.str ⟨#[]⟩),.nil],sl:=[none,none,none,some (262,2)] }:=by kernel_rfl
theorem aAy:fN Tryz.prog 262=some { k:=.struct [(0,1,false),(1,1,false)],size:=2,bytes:=24,zero:=[.dat (.str ⟨#[]⟩),.dat (.int .i64 0)],cmp:=[.str,.int] }:=by kernel_rfl
theorem aBH:fN Tryz.prog 281=some { k:=.slice 74,size:=1,bytes:=24,zero:=[.nil],sl:=[some (74,1)] }:=by kernel_rfl
theorem aBo:fN Tryz.prog 304=some { k:=.struct [(0,1,false),(1,1,false),(2,1,false)],size:=3,bytes:=40,zero:=[.nil,.dat (.int .i64 0),.dat (.int .i64 0)],sl:=[some (5,1),none,none] }:=by kernel_rfl
theorem aBE:fN Tryz.prog 308=some { k:=.struct [(0,1,false),(1,1,false),(2,1,false),(3,1,false)],size:=4,bytes:=40,zero:=[.dat (.int .i64 0),.dat (.int .i64 0),.dat (.int .i64 0),.dat (.str ⟨#[]⟩)],cmp:=[.int,.int,.int,.str] }:=by kernel_rfl
theorem aAm:fN Tryz.prog 325=some { k:=.struct [(0,1,false),(1,1,false)],size:=2,bytes:=16,zero:=[.dat (.int .i64 0),.dat (.int .i64 0)],cmp:=[.int,.int] }:=by kernel_rfl
theorem aAp:fN Tryz.prog 328=some { k:=.struct [(0,1,false),(1,1,false),(2,3,true),(5,1,false),(6,1,false)],size:=7,bytes:=72,zero:=[.dat (.int .i64 0),.dat (.int .i64 0),.dat (.int .i64 0),.dat (.int .i64 0),.dat (.str ⟨#[]⟩),.dat (.str ⟨#[]⟩),.dat (.int .i64 0)],cmp:=[.int,.int,.int,.int,.str,.str,.int] }:=by kernel_rfl
theorem Pm:fN Tryz.prog 343=some { k:=.slice 351,size:=1,bytes:=24,zero:=[.nil],sl:=[some (351,7)] }:=by kernel_rfl
theorem Gk:fN Tryz.prog 345=some { k:=.struct [(0,1,false),(1,1,false)],size:=2,bytes:=32,zero:=[.dat (.int .i64 0),.nil],sl:=[none,some (351,7)] }:=by kernel_rfl
theorem MH:fN Tryz.prog 351=some { k:=.struct [(0,1,false),(1,1,false),(2,5,true)],size:=7,bytes:=88,zero:=[.dat (.str ⟨#[]⟩),.dat (.str ⟨#[]⟩),.dat (.int .i64 0),.dat (.int .i64 0),.dat (.int .i64 0),.nil,.dat (.bool false)],sl:=[none,none,none,none,none,some (5,1),none] }:=by kernel_rfl
theorem US:fN Tryz.prog 471=some { k:=.struct [(0,1,false),(1,1,false)],size:=2,bytes:=32,zero:=[.dat (.str ⟨#[]⟩),.dat (.str ⟨#[]⟩)],cmp:=[.str,.str] }:=by kernel_rfl
theorem aAr:fN Tryz.prog 533=some { k:=.struct [(0,1,false),(1,1,false),(2,3,true),(5,3,true)],size:=8,bytes:=72,zero:=[.dat (.bool false),.dat (.bool false),.dat (.int .i64 0),.dat (.int .i64 0),.dat (.str ⟨#[]⟩),.dat (.int .i64 0),.dat (.int .i64 0),.dat (.str ⟨#[]⟩)],cmp:=[.bool,.bool,.int,.int,.str,.int,.int,.str] }:=by kernel_rfl
theorem aA3:fN Tryz.prog 633=some { k:=.struct [(0,1,false),(1,1,false),(2,1,false)],size:=3,bytes:=40,zero:=[.dat (.int .i64 0),.dat (.str ⟨#[]⟩),.dat (.str ⟨#[]⟩)],cmp:=[.int,.str,.str] }:=by kernel_rfl
abbrev Sc:=gL Tryz.prog
def M.aHD.ra(r:M.aHD):List RC:=[.ro (.str r.aHL),.ro (.str r.Top),.ro (.str r.aG9.aHL),.ro (.int .i64 r.aG9.aHf),.ro (.int .i64 r.aG9.aHm),.ro (.int .i64 r.aG9.aHp),.any (.sl (List.map M.aHM.en r.aHC.aHC)),.ro (.str r.bP.aHa.Name),.ro (.int .i64 r.bP.aHa.aHA),.any (.sl (List.map M.aC.en r.bP.aHa.aHP)),.any (.sl (List.map M.aN.en r.bP.aHa.aHX)),.any (.sl (List.map enB r.bP.Log)),.ro (.int .i64 r.bP.aHs),.ro (.str r.aE.aHa.Name),.any (.sl (List.map M.aHV.en r.aE.aHa.aHF)),.ro (.int .i64 r.aE.aHa.aHg),.ro (.int .i64 r.aE.aHw),.ro (.int .i64 r.aE.aHY.aJ.aHI),.ro (.int .i64 r.aE.aHY.aJ.aHj),.any (.sl (List.map M.bB.en r.aE.aHY.aJ.aHW)),.ro (.int .i64 r.aE.aHY.aHr),.ro (.int .i64 r.aE.aHY.aHe),.ro (.int .i64 r.aHk),.ro (.bool r.aHh)]
def M.aHD.rs(r:M.aHD):List RC:=[.ro (.str r.aHL),.ro (.str r.Top),.ro (.str r.aG9.aHL),.ro (.int .i64 r.aG9.aHf),.ro (.int .i64 r.aG9.aHm),.ro (.int .i64 r.aG9.aHp),.own 345 2 (List.map M.aHM.en r.aHC.aHC),.ro (.str r.bP.aHa.Name),.ro (.int .i64 r.bP.aHa.aHA),.own 117 3 (List.map M.aC.en r.bP.aHa.aHP),.own 471 2 (List.map M.aN.en r.bP.aHa.aHX),.own 5 1 (List.map enB r.bP.Log),.ro (.int .i64 r.bP.aHs),.ro (.str r.aE.aHa.Name),.own 260 4 (List.map M.aHV.en r.aE.aHa.aHF),.ro (.int .i64 r.aE.aHa.aHg),.ro (.int .i64 r.aE.aHw),.ro (.int .i64 r.aE.aHY.aJ.aHI),.ro (.int .i64 r.aE.aHY.aJ.aHj),.own 328 7 (List.map M.bB.en r.aE.aHY.aJ.aHW),.ro (.int .i64 r.aE.aHY.aHr),.ro (.int .i64 r.aE.aHY.aHe),.ro (.int .i64 r.aHk),.ro (.bool r.aHh)]
def M.aHM.rs(r:M.aHM):List RC:=[.ro (.int .i64 r.aHA),.own 351 7 (List.map M.aHU.en r.aHS)]
def M.aF.rs(r:M.aF):List RC:=[.own 345 2 (List.map M.aHM.en r.aHC)]
def M.aHN.rs(r:M.aHN):List RC:=[.own 199 3 (List.map M.mI.en r.aHn)]
def M.aHB.rs(r:M.aHB):List RC:=[.ro (.str r.Name),.ro (.int .i64 r.aHA),.own 117 3 (List.map M.aC.en r.aHP),.own 471 2 (List.map M.aN.en r.aHX)]
def M.bP.rs(r:M.bP):List RC:=[.ro (.str r.aHa.Name),.ro (.int .i64 r.aHa.aHA),.own 117 3 (List.map M.aC.en r.aHa.aHP),.own 471 2 (List.map M.aN.en r.aHa.aHX),.own 5 1 (List.map enB r.Log),.ro (.int .i64 r.aHs)]
def M.Instr.rs(r:M.Instr):List RC:=[.ro (.int .i64 r.aHb),.ro (.int .i64 r.R),.ro (.int .i64 r.N),.ro (.str r.aHi)]
def M.aHV.rs(r:M.aHV):List RC:=[.ro (.int .i64 r.Key.aHb),.ro (.int .i64 r.Key.N),.ro (.str r.Key.aHi),.own 262 2 (List.map M.Field.en r.aD.aHG)]
def M.Key.rs(r:M.Key):List RC:=[.ro (.int .i64 r.aHb),.ro (.int .i64 r.N),.ro (.str r.aHi)]
def M.aM.rs(r:M.aM):List RC:=[.own 196 4 (List.map M.dO.en r.aHR)]
def M.aHJ.rs(r:M.aHJ):List RC:=[.own 308 4 (List.map M.Instr.en r.aHt),.ro (.int .i64 r.Pc),.own 3 1 (List.map enI r.aH1),.ro (.int .i64 r.aHy),.ro (.bool r.aH5),.ro (.bool r.aH6)]
def M.Op.rs(r:M.Op):List RC:=[.ro (.int .i64 r.aHb),.ro (.str r.aC),.ro (.int .i64 r.Key.aHb),.ro (.int .i64 r.Key.N),.ro (.str r.Key.aHi),.own 262 2 (List.map M.Field.en r.aD.aHG),.ro (.str r.Field)]
def M.aJ.rs(r:M.aJ):List RC:=[.ro (.int .i64 r.aHI),.ro (.int .i64 r.aHj),.own 328 7 (List.map M.bB.en r.aHW)]
def M.bC.rs(r:M.bC):List RC:=[.ro (.int .i64 r.Id),.ro (.str r.aHL),.ro (.str r.Top),.ro (.int .i64 r.aHA),.own 81 2 (List.map M.aT.en r.aT),.own 308 4 (List.map M.Instr.en r.aHJ.aHt),.ro (.int .i64 r.aHJ.Pc),.own 3 1 (List.map enI r.aHJ.aH1),.ro (.int .i64 r.aHJ.aHy),.ro (.bool r.aHJ.aH5),.ro (.bool r.aHJ.aH6)]
def M.aD.rs(r:M.aD):List RC:=[.own 262 2 (List.map M.Field.en r.aHG)]
def M.aE.rs(r:M.aE):List RC:=[.ro (.str r.aHa.Name),.own 260 4 (List.map M.aHV.en r.aHa.aHF),.ro (.int .i64 r.aHa.aHg),.ro (.int .i64 r.aHw),.ro (.int .i64 r.aHY.aJ.aHI),.ro (.int .i64 r.aHY.aJ.aHj),.own 328 7 (List.map M.bB.en r.aHY.aJ.aHW),.ro (.int .i64 r.aHY.aHr),.ro (.int .i64 r.aHY.aHe)]
def M.aHH.rs(r:M.aHH):List RC:=[.ro (.int .i64 r.aH2),.ro (.int .i64 r.aHx),.ro (.int .i64 r.aHA),.own 5 1 (List.map enB r.aH3),.ro (.bool r.aH9)]
def M.aHO.rs(r:M.aHO):List RC:=[.ro (.str r.aC.Name),.own 260 4 (List.map M.aHV.en r.aC.aHF),.ro (.int .i64 r.aC.aHg),.own 325 2 (List.map M.aO.en r.aO),.own 328 7 (List.map M.bB.en r.aHd)]
def M.aHL.ra(r:M.aHL):List RC:=[.ro (.str r.Name),.ro (.int .i64 r.aHA),.any (.sl (List.map enS r.aHl)),.ro (.bool r.aHo)]
def M.aHL.rs(r:M.aHL):List RC:=[.ro (.str r.Name),.ro (.int .i64 r.aHA),.own 9 1 (List.map enS r.aHl),.ro (.bool r.aHo)]
def M.aA.rs(r:M.aA):List RC:=[.own 126 24 (List.map M.aHD.en r.aHE)]
def M.aC.rs(r:M.aC):List RC:=[.ro (.str r.Name),.own 260 4 (List.map M.aHV.en r.aHF),.ro (.int .i64 r.aHg)]
def M.aHY.rs(r:M.aHY):List RC:=[.ro (.int .i64 r.aJ.aHI),.ro (.int .i64 r.aJ.aHj),.own 328 7 (List.map M.bB.en r.aJ.aHW),.ro (.int .i64 r.aHr),.ro (.int .i64 r.aHe)]
def M.World.rs(r:M.World):List RC:=[.ro (.int .i64 r.Now),.ro (.bool r.aHc),.ro (.int .i64 r.aHI),.own 126 24 (List.map M.aHD.en r.aA.aHE),.own 67 11 (List.map M.bC.en r.aHQ),.ro (.int .i64 r.aHK),.own 196 4 (List.map M.dO.en r.aHR.aHR),.own 199 3 (List.map M.mI.en r.aHN.aHn),.own 92 4 (List.map M.aHL.en r.aHZ),.own 205 5 (List.map M.aHO.en r.aHT)]
def M.bB.rs(r:M.bB):List RC:=[.ro (.int .i64 r.aHI),.ro (.int .i64 r.Seq),.ro (.int .i64 r.Key.aHb),.ro (.int .i64 r.Key.N),.ro (.str r.Key.aHi),.ro (.str r.Field),.ro (.int .i64 r.N)]
def My:DH:=oB 58 [cI 0,cB false,cI 0,.nil,.nil,cI 0,.nil,.nil,.nil,.nil]
def aC8:DH:=oB 65 [.nil,cI 0,.nil,cI 0,cB false,cB false]
def Xz:DH:=oB 67 [cI 0,cS (⟨#[]⟩:ByteArray),cS (⟨#[]⟩:ByteArray),cI 0,.nil,.nil,cI 0,.nil,cI 0,cB false,cB false]
def DY:DH:=oB 112 [cS (⟨#[]⟩:ByteArray),cI 0,.nil,.nil]
def aAI:DH:=oB 114 [cS (⟨#[]⟩:ByteArray),cI 0,.nil,.nil,.nil,cI 0]
def aAk:DH:=oB 122 [cI 0,cI 0,.nil,cI 0,cI 0]
def aAK:DH:=oB 124 [cS (⟨#[]⟩:ByteArray),.nil,cI 0,cI 0,cI 0,cI 0,.nil,cI 0,cI 0]
def GY:DH:=oB 126 [cS (⟨#[]⟩:ByteArray),cS (⟨#[]⟩:ByteArray),cS (⟨#[]⟩:ByteArray),cI 0,cI 0,cI 0,.nil,cS (⟨#[]⟩:ByteArray),cI 0,.nil,.nil,.nil,cI 0,cS (⟨#[]⟩:ByteArray),.nil,cI 0,cI 0,cI 0,cI 0,.nil,cI 0,cI 0,cI 0,cB false]
def aAh:DH:=oB 139 [cI 0,cS (⟨#[]⟩:ByteArray),cI 0,cI 0,cS (⟨#[]⟩:ByteArray),.nil,cS (⟨#[]⟩:ByteArray)]
def aAg:DH:=oB 189 [cI 0,cI 0,cI 0,.nil,cB false]
def W5:DH:=oB 205 [cS (⟨#[]⟩:ByteArray),.nil,cI 0,.nil,.nil]
def aBB:DH:=oB 308 [cI 0,cI 0,cI 0,cS (⟨#[]⟩:ByteArray)]
def aBG:DH:=oB 328 [cI 0,cI 0,cI 0,cI 0,cS (⟨#[]⟩:ByteArray),cS (⟨#[]⟩:ByteArray),cI 0]
def aFg:=PLift.up (qI ti3 (qI ti4 (qI ti5 (qI ti9 (qI X9 (qI aA8 (qI RL (qI O2 (qI Xq (qI aG6 (qI Wi (qI aGv (qI aBD (qI aAw (qI BM (qI aGs (qI aGF (qI aBM (qI Tu (qI aAb (qI aGI (qI Z2 (qI aBg (qI aBC (qI It (qI pG (qI QB (qI Um (qI LB (qI aBU (qI aBa (qI QQ (qI aBL (qI aBe (qI aBF (qI S0 (qI HX (qI aBK (qI aBl (qI aAj (qI aBI (qI aA5 (qI YX (qI MC (qI MF (qI aAl (qI Yu (qI aBX (qI aAy (qI aBH (qI aBo (qI aBE (qI aAm (qI aAp (qI Pm (qI Gk (qI MH (qI US (qI aAr aA3)))))))))))))))))))))))))))))))))))))))))))))))))))))))))))
theorem TB:type_of% aFg.down:=aFg.down
def aEC:=PLift.up (qI @enI.eq_1 (qI @enB.eq_1 (qI @enS.eq_1 (qI @enT.eq_1 (qI @enL.eq_1 (qI @enI.fl (qI @enB.fl (qI @enS.fl (qI @enT.fl (qI @VK (qI @V8 (qI @Uv (qI @aI.eq_1 (qI @aB.eq_1 (qI @aS.eq_1 (qI @aL.eq_1 (qI @aX.eq_1 (qI @cI.eq_1 (qI @cB.eq_1 (qI @cS.eq_1 (qI @cL.eq_1 (qI @vI.eq_1 (qI @vB.eq_1 (qI @vS.eq_1 (qI @vL.eq_1 (qI @vR.eq_1 (qI @vP.eq_1 (qI @oX.eq_1 (qI @oB.eq_1 (qI @oW.eq_1 (qI @rI.eq_1 (qI @rB.eq_1 (qI @rS.eq_1 (qI @rW.eq_1 (qI @M.aHD.ra.eq_1 (qI @M.aHD.rs.eq_1 (qI @M.aHM.rs.eq_1 (qI @M.aF.rs.eq_1 (qI @M.aHN.rs.eq_1 (qI @M.aHB.rs.eq_1 (qI @M.bP.rs.eq_1 (qI @M.Instr.rs.eq_1 (qI @M.aHV.rs.eq_1 (qI @M.Key.rs.eq_1 (qI @M.aM.rs.eq_1 (qI @M.aHJ.rs.eq_1 (qI @M.Op.rs.eq_1 (qI @M.aJ.rs.eq_1 (qI @M.bC.rs.eq_1 (qI @M.aD.rs.eq_1 (qI @M.aE.rs.eq_1 (qI @M.aHH.rs.eq_1 (qI @M.aHO.rs.eq_1 (qI @M.aHL.ra.eq_1 (qI @M.aHL.rs.eq_1 (qI @M.aA.rs.eq_1 (qI @M.aC.rs.eq_1 (qI @M.aHY.rs.eq_1 (qI @M.World.rs.eq_1 (qI @M.bB.rs.eq_1 (qI @My.eq_1 (qI @aC8.eq_1 (qI @Xz.eq_1 (qI @DY.eq_1 (qI @aAI.eq_1 (qI @aAk.eq_1 (qI @aAK.eq_1 (qI @GY.eq_1 (qI @aAh.eq_1 (qI @aAg.eq_1 (qI @W5.eq_1 (qI @aBB.eq_1 (qI @aBG.eq_1 (qI @M.aQ.en.eq_1 (qI @M.aG9.en.eq_1 (qI @M.aG9.en.fl (qI @M.aHH.en.eq_1 (qI @M.aHU.en.eq_1 (qI @M.aHM.en.eq_1 (qI @M.aF.en.eq_1 (qI @M.Key.en.eq_1 (qI @M.Key.en.fl (qI @M.Field.en.eq_1 (qI @M.Field.en.fl (qI @M.aD.en.eq_1 (qI @M.aHV.en.eq_1 (qI @M.aC.en.eq_1 (qI @M.aN.en.eq_1 (qI @M.aN.en.fl (qI @M.aHB.en.eq_1 (qI @M.bP.en.eq_1 (qI @M.bB.en.eq_1 (qI @M.bB.en.fl (qI @M.aJ.en.eq_1 (qI @M.aHY.en.eq_1 (qI @M.aE.en.eq_1 (qI @M.aHD.en.eq_1 (qI @M.aA.en.eq_1 (qI @M.aT.en.eq_1 (qI @M.aT.en.fl (qI @M.Instr.en.eq_1 (qI @M.Instr.en.fl (qI @M.aHJ.en.eq_1 (qI @M.bC.en.eq_1 (qI @M.dO.en.eq_1 (qI @M.dO.en.fl (qI @M.aM.en.eq_1 (qI @M.mI.en.eq_1 (qI @M.mI.en.fl (qI @M.aHN.en.eq_1 (qI @M.aHL.en.eq_1 (qI @M.aO.en.eq_1 (qI @M.aO.en.fl (qI @M.aHO.en.eq_1 (qI @M.World.en.eq_1 (qI @M.Op.en.eq_1 (qI @M.gN.en.eq_1 (qI @M.gN.en.fl (qI @M.lW.en.eq_1 @M.lW.en.fl)))))))))))))))))))))))))))))))))))))))))))))))))))))))))))))))))))))))))))))))))))))))))))))))))))))))))))))))))))))))
theorem EN:type_of% aEC.down:=aEC.down
