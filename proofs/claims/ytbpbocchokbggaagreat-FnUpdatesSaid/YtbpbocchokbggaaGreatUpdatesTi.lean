/-
  Helper text. No conditions.
-/
import Derived.Test.YtbpbocchokbggaaGreatUpdatesMod
import Derived.Test.YtbpbocchokbggaaGreatProg
import Derived.KernelRfl
set_option linter.all false
namespace Go.Proofs.YtbpbocchokbggaaGreat.gen
open Go Go.Sh
theorem mixed:Tryz.prog.follows .mixedOrders=true:=by kernel_rfl
theorem ti3:fS Tryz.prog 3=some { k:=.int .i64,size:=1,bytes:=8,zero:=[.dat (.int .i64 0)] }:=by kernel_rfl
theorem ti4:fS Tryz.prog 4=some { k:=.bool,size:=1,bytes:=1,zero:=[.dat (.bool false)] }:=by kernel_rfl
theorem ti5:fS Tryz.prog 5=some { k:=.int .u8,size:=1,bytes:=1,zero:=[.dat (.int .u8 0)] }:=by kernel_rfl
theorem ti9:fS Tryz.prog 9=some { k:=.str,size:=1,bytes:=16,zero:=[.dat (.str ⟨#[]⟩)] }:=by kernel_rfl
theorem aA7:fS Tryz.prog 38=some { k:=.slice 3,size:=1,bytes:=24,zero:=[.nil],sl:=[some (3,1)] }:=by kernel_rfl
theorem aIY:fS Tryz.prog 45=some { k:=.slice 126,size:=1,bytes:=24,zero:=[.nil],sl:=[some (126,24)] }:=by kernel_rfl
theorem aCk:fS Tryz.prog 47=some { k:=.struct [(0,1,false)],size:=1,bytes:=24,zero:=[.nil],sl:=[some (126,24)] }:=by kernel_rfl
theorem Y7:fS Tryz.prog 48=some { k:=.slice 67,size:=1,bytes:=24,zero:=[.nil],sl:=[some (67,11)] }:=by kernel_rfl
theorem aIp:fS Tryz.prog 49=some { k:=.slice 196,size:=1,bytes:=24,zero:=[.nil],sl:=[some (196,4)] }:=by kernel_rfl
theorem aIw:fS Tryz.prog 51=some { k:=.struct [(0,1,false)],size:=1,bytes:=24,zero:=[.nil],sl:=[some (196,4)] }:=by kernel_rfl
theorem aIA:fS Tryz.prog 52=some { k:=.slice 199,size:=1,bytes:=24,zero:=[.nil],sl:=[some (199,3)] }:=by kernel_rfl
theorem aIm:fS Tryz.prog 54=some { k:=.struct [(0,1,false)],size:=1,bytes:=24,zero:=[.nil],sl:=[some (199,3)] }:=by kernel_rfl
theorem aCs:fS Tryz.prog 55=some { k:=.slice 92,size:=1,bytes:=24,zero:=[.nil],sl:=[some (92,4)] }:=by kernel_rfl
theorem aCa:fS Tryz.prog 56=some { k:=.slice 205,size:=1,bytes:=24,zero:=[.nil],sl:=[some (205,5)] }:=by kernel_rfl
theorem D9:fS Tryz.prog 58=some { k:=.struct [(0,1,false),(1,1,false),(2,1,false),(3,1,true),(4,1,false),(5,1,false),(6,1,true),(7,1,true),(8,1,false),(9,1,false)],size:=10,bytes:=176,zero:=[.dat (.int .i64 0),.dat (.bool false),.dat (.int .i64 0),.nil,.nil,.dat (.int .i64 0),.nil,.nil,.nil,.nil],sl:=[none,none,none,some (126,24),some (67,11),none,some (196,4),some (199,3),some (92,4),some (205,5)] }:=by kernel_rfl
theorem aIk:fS Tryz.prog 62=some { k:=.slice 81,size:=1,bytes:=24,zero:=[.nil],sl:=[some (81,2)] }:=by kernel_rfl
theorem aIB:fS Tryz.prog 63=some { k:=.slice 308,size:=1,bytes:=24,zero:=[.nil],sl:=[some (308,4)] }:=by kernel_rfl
theorem aId:fS Tryz.prog 65=some { k:=.struct [(0,1,false),(1,1,false),(2,1,false),(3,1,false),(4,1,false),(5,1,false)],size:=6,bytes:=72,zero:=[.nil,.dat (.int .i64 0),.nil,.dat (.int .i64 0),.dat (.bool false),.dat (.bool false)],sl:=[some (308,4),none,some (3,1),none,none,none] }:=by kernel_rfl
theorem Za:fS Tryz.prog 67=some { k:=.struct [(0,1,false),(1,1,false),(2,1,false),(3,1,false),(4,1,false),(5,6,true)],size:=11,bytes:=144,zero:=[.dat (.int .i64 0),.dat (.str ⟨#[]⟩),.dat (.str ⟨#[]⟩),.dat (.int .i64 0),.nil,.nil,.dat (.int .i64 0),.nil,.dat (.int .i64 0),.dat (.bool false),.dat (.bool false)],sl:=[none,none,none,none,some (81,2),some (308,4),none,some (3,1),none,none,none] }:=by kernel_rfl
theorem aCD:fS Tryz.prog 74=some { k:=.slice 5,size:=1,bytes:=24,zero:=[.nil],sl:=[some (5,1)] }:=by kernel_rfl
theorem aIE:fS Tryz.prog 81=some { k:=.struct [(0,1,false),(1,1,false)],size:=2,bytes:=24,zero:=[.dat (.str ⟨#[]⟩),.dat (.int .i64 0)],cmp:=[.str,.int] }:=by kernel_rfl
theorem aBZ:fS Tryz.prog 90=some { k:=.slice 9,size:=1,bytes:=24,zero:=[.nil],sl:=[some (9,1)] }:=by kernel_rfl
theorem aDI:fS Tryz.prog 92=some { k:=.struct [(0,1,false),(1,1,false),(2,1,false),(3,1,false)],size:=4,bytes:=56,zero:=[.dat (.str ⟨#[]⟩),.dat (.int .i64 0),.nil,.dat (.bool false)],sl:=[none,none,some (9,1),none] }:=by kernel_rfl
theorem aCr:fS Tryz.prog 105=some { k:=.struct [(0,1,false),(1,1,false),(2,1,false),(3,1,false)],size:=4,bytes:=40,zero:=[.dat (.str ⟨#[]⟩),.dat (.int .i64 0),.dat (.int .i64 0),.dat (.int .i64 0)],cmp:=[.str,.int,.int,.int] }:=by kernel_rfl
theorem FV:fS Tryz.prog 106=some { k:=.slice 345,size:=1,bytes:=24,zero:=[.nil],sl:=[some (345,2)] }:=by kernel_rfl
theorem dQ:fS Tryz.prog 108=some { k:=.struct [(0,1,false)],size:=1,bytes:=24,zero:=[.nil],sl:=[some (345,2)] }:=by kernel_rfl
theorem Rz:fS Tryz.prog 109=some { k:=.slice 117,size:=1,bytes:=24,zero:=[.nil],sl:=[some (117,3)] }:=by kernel_rfl
theorem Vp:fS Tryz.prog 110=some { k:=.slice 471,size:=1,bytes:=24,zero:=[.nil],sl:=[some (471,2)] }:=by kernel_rfl
theorem Mp:fS Tryz.prog 112=some { k:=.struct [(0,1,false),(1,1,false),(2,1,false),(3,1,false)],size:=4,bytes:=72,zero:=[.dat (.str ⟨#[]⟩),.dat (.int .i64 0),.nil,.nil],sl:=[none,none,some (117,3),some (471,2)] }:=by kernel_rfl
theorem aC6:fS Tryz.prog 114=some { k:=.struct [(0,4,true),(4,1,false),(5,1,false)],size:=6,bytes:=104,zero:=[.dat (.str ⟨#[]⟩),.dat (.int .i64 0),.nil,.nil,.nil,.dat (.int .i64 0)],sl:=[none,none,some (117,3),some (471,2),some (5,1),none] }:=by kernel_rfl
theorem aDC:fS Tryz.prog 115=some { k:=.slice 260,size:=1,bytes:=24,zero:=[.nil],sl:=[some (260,4)] }:=by kernel_rfl
theorem RN:fS Tryz.prog 117=some { k:=.struct [(0,1,false),(1,1,false),(2,1,false)],size:=3,bytes:=48,zero:=[.dat (.str ⟨#[]⟩),.nil,.dat (.int .i64 0)],sl:=[none,some (260,4),none] }:=by kernel_rfl
theorem aC0:fS Tryz.prog 118=some { k:=.slice 328,size:=1,bytes:=24,zero:=[.nil],sl:=[some (328,7)] }:=by kernel_rfl
theorem aDG:fS Tryz.prog 120=some { k:=.struct [(0,1,false),(1,1,false),(2,1,false)],size:=3,bytes:=40,zero:=[.dat (.int .i64 0),.dat (.int .i64 0),.nil],sl:=[none,none,some (328,7)] }:=by kernel_rfl
theorem aCu:fS Tryz.prog 122=some { k:=.struct [(0,3,true),(3,1,false),(4,1,false)],size:=5,bytes:=56,zero:=[.dat (.int .i64 0),.dat (.int .i64 0),.nil,.dat (.int .i64 0),.dat (.int .i64 0)],sl:=[none,none,some (328,7),none,none] }:=by kernel_rfl
theorem Ua:fS Tryz.prog 124=some { k:=.struct [(0,3,true),(3,1,false),(4,5,true)],size:=9,bytes:=112,zero:=[.dat (.str ⟨#[]⟩),.nil,.dat (.int .i64 0),.dat (.int .i64 0),.dat (.int .i64 0),.dat (.int .i64 0),.nil,.dat (.int .i64 0),.dat (.int .i64 0)],sl:=[none,some (260,4),none,none,none,none,some (328,7),none,none] }:=by kernel_rfl
theorem Cg:fS Tryz.prog 126=some { k:=.struct [(0,1,false),(1,1,false),(2,4,true),(6,1,true),(7,6,true),(13,9,true),(22,1,false),(23,1,false)],size:=24,bytes:=328,zero:=[.dat (.str ⟨#[]⟩),.dat (.str ⟨#[]⟩),.dat (.str ⟨#[]⟩),.dat (.int .i64 0),.dat (.int .i64 0),.dat (.int .i64 0),.nil,.dat (.str ⟨#[]⟩),.dat (.int .i64 0),.nil,.nil,.nil,.dat (.int .i64 0),.dat (.str ⟨#[]⟩),.nil,.dat (.int .i64 0),.dat (.int .i64 0),.dat (.int .i64 0),.dat (.int .i64 0),.nil,.dat (.int .i64 0),.dat (.int .i64 0),.dat (.int .i64 0),.dat (.bool false)],sl:=[none,none,none,none,none,none,some (345,2),none,none,some (117,3),some (471,2),some (5,1),none,none,some (260,4),none,none,none,none,some (328,7),none,none,none,none] }:=by kernel_rfl
theorem aCz:fS Tryz.prog 127=some { k:=.slice 262,size:=1,bytes:=24,zero:=[.nil],sl:=[some (262,2)] }:=by kernel_rfl
theorem aDP:fS Tryz.prog 129=some { k:=.struct [(0,1,false)],size:=1,bytes:=24,zero:=[.nil],sl:=[some (262,2)] }:=by kernel_rfl
theorem aCK:fS Tryz.prog 136=some { k:=.struct [(0,1,false),(1,1,false),(2,1,false)],size:=3,bytes:=32,zero:=[.dat (.int .i64 0),.dat (.int .i64 0),.dat (.str ⟨#[]⟩)],cmp:=[.int,.int,.str] }:=by kernel_rfl
theorem aCx:fS Tryz.prog 139=some { k:=.struct [(0,1,false),(1,1,false),(2,3,true),(5,1,true),(6,1,false)],size:=7,bytes:=96,zero:=[.dat (.int .i64 0),.dat (.str ⟨#[]⟩),.dat (.int .i64 0),.dat (.int .i64 0),.dat (.str ⟨#[]⟩),.nil,.dat (.str ⟨#[]⟩)],sl:=[none,none,none,none,none,some (262,2),none] }:=by kernel_rfl
theorem aCl:fS Tryz.prog 140=some { k:=.slice 139,size:=1,bytes:=24,zero:=[.nil],sl:=[some (139,7)] }:=by kernel_rfl
theorem Ql:fS Tryz.prog 189=some { k:=.struct [(0,1,false),(1,1,false),(2,1,false),(3,1,false),(4,1,false)],size:=5,bytes:=56,zero:=[.dat (.int .i64 0),.dat (.int .i64 0),.dat (.int .i64 0),.nil,.dat (.bool false)],sl:=[none,none,none,some (5,1),none] }:=by kernel_rfl
theorem aCW:fS Tryz.prog 196=some { k:=.struct [(0,1,false),(1,1,false),(2,1,false),(3,1,false)],size:=4,bytes:=32,zero:=[.dat (.str ⟨#[]⟩),.dat (.int .i64 0),.dat (.bool false),.dat (.bool false)],cmp:=[.str,.int,.bool,.bool] }:=by kernel_rfl
theorem aCb:fS Tryz.prog 199=some { k:=.struct [(0,1,false),(1,1,false),(2,1,false)],size:=3,bytes:=24,zero:=[.dat (.int .i64 0),.dat (.int .i64 0),.dat (.int .i64 0)],cmp:=[.int,.int,.int] }:=by kernel_rfl
theorem aCN:fS Tryz.prog 203=some { k:=.slice 325,size:=1,bytes:=24,zero:=[.nil],sl:=[some (325,2)] }:=by kernel_rfl
theorem ZS:fS Tryz.prog 205=some { k:=.struct [(0,3,true),(3,1,false),(4,1,false)],size:=5,bytes:=96,zero:=[.dat (.str ⟨#[]⟩),.nil,.dat (.int .i64 0),.nil,.nil],sl:=[none,some (260,4),none,some (325,2),some (328,7)] }:=by kernel_rfl
theorem aC9:fS Tryz.prog 260=some { k:=.struct [(0,3,true),(3,1,true)],size:=4,bytes:=56,zero:=[.dat (.int .i64 0),.dat (.int .i64 0),.dat (.str ⟨#[]⟩),.nil],sl:=[none,none,none,some (262,2)] }:=by kernel_rfl
theorem aCd:fS Tryz.prog 262=some { k:=.struct [(0,1,false),(1,1,false)],size:=2,bytes:=24,zero:=[.dat (.str ⟨#[]⟩),.dat (.int .i64 0)],cmp:=[.str,.int] }:=by kernel_rfl
theorem aCw:fS Tryz.prog 281=some { k:=.slice 74,size:=1,bytes:=24,zero:=[.nil],sl:=[some (74,1)] }:=by kernel_rfl
theorem aDS:fS Tryz.prog 304=some { k:=.struct [(0,1,false),(1,1,false),(2,1,false)],size:=3,bytes:=40,zero:=[.nil,.dat (.int .i64 0),.dat (.int .i64 0)],sl:=[some (5,1),none,none] }:=by kernel_rfl
theorem aCt:fS Tryz.prog 308=some { k:=.struct [(0,1,false),(1,1,false),(2,1,false),(3,1,false)],size:=4,bytes:=40,zero:=[.dat (.int .i64 0),.dat (.int .i64 0),.dat (.int .i64 0),.dat (.str ⟨#[]⟩)],cmp:=[.int,.int,.int,.str] }:=by kernel_rfl
theorem aCO:fS Tryz.prog 325=some { k:=.struct [(0,1,false),(1,1,false)],size:=2,bytes:=16,zero:=[.dat (.int .i64 0),.dat (.int .i64 0)],cmp:=[.int,.int] }:=by kernel_rfl
theorem aCS:fS Tryz.prog 328=some { k:=.struct [(0,1,false),(1,1,false),(2,3,true),(5,1,false),(6,1,false)],size:=7,bytes:=72,zero:=[.dat (.int .i64 0),.dat (.int .i64 0),.dat (.int .i64 0),.dat (.int .i64 0),.dat (.str ⟨#[]⟩),.dat (.str ⟨#[]⟩),.dat (.int .i64 0)],cmp:=[.int,.int,.int,.int,.str,.str,.int] }:=by kernel_rfl
theorem J8:fS Tryz.prog 343=some { k:=.slice 351,size:=1,bytes:=24,zero:=[.nil],sl:=[some (351,7)] }:=by kernel_rfl
theorem B2:fS Tryz.prog 345=some { k:=.struct [(0,1,false),(1,1,false)],size:=2,bytes:=32,zero:=[.dat (.int .i64 0),.nil],sl:=[none,some (351,7)] }:=by kernel_rfl
theorem Ij:fS Tryz.prog 351=some { k:=.struct [(0,1,false),(1,1,false),(2,5,true)],size:=7,bytes:=88,zero:=[.dat (.str ⟨#[]⟩),.dat (.str ⟨#[]⟩),.dat (.int .i64 0),.dat (.int .i64 0),.dat (.int .i64 0),.nil,.dat (.bool false)],sl:=[none,none,none,none,none,some (5,1),none] }:=by kernel_rfl
theorem V1:fS Tryz.prog 471=some { k:=.struct [(0,1,false),(1,1,false)],size:=2,bytes:=32,zero:=[.dat (.str ⟨#[]⟩),.dat (.str ⟨#[]⟩)],cmp:=[.str,.str] }:=by kernel_rfl
theorem aCT:fS Tryz.prog 533=some { k:=.struct [(0,1,false),(1,1,false),(2,3,true),(5,3,true)],size:=8,bytes:=72,zero:=[.dat (.bool false),.dat (.bool false),.dat (.int .i64 0),.dat (.int .i64 0),.dat (.str ⟨#[]⟩),.dat (.int .i64 0),.dat (.int .i64 0),.dat (.str ⟨#[]⟩)],cmp:=[.bool,.bool,.int,.int,.str,.int,.int,.str] }:=by kernel_rfl
theorem aCj:fS Tryz.prog 633=some { k:=.struct [(0,1,false),(1,1,false),(2,1,false)],size:=3,bytes:=40,zero:=[.dat (.int .i64 0),.dat (.str ⟨#[]⟩),.dat (.str ⟨#[]⟩)],cmp:=[.int,.str,.str] }:=by kernel_rfl
abbrev Sc:=kD Tryz.prog
def M.aI3.ra(r:M.aI3):List RC:=[.ro (.str r.aI7),.ro (.str r.Top),.ro (.str r.aIz.aI7),.ro (.int .i64 r.aIz.aJP),.ro (.int .i64 r.aIz.aJT),.ro (.int .i64 r.aIz.aJX),.any (.sl (List.map M.aI5.en r.aI1.aI1)),.ro (.str r.bR.aJQ.Name),.ro (.int .i64 r.bR.aJQ.aI0),.any (.sl (List.map M.aD.en r.bR.aJQ.aJF)),.any (.sl (List.map M.aN.en r.bR.aJQ.aJO)),.any (.sl (List.map enB r.bR.Log)),.ro (.int .i64 r.bR.aJi),.ro (.str r.aG.aJQ.Name),.any (.sl (List.map M.aJN.en r.aG.aJQ.aI6)),.ro (.int .i64 r.aG.aJQ.aJa),.ro (.int .i64 r.aG.aJm),.ro (.int .i64 r.aG.aJR.aK.aJA),.ro (.int .i64 r.aG.aJR.aK.aJd),.any (.sl (List.map M.bC.en r.aG.aJR.aK.aJM)),.ro (.int .i64 r.aG.aJR.aJh),.ro (.int .i64 r.aG.aJR.aJY),.ro (.int .i64 r.aJc),.ro (.bool r.aJZ)]
def M.aI3.rs(r:M.aI3):List RC:=[.ro (.str r.aI7),.ro (.str r.Top),.ro (.str r.aIz.aI7),.ro (.int .i64 r.aIz.aJP),.ro (.int .i64 r.aIz.aJT),.ro (.int .i64 r.aIz.aJX),.own 345 2 (List.map M.aI5.en r.aI1.aI1),.ro (.str r.bR.aJQ.Name),.ro (.int .i64 r.bR.aJQ.aI0),.own 117 3 (List.map M.aD.en r.bR.aJQ.aJF),.own 471 2 (List.map M.aN.en r.bR.aJQ.aJO),.own 5 1 (List.map enB r.bR.Log),.ro (.int .i64 r.bR.aJi),.ro (.str r.aG.aJQ.Name),.own 260 4 (List.map M.aJN.en r.aG.aJQ.aI6),.ro (.int .i64 r.aG.aJQ.aJa),.ro (.int .i64 r.aG.aJm),.ro (.int .i64 r.aG.aJR.aK.aJA),.ro (.int .i64 r.aG.aJR.aK.aJd),.own 328 7 (List.map M.bC.en r.aG.aJR.aK.aJM),.ro (.int .i64 r.aG.aJR.aJh),.ro (.int .i64 r.aG.aJR.aJY),.ro (.int .i64 r.aJc),.ro (.bool r.aJZ)]
def M.aI5.rs(r:M.aI5):List RC:=[.ro (.int .i64 r.aI0),.own 351 7 (List.map M.aJE.en r.aJB)]
def M.aC.rs(r:M.aC):List RC:=[.own 345 2 (List.map M.aI5.en r.aI1)]
def M.aJD.rs(r:M.aJD):List RC:=[.own 199 3 (List.map M.AP.en r.aJe)]
def M.aI2.rs(r:M.aI2):List RC:=[.ro (.str r.Name),.ro (.int .i64 r.aI0),.own 117 3 (List.map M.aD.en r.aJF),.own 471 2 (List.map M.aN.en r.aJO)]
def M.bR.rs(r:M.bR):List RC:=[.ro (.str r.aJQ.Name),.ro (.int .i64 r.aJQ.aI0),.own 117 3 (List.map M.aD.en r.aJQ.aJF),.own 471 2 (List.map M.aN.en r.aJQ.aJO),.own 5 1 (List.map enB r.Log),.ro (.int .i64 r.aJi)]
def M.Instr.rs(r:M.Instr):List RC:=[.ro (.int .i64 r.aJS),.ro (.int .i64 r.R),.ro (.int .i64 r.N),.ro (.str r.aJb)]
def M.aJN.rs(r:M.aJN):List RC:=[.ro (.int .i64 r.Key.aJS),.ro (.int .i64 r.Key.N),.ro (.str r.Key.aJb),.own 262 2 (List.map M.Field.en r.aE.aI9)]
def M.Key.rs(r:M.Key):List RC:=[.ro (.int .i64 r.aJS),.ro (.int .i64 r.N),.ro (.str r.aJb)]
def M.aQ.rs(r:M.aQ):List RC:=[.own 196 4 (List.map M.mV.en r.aJJ)]
def M.aJH.rs(r:M.aJH):List RC:=[.own 308 4 (List.map M.Instr.en r.aJj),.ro (.int .i64 r.Pc),.own 3 1 (List.map enI r.aJt),.ro (.int .i64 r.aJp),.ro (.bool r.aJy),.ro (.bool r.aJ0)]
def M.Op.rs(r:M.Op):List RC:=[.ro (.int .i64 r.aJS),.ro (.str r.aD),.ro (.int .i64 r.Key.aJS),.ro (.int .i64 r.Key.N),.ro (.str r.Key.aJb),.own 262 2 (List.map M.Field.en r.aE.aI9),.ro (.str r.Field)]
def M.aK.rs(r:M.aK):List RC:=[.ro (.int .i64 r.aJA),.ro (.int .i64 r.aJd),.own 328 7 (List.map M.bC.en r.aJM)]
def M.bG.rs(r:M.bG):List RC:=[.ro (.int .i64 r.Id),.ro (.str r.aI7),.ro (.str r.Top),.ro (.int .i64 r.aI0),.own 81 2 (List.map M.aV.en r.aV),.own 308 4 (List.map M.Instr.en r.aJH.aJj),.ro (.int .i64 r.aJH.Pc),.own 3 1 (List.map enI r.aJH.aJt),.ro (.int .i64 r.aJH.aJp),.ro (.bool r.aJH.aJy),.ro (.bool r.aJH.aJ0)]
def M.aE.rs(r:M.aE):List RC:=[.own 262 2 (List.map M.Field.en r.aI9)]
def M.aIz.rs(r:M.aIz):List RC:=[.ro (.str r.aI7),.ro (.int .i64 r.aJP),.ro (.int .i64 r.aJT),.ro (.int .i64 r.aJX)]
def M.aG.rs(r:M.aG):List RC:=[.ro (.str r.aJQ.Name),.own 260 4 (List.map M.aJN.en r.aJQ.aI6),.ro (.int .i64 r.aJQ.aJa),.ro (.int .i64 r.aJm),.ro (.int .i64 r.aJR.aK.aJA),.ro (.int .i64 r.aJR.aK.aJd),.own 328 7 (List.map M.bC.en r.aJR.aK.aJM),.ro (.int .i64 r.aJR.aJh),.ro (.int .i64 r.aJR.aJY)]
def M.aI8.rs(r:M.aI8):List RC:=[.ro (.int .i64 r.aJq),.ro (.int .i64 r.aJn),.ro (.int .i64 r.aI0),.own 5 1 (List.map enB r.aJr),.ro (.bool r.aJu)]
def M.aJC.rs(r:M.aJC):List RC:=[.ro (.str r.aD.Name),.own 260 4 (List.map M.aJN.en r.aD.aI6),.ro (.int .i64 r.aD.aJa),.own 325 2 (List.map M.aP.en r.aP),.own 328 7 (List.map M.bC.en r.aJU)]
def M.aI7.ra(r:M.aI7):List RC:=[.ro (.str r.Name),.ro (.int .i64 r.aI0),.any (.sl (List.map enS r.aJW)),.ro (.bool r.aJf)]
def M.aI7.rs(r:M.aI7):List RC:=[.ro (.str r.Name),.ro (.int .i64 r.aI0),.own 9 1 (List.map enS r.aJW),.ro (.bool r.aJf)]
def M.aA.rs(r:M.aA):List RC:=[.own 126 24 (List.map M.aI3.en r.aI4)]
def M.aD.rs(r:M.aD):List RC:=[.ro (.str r.Name),.own 260 4 (List.map M.aJN.en r.aI6),.ro (.int .i64 r.aJa)]
def M.aJR.rs(r:M.aJR):List RC:=[.ro (.int .i64 r.aK.aJA),.ro (.int .i64 r.aK.aJd),.own 328 7 (List.map M.bC.en r.aK.aJM),.ro (.int .i64 r.aJh),.ro (.int .i64 r.aJY)]
def M.World.rs(r:M.World):List RC:=[.ro (.int .i64 r.Now),.ro (.bool r.aJV),.ro (.int .i64 r.aJA),.own 126 24 (List.map M.aI3.en r.aA.aI4),.own 67 11 (List.map M.bG.en r.aJI),.ro (.int .i64 r.aJG),.own 196 4 (List.map M.mV.en r.aJJ.aJJ),.own 199 3 (List.map M.AP.en r.aJD.aJe),.own 92 4 (List.map M.aI7.en r.aJL),.own 205 5 (List.map M.aJC.en r.aJK)]
def M.bC.rs(r:M.bC):List RC:=[.ro (.int .i64 r.aJA),.ro (.int .i64 r.Seq),.ro (.int .i64 r.Key.aJS),.ro (.int .i64 r.Key.N),.ro (.str r.Key.aJb),.ro (.str r.Field),.ro (.int .i64 r.N)]
def Q6:Eg:=oB 58 [cI 0,cB false,cI 0,.nil,.nil,cI 0,.nil,.nil,.nil,.nil]
def aIL:Eg:=oB 65 [.nil,cI 0,.nil,cI 0,cB false,cB false]
def YW:Eg:=oB 67 [cI 0,cS (⟨#[]⟩:ByteArray),cS (⟨#[]⟩:ByteArray),cI 0,.nil,.nil,cI 0,.nil,cI 0,cB false,cB false]
def Ey:Eg:=oB 112 [cS (⟨#[]⟩:ByteArray),cI 0,.nil,.nil]
def aBs:Eg:=oB 114 [cS (⟨#[]⟩:ByteArray),cI 0,.nil,.nil,.nil,cI 0]
def aCL:Eg:=oB 122 [cI 0,cI 0,.nil,cI 0,cI 0]
def aBu:Eg:=oB 124 [cS (⟨#[]⟩:ByteArray),.nil,cI 0,cI 0,cI 0,cI 0,.nil,cI 0,cI 0]
def HN:Eg:=oB 126 [cS (⟨#[]⟩:ByteArray),cS (⟨#[]⟩:ByteArray),cS (⟨#[]⟩:ByteArray),cI 0,cI 0,cI 0,.nil,cS (⟨#[]⟩:ByteArray),cI 0,.nil,.nil,.nil,cI 0,cS (⟨#[]⟩:ByteArray),.nil,cI 0,cI 0,cI 0,cI 0,.nil,cI 0,cI 0,cI 0,cB false]
def aCI:Eg:=oB 139 [cI 0,cS (⟨#[]⟩:ByteArray),cI 0,cI 0,cS (⟨#[]⟩:ByteArray),.nil,cS (⟨#[]⟩:ByteArray)]
def aCG:Eg:=oB 189 [cI 0,cI 0,cI 0,.nil,cB false]
def Yq:Eg:=oB 205 [cS (⟨#[]⟩:ByteArray),.nil,cI 0,.nil,.nil]
def aCq:Eg:=oB 308 [cI 0,cI 0,cI 0,cS (⟨#[]⟩:ByteArray)]
def aCv:Eg:=oB 328 [cI 0,cI 0,cI 0,cI 0,cS (⟨#[]⟩:ByteArray),cS (⟨#[]⟩:ByteArray),cI 0]
def aHb:=PLift.up (qI ti3 (qI ti4 (qI ti5 (qI ti9 (qI aA7 (qI aIY (qI aCk (qI Y7 (qI aIp (qI aIw (qI aIA (qI aIm (qI aCs (qI aCa (qI D9 (qI aIk (qI aIB (qI aId (qI Za (qI aCD (qI aIE (qI aBZ (qI aDI (qI aCr (qI FV (qI dQ (qI Rz (qI Vp (qI Mp (qI aC6 (qI aDC (qI RN (qI aC0 (qI aDG (qI aCu (qI Ua (qI Cg (qI aCz (qI aDP (qI aCK (qI aCx (qI aCl (qI Ql (qI aCW (qI aCb (qI aCN (qI ZS (qI aC9 (qI aCd (qI aCw (qI aDS (qI aCt (qI aCO (qI aCS (qI J8 (qI B2 (qI Ij (qI V1 (qI aCT aCj)))))))))))))))))))))))))))))))))))))))))))))))))))))))))))
theorem TB:type_of% aHb.down:=aHb.down
def aFx:=PLift.up (qI @enI.eq_1 (qI @enB.eq_1 (qI @enS.eq_1 (qI @enT.eq_1 (qI @enL.eq_1 (qI @enI.fl (qI @enB.fl (qI @enS.fl (qI @enT.fl (qI @W3 (qI @Xr (qI @Vz (qI @aI.eq_1 (qI @aB.eq_1 (qI @aS.eq_1 (qI @aL.eq_1 (qI @aX.eq_1 (qI @cI.eq_1 (qI @cB.eq_1 (qI @cS.eq_1 (qI @cL.eq_1 (qI @vI.eq_1 (qI @vB.eq_1 (qI @vS.eq_1 (qI @vL.eq_1 (qI @vR.eq_1 (qI @vP.eq_1 (qI @oX.eq_1 (qI @oB.eq_1 (qI @oW.eq_1 (qI @rI.eq_1 (qI @rB.eq_1 (qI @rS.eq_1 (qI @rW.eq_1 (qI @M.aI3.ra.eq_1 (qI @M.aI3.rs.eq_1 (qI @M.aI5.rs.eq_1 (qI @M.aC.rs.eq_1 (qI @M.aJD.rs.eq_1 (qI @M.aI2.rs.eq_1 (qI @M.bR.rs.eq_1 (qI @M.Instr.rs.eq_1 (qI @M.aJN.rs.eq_1 (qI @M.Key.rs.eq_1 (qI @M.aQ.rs.eq_1 (qI @M.aJH.rs.eq_1 (qI @M.Op.rs.eq_1 (qI @M.aK.rs.eq_1 (qI @M.bG.rs.eq_1 (qI @M.aE.rs.eq_1 (qI @M.aIz.rs.eq_1 (qI @M.aG.rs.eq_1 (qI @M.aI8.rs.eq_1 (qI @M.aJC.rs.eq_1 (qI @M.aI7.ra.eq_1 (qI @M.aI7.rs.eq_1 (qI @M.aA.rs.eq_1 (qI @M.aD.rs.eq_1 (qI @M.aJR.rs.eq_1 (qI @M.World.rs.eq_1 (qI @M.bC.rs.eq_1 (qI @Q6.eq_1 (qI @aIL.eq_1 (qI @YW.eq_1 (qI @Ey.eq_1 (qI @aBs.eq_1 (qI @aCL.eq_1 (qI @aBu.eq_1 (qI @HN.eq_1 (qI @aCI.eq_1 (qI @aCG.eq_1 (qI @Yq.eq_1 (qI @aCq.eq_1 (qI @aCv.eq_1 (qI @M.aM.en.eq_1 (qI @M.aIz.en.eq_1 (qI @M.aIz.en.fl (qI @M.aI8.en.eq_1 (qI @M.aJE.en.eq_1 (qI @M.aI5.en.eq_1 (qI @M.aC.en.eq_1 (qI @M.Key.en.eq_1 (qI @M.Key.en.fl (qI @M.Field.en.eq_1 (qI @M.Field.en.fl (qI @M.aE.en.eq_1 (qI @M.aJN.en.eq_1 (qI @M.aD.en.eq_1 (qI @M.aN.en.eq_1 (qI @M.aN.en.fl (qI @M.aI2.en.eq_1 (qI @M.bR.en.eq_1 (qI @M.bC.en.eq_1 (qI @M.bC.en.fl (qI @M.aK.en.eq_1 (qI @M.aJR.en.eq_1 (qI @M.aG.en.eq_1 (qI @M.aI3.en.eq_1 (qI @M.aA.en.eq_1 (qI @M.aV.en.eq_1 (qI @M.aV.en.fl (qI @M.Instr.en.eq_1 (qI @M.Instr.en.fl (qI @M.aJH.en.eq_1 (qI @M.bG.en.eq_1 (qI @M.mV.en.eq_1 (qI @M.mV.en.fl (qI @M.aQ.en.eq_1 (qI @M.AP.en.eq_1 (qI @M.AP.en.fl (qI @M.aJD.en.eq_1 (qI @M.aI7.en.eq_1 (qI @M.aP.en.eq_1 (qI @M.aP.en.fl (qI @M.aJC.en.eq_1 (qI @M.World.en.eq_1 (qI @M.Op.en.eq_1 (qI @M.gT.en.eq_1 (qI @M.gT.en.fl (qI @M.mK.en.eq_1 @M.mK.en.fl))))))))))))))))))))))))))))))))))))))))))))))))))))))))))))))))))))))))))))))))))))))))))))))))))))))))))))))))))))))))
theorem EN:type_of% aFx.down:=aFx.down
