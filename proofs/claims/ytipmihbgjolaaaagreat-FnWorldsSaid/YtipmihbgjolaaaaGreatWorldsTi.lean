/-
  Helper text. No conditions.
-/
import Derived.Test.YtipmihbgjolaaaaGreatWorldsMod
import Derived.Test.YtipmihbgjolaaaaGreatProg
import Derived.KernelRfl
set_option linter.unusedVariables false
set_option linter.unusedSimpArgs false
namespace Go.Proofs.YtipmihbgjolaaaaGreat.gen
open Go Go.Sh
theorem mixed:Tryz.prog.follows .mixedOrders=true:=by kernel_rfl
theorem ti3:eV Tryz.prog 3=some { k:=.int .i64,size:=1,bytes:=8,zero:=[.dat (.int .i64 0)] }:=by kernel_rfl
theorem ti4:eV Tryz.prog 4=some { k:=.bool,size:=1,bytes:=1,zero:=[.dat (.bool false)] }:=by kernel_rfl
theorem ti5:eV Tryz.prog 5=some { k:=.int .u8,size:=1,bytes:=1,zero:=[.dat (.int .u8 0)] }:=by kernel_rfl
theorem ti9:eV Tryz.prog 9=some { k:=.str,size:=1,bytes:=16,zero:=[.dat (.str ⟨#[]⟩)] }:=by kernel_rfl
theorem Vd:eV Tryz.prog 22=some { k:=.slice 5,size:=1,bytes:=24,zero:=[.nil],sl:=[some (5,1)] }:=by kernel_rfl
theorem Uy:eV Tryz.prog 24=some { k:=.slice 49,size:=1,bytes:=24,zero:=[.nil],sl:=[some (49,24)] }:=by kernel_rfl
theorem RU:eV Tryz.prog 26=some { k:=.struct [(0,1,false)],size:=1,bytes:=24,zero:=[.nil],sl:=[some (49,24)] }:=by kernel_rfl
theorem ZL:eV Tryz.prog 28=some { k:=.struct [(0,1,false),(1,1,false),(2,1,false),(3,1,false)],size:=4,bytes:=40,zero:=[.dat (.str ⟨#[]⟩),.dat (.int .i64 0),.dat (.int .i64 0),.dat (.int .i64 0)],cmp:=[.str,.int,.int,.int] }:=by kernel_rfl
theorem M9:eV Tryz.prog 29=some { k:=.slice 193,size:=1,bytes:=24,zero:=[.nil],sl:=[some (193,2)] }:=by kernel_rfl
theorem yY:eV Tryz.prog 31=some { k:=.struct [(0,1,false)],size:=1,bytes:=24,zero:=[.nil],sl:=[some (193,2)] }:=by kernel_rfl
theorem TP:eV Tryz.prog 32=some { k:=.slice 40,size:=1,bytes:=24,zero:=[.nil],sl:=[some (40,3)] }:=by kernel_rfl
theorem UM:eV Tryz.prog 33=some { k:=.slice 282,size:=1,bytes:=24,zero:=[.nil],sl:=[some (282,2)] }:=by kernel_rfl
theorem PD:eV Tryz.prog 35=some { k:=.struct [(0,1,false),(1,1,false),(2,1,false),(3,1,false)],size:=4,bytes:=72,zero:=[.dat (.str ⟨#[]⟩),.dat (.int .i64 0),.nil,.nil],sl:=[none,none,some (40,3),some (282,2)] }:=by kernel_rfl
theorem Zu:eV Tryz.prog 37=some { k:=.struct [(0,4,true),(4,1,false),(5,1,false)],size:=6,bytes:=104,zero:=[.dat (.str ⟨#[]⟩),.dat (.int .i64 0),.nil,.nil,.nil,.dat (.int .i64 0)],sl:=[none,none,some (40,3),some (282,2),some (5,1),none] }:=by kernel_rfl
theorem Z7:eV Tryz.prog 38=some { k:=.slice 284,size:=1,bytes:=24,zero:=[.nil],sl:=[some (284,4)] }:=by kernel_rfl
theorem TJ:eV Tryz.prog 40=some { k:=.struct [(0,1,false),(1,1,false),(2,1,false)],size:=3,bytes:=48,zero:=[.dat (.str ⟨#[]⟩),.nil,.dat (.int .i64 0)],sl:=[none,some (284,4),none] }:=by kernel_rfl
theorem Z1:eV Tryz.prog 41=some { k:=.slice 211,size:=1,bytes:=24,zero:=[.nil],sl:=[some (211,7)] }:=by kernel_rfl
theorem ZW:eV Tryz.prog 43=some { k:=.struct [(0,1,false),(1,1,false),(2,1,false)],size:=3,bytes:=40,zero:=[.dat (.int .i64 0),.dat (.int .i64 0),.nil],sl:=[none,none,some (211,7)] }:=by kernel_rfl
theorem ZD:eV Tryz.prog 45=some { k:=.struct [(0,3,true),(3,1,false),(4,1,false)],size:=5,bytes:=56,zero:=[.dat (.int .i64 0),.dat (.int .i64 0),.nil,.dat (.int .i64 0),.dat (.int .i64 0)],sl:=[none,none,some (211,7),none,none] }:=by kernel_rfl
theorem Uh:eV Tryz.prog 47=some { k:=.struct [(0,3,true),(3,1,false),(4,5,true)],size:=9,bytes:=112,zero:=[.dat (.str ⟨#[]⟩),.nil,.dat (.int .i64 0),.dat (.int .i64 0),.dat (.int .i64 0),.dat (.int .i64 0),.nil,.dat (.int .i64 0),.dat (.int .i64 0)],sl:=[none,some (284,4),none,none,none,none,some (211,7),none,none] }:=by kernel_rfl
theorem QE:eV Tryz.prog 49=some { k:=.struct [(0,1,false),(1,1,false),(2,4,true),(6,1,true),(7,6,true),(13,9,true),(22,1,false),(23,1,false)],size:=24,bytes:=328,zero:=[.dat (.str ⟨#[]⟩),.dat (.str ⟨#[]⟩),.dat (.str ⟨#[]⟩),.dat (.int .i64 0),.dat (.int .i64 0),.dat (.int .i64 0),.nil,.dat (.str ⟨#[]⟩),.dat (.int .i64 0),.nil,.nil,.nil,.dat (.int .i64 0),.dat (.str ⟨#[]⟩),.nil,.dat (.int .i64 0),.dat (.int .i64 0),.dat (.int .i64 0),.dat (.int .i64 0),.nil,.dat (.int .i64 0),.dat (.int .i64 0),.dat (.int .i64 0),.dat (.bool false)],sl:=[none,none,none,none,none,none,some (193,2),none,none,some (40,3),some (282,2),some (5,1),none,none,some (284,4),none,none,none,none,some (211,7),none,none,none,none] }:=by kernel_rfl
theorem Ue:eV Tryz.prog 57=some { k:=.slice 96,size:=1,bytes:=24,zero:=[.nil],sl:=[some (96,11)] }:=by kernel_rfl
theorem U8:eV Tryz.prog 60=some { k:=.slice 9,size:=1,bytes:=24,zero:=[.nil],sl:=[some (9,1)] }:=by kernel_rfl
theorem Zy:eV Tryz.prog 66=some { k:=.slice 154,size:=1,bytes:=24,zero:=[.nil],sl:=[some (154,4)] }:=by kernel_rfl
theorem ZE:eV Tryz.prog 68=some { k:=.struct [(0,1,false)],size:=1,bytes:=24,zero:=[.nil],sl:=[some (154,4)] }:=by kernel_rfl
theorem ZA:eV Tryz.prog 69=some { k:=.slice 157,size:=1,bytes:=24,zero:=[.nil],sl:=[some (157,3)] }:=by kernel_rfl
theorem ZU:eV Tryz.prog 71=some { k:=.struct [(0,1,false)],size:=1,bytes:=24,zero:=[.nil],sl:=[some (157,3)] }:=by kernel_rfl
theorem Ja:eV Tryz.prog 72=some { k:=.slice 85,size:=1,bytes:=24,zero:=[.nil],sl:=[some (85,4)] }:=by kernel_rfl
theorem Vm:eV Tryz.prog 73=some { k:=.slice 137,size:=1,bytes:=24,zero:=[.nil],sl:=[some (137,5)] }:=by kernel_rfl
theorem mI:eV Tryz.prog 75=some { k:=.struct [(0,1,false),(1,1,false),(2,1,false),(3,1,true),(4,1,false),(5,1,false),(6,1,true),(7,1,true),(8,1,false),(9,1,false)],size:=10,bytes:=176,zero:=[.dat (.int .i64 0),.dat (.bool false),.dat (.int .i64 0),.nil,.nil,.dat (.int .i64 0),.nil,.nil,.nil,.nil],sl:=[none,none,none,some (49,24),some (96,11),none,some (154,4),some (157,3),some (85,4),some (137,5)] }:=by kernel_rfl
theorem O0:eV Tryz.prog 85=some { k:=.struct [(0,1,false),(1,1,false),(2,1,false),(3,1,false)],size:=4,bytes:=56,zero:=[.dat (.str ⟨#[]⟩),.dat (.int .i64 0),.nil,.dat (.bool false)],sl:=[none,none,some (9,1),none] }:=by kernel_rfl
theorem ZJ:eV Tryz.prog 90=some { k:=.slice 98,size:=1,bytes:=24,zero:=[.nil],sl:=[some (98,2)] }:=by kernel_rfl
theorem Zj:eV Tryz.prog 91=some { k:=.slice 216,size:=1,bytes:=24,zero:=[.nil],sl:=[some (216,4)] }:=by kernel_rfl
theorem Uk:eV Tryz.prog 92=some { k:=.slice 3,size:=1,bytes:=24,zero:=[.nil],sl:=[some (3,1)] }:=by kernel_rfl
theorem ZG:eV Tryz.prog 94=some { k:=.struct [(0,1,false),(1,1,false),(2,1,false),(3,1,false),(4,1,false),(5,1,false)],size:=6,bytes:=72,zero:=[.nil,.dat (.int .i64 0),.nil,.dat (.int .i64 0),.dat (.bool false),.dat (.bool false)],sl:=[some (216,4),none,some (3,1),none,none,none] }:=by kernel_rfl
theorem Rq:eV Tryz.prog 96=some { k:=.struct [(0,1,false),(1,1,false),(2,1,false),(3,1,false),(4,1,false),(5,6,true)],size:=11,bytes:=144,zero:=[.dat (.int .i64 0),.dat (.str ⟨#[]⟩),.dat (.str ⟨#[]⟩),.dat (.int .i64 0),.nil,.nil,.dat (.int .i64 0),.nil,.dat (.int .i64 0),.dat (.bool false),.dat (.bool false)],sl:=[none,none,none,none,some (98,2),some (216,4),none,some (3,1),none,none,none] }:=by kernel_rfl
theorem ZT:eV Tryz.prog 98=some { k:=.struct [(0,1,false),(1,1,false)],size:=2,bytes:=24,zero:=[.dat (.str ⟨#[]⟩),.dat (.int .i64 0)],cmp:=[.str,.int] }:=by kernel_rfl
theorem Tx:eV Tryz.prog 105=some { k:=.struct [(0,1,false),(1,1,false),(2,1,false),(3,1,false),(4,1,false)],size:=5,bytes:=56,zero:=[.dat (.int .i64 0),.dat (.int .i64 0),.dat (.int .i64 0),.nil,.dat (.bool false)],sl:=[none,none,none,some (5,1),none] }:=by kernel_rfl
theorem VH:eV Tryz.prog 135=some { k:=.slice 207,size:=1,bytes:=24,zero:=[.nil],sl:=[some (207,2)] }:=by kernel_rfl
theorem TM:eV Tryz.prog 137=some { k:=.struct [(0,3,true),(3,1,false),(4,1,false)],size:=5,bytes:=96,zero:=[.dat (.str ⟨#[]⟩),.nil,.dat (.int .i64 0),.nil,.nil],sl:=[none,some (284,4),none,some (207,2),some (211,7)] }:=by kernel_rfl
theorem Vs:eV Tryz.prog 154=some { k:=.struct [(0,1,false),(1,1,false),(2,1,false),(3,1,false)],size:=4,bytes:=32,zero:=[.dat (.str ⟨#[]⟩),.dat (.int .i64 0),.dat (.bool false),.dat (.bool false)],cmp:=[.str,.int,.bool,.bool] }:=by kernel_rfl
theorem Vn:eV Tryz.prog 157=some { k:=.struct [(0,1,false),(1,1,false),(2,1,false)],size:=3,bytes:=24,zero:=[.dat (.int .i64 0),.dat (.int .i64 0),.dat (.int .i64 0)],cmp:=[.int,.int,.int] }:=by kernel_rfl
theorem VV:eV Tryz.prog 182=some { k:=.struct [(0,1,false),(1,1,false),(2,1,false)],size:=3,bytes:=40,zero:=[.nil,.dat (.int .i64 0),.dat (.int .i64 0)],sl:=[some (5,1),none,none] }:=by kernel_rfl
theorem Ko:eV Tryz.prog 191=some { k:=.slice 195,size:=1,bytes:=24,zero:=[.nil],sl:=[some (195,7)] }:=by kernel_rfl
theorem CQ:eV Tryz.prog 193=some { k:=.struct [(0,1,false),(1,1,false)],size:=2,bytes:=32,zero:=[.dat (.int .i64 0),.nil],sl:=[none,some (195,7)] }:=by kernel_rfl
theorem Il:eV Tryz.prog 195=some { k:=.struct [(0,1,false),(1,1,false),(2,5,true)],size:=7,bytes:=88,zero:=[.dat (.str ⟨#[]⟩),.dat (.str ⟨#[]⟩),.dat (.int .i64 0),.dat (.int .i64 0),.dat (.int .i64 0),.nil,.dat (.bool false)],sl:=[none,none,none,none,none,some (5,1),none] }:=by kernel_rfl
theorem VI:eV Tryz.prog 207=some { k:=.struct [(0,1,false),(1,1,false)],size:=2,bytes:=16,zero:=[.dat (.int .i64 0),.dat (.int .i64 0)],cmp:=[.int,.int] }:=by kernel_rfl
theorem VD:eV Tryz.prog 209=some { k:=.struct [(0,1,false),(1,1,false),(2,1,false)],size:=3,bytes:=32,zero:=[.dat (.int .i64 0),.dat (.int .i64 0),.dat (.str ⟨#[]⟩)],cmp:=[.int,.int,.str] }:=by kernel_rfl
theorem VT:eV Tryz.prog 211=some { k:=.struct [(0,1,false),(1,1,false),(2,3,true),(5,1,false),(6,1,false)],size:=7,bytes:=72,zero:=[.dat (.int .i64 0),.dat (.int .i64 0),.dat (.int .i64 0),.dat (.int .i64 0),.dat (.str ⟨#[]⟩),.dat (.str ⟨#[]⟩),.dat (.int .i64 0)],cmp:=[.int,.int,.int,.int,.str,.str,.int] }:=by kernel_rfl
theorem VP:eV Tryz.prog 216=some { k:=.struct [(0,1,false),(1,1,false),(2,1,false),(3,1,false)],size:=4,bytes:=40,zero:=[.dat (.int .i64 0),.dat (.int .i64 0),.dat (.int .i64 0),.dat (.str ⟨#[]⟩)],cmp:=[.int,.int,.int,.str] }:=by kernel_rfl
theorem V2:eV Tryz.prog 252=some { k:=.slice 356,size:=1,bytes:=24,zero:=[.nil],sl:=[some (356,2)] }:=by kernel_rfl
theorem VZ:eV Tryz.prog 254=some { k:=.struct [(0,1,false)],size:=1,bytes:=24,zero:=[.nil],sl:=[some (356,2)] }:=by kernel_rfl
theorem Vo:eV Tryz.prog 257=some { k:=.struct [(0,1,false),(1,1,false),(2,3,true),(5,1,true),(6,1,false)],size:=7,bytes:=96,zero:=[.dat (.int .i64 0),.dat (.str ⟨#[]⟩),.dat (.int .i64 0),.dat (.int .i64 0),.dat (.str ⟨#[]⟩),.nil,.dat (.str ⟨#[]⟩)],sl:=[none,none,none,none,none,some (356,2),none] }:=by kernel_rfl
theorem Vv:eV Tryz.prog 258=some { k:=.slice 257,size:=1,bytes:=24,zero:=[.nil],sl:=[some (257,7)] }:=by kernel_rfl
theorem O6:eV Tryz.prog 282=some { k:=.struct [(0,1,false),(1,1,false)],size:=2,bytes:=32,zero:=[.dat (.str ⟨#[]⟩),.dat (.str ⟨#[]⟩)],cmp:=[.str,.str] }:=by kernel_rfl
theorem VJ:eV Tryz.prog 284=some { k:=.struct [(0,3,true),(3,1,true)],size:=4,bytes:=56,zero:=[.dat (.int .i64 0),.dat (.int .i64 0),.dat (.str ⟨#[]⟩),.nil],sl:=[none,none,none,some (356,2)] }:=by kernel_rfl
theorem VB:eV Tryz.prog 356=some { k:=.struct [(0,1,false),(1,1,false)],size:=2,bytes:=24,zero:=[.dat (.str ⟨#[]⟩),.dat (.int .i64 0)],cmp:=[.str,.int] }:=by kernel_rfl
theorem VE:eV Tryz.prog 365=some { k:=.slice 22,size:=1,bytes:=24,zero:=[.nil],sl:=[some (22,1)] }:=by kernel_rfl
theorem V3:eV Tryz.prog 380=some { k:=.struct [(0,1,false),(1,1,false),(2,1,false)],size:=3,bytes:=40,zero:=[.dat (.int .i64 0),.dat (.str ⟨#[]⟩),.dat (.str ⟨#[]⟩)],cmp:=[.int,.str,.str] }:=by kernel_rfl
theorem Wc:eV Tryz.prog 426=some { k:=.struct [(0,1,false),(1,1,false),(2,3,true),(5,3,true)],size:=8,bytes:=72,zero:=[.dat (.bool false),.dat (.bool false),.dat (.int .i64 0),.dat (.int .i64 0),.dat (.str ⟨#[]⟩),.dat (.int .i64 0),.dat (.int .i64 0),.dat (.str ⟨#[]⟩)],cmp:=[.bool,.bool,.int,.int,.str,.int,.int,.str] }:=by kernel_rfl
abbrev Sc:=jW Tryz.prog
def M.aO.rs (r:M.aO):List RC:=[.ro (.str r.aAO),.ro (.str r.Top),.ro (.str r.aAC.aAO),.ro (.int .i64 r.aAC.aAc),.ro (.int .i64 r.aAC.aAl),.ro (.int .i64 r.aAC.aAr),.own 193 2 (List.map M.aAL.en r.aAE.aAE),.ro (.str r.cR.aAU.Name),.ro (.int .i64 r.cR.aAU.aAB),.own 40 3 (List.map M.aA.en r.cR.aAU.aAH),.own 282 2 (List.map M.aN.en r.cR.aAU.aAS),.own 5 1 (List.map enB r.cR.Log),.ro (.int .i64 r.cR.aAn),.ro (.str r.aG.aAU.Name),.own 284 4 (List.map M.aAQ.en r.aG.aAU.aAD),.ro (.int .i64 r.aG.aAU.aAd),.ro (.int .i64 r.aG.aAu),.ro (.int .i64 r.aG.aAT.aH.aAK),.ro (.int .i64 r.aG.aAT.aH.aAh),.own 211 7 (List.map M.bA.en r.aG.aAT.aH.aAP),.ro (.int .i64 r.aG.aAT.aAm),.ro (.int .i64 r.aG.aAT.aAb),.ro (.int .i64 r.aAk),.ro (.bool r.aAj)]
def M.aAL.rs (r:M.aAL):List RC:=[.ro (.int .i64 r.aAB),.own 195 7 (List.map M.aAR.en r.aAN)]
def M.aF.rs (r:M.aF):List RC:=[.own 193 2 (List.map M.aAL.en r.aAE)]
def M.aAA.rs (r:M.aAA):List RC:=[.ro (.str r.Name),.ro (.int .i64 r.aAB),.own 40 3 (List.map M.aA.en r.aAH),.own 282 2 (List.map M.aN.en r.aAS)]
def M.cR.rs (r:M.cR):List RC:=[.ro (.str r.aAU.Name),.ro (.int .i64 r.aAU.aAB),.own 40 3 (List.map M.aA.en r.aAU.aAH),.own 282 2 (List.map M.aN.en r.aAU.aAS),.own 5 1 (List.map enB r.Log),.ro (.int .i64 r.aAn)]
def M.Instr.rs (r:M.Instr):List RC:=[.ro (.int .i64 r.aAV),.ro (.int .i64 r.R),.ro (.int .i64 r.N),.ro (.str r.aAf)]
def M.aAQ.rs (r:M.aAQ):List RC:=[.ro (.int .i64 r.Key.aAV),.ro (.int .i64 r.Key.N),.ro (.str r.Key.aAf),.own 356 2 (List.map M.Field.en r.aC.aAF)]
def M.Key.rs (r:M.Key):List RC:=[.ro (.int .i64 r.aAV),.ro (.int .i64 r.N),.ro (.str r.aAf)]
def M.aAJ.rs (r:M.aAJ):List RC:=[.own 216 4 (List.map M.Instr.en r.aAp),.ro (.int .i64 r.Pc),.own 3 1 (List.map enI r.aA1),.ro (.int .i64 r.aAy),.ro (.bool r.aA6),.ro (.bool r.aA7)]
def M.Op.rs (r:M.Op):List RC:=[.ro (.int .i64 r.aAV),.ro (.str r.aA),.ro (.int .i64 r.Key.aAV),.ro (.int .i64 r.Key.N),.ro (.str r.Key.aAf),.own 356 2 (List.map M.Field.en r.aC.aAF),.ro (.str r.Field)]
def M.aH.rs (r:M.aH):List RC:=[.ro (.int .i64 r.aAK),.ro (.int .i64 r.aAh),.own 211 7 (List.map M.bA.en r.aAP)]
def M.bV.rs (r:M.bV):List RC:=[.ro (.int .i64 r.Id),.ro (.str r.aAO),.ro (.str r.Top),.ro (.int .i64 r.aAB),.own 98 2 (List.map M.aU.en r.aU),.own 216 4 (List.map M.Instr.en r.aAJ.aAp),.ro (.int .i64 r.aAJ.Pc),.own 3 1 (List.map enI r.aAJ.aA1),.ro (.int .i64 r.aAJ.aAy),.ro (.bool r.aAJ.aA6),.ro (.bool r.aAJ.aA7)]
def M.aC.rs (r:M.aC):List RC:=[.own 356 2 (List.map M.Field.en r.aAF)]
def M.aG.rs (r:M.aG):List RC:=[.ro (.str r.aAU.Name),.own 284 4 (List.map M.aAQ.en r.aAU.aAD),.ro (.int .i64 r.aAU.aAd),.ro (.int .i64 r.aAu),.ro (.int .i64 r.aAT.aH.aAK),.ro (.int .i64 r.aAT.aH.aAh),.own 211 7 (List.map M.bA.en r.aAT.aH.aAP),.ro (.int .i64 r.aAT.aAm),.ro (.int .i64 r.aAT.aAb)]
def M.aAM.rs (r:M.aAM):List RC:=[.ro (.int .i64 r.aA0),.ro (.int .i64 r.aAw),.ro (.int .i64 r.aAB),.own 5 1 (List.map enB r.aA4),.ro (.bool r.aA9)]
def M.aAI.rs (r:M.aAI):List RC:=[.ro (.str r.aA.Name),.own 284 4 (List.map M.aAQ.en r.aA.aAD),.ro (.int .i64 r.aA.aAd),.own 207 2 (List.map M.aK.en r.aK),.own 211 7 (List.map M.bA.en r.aAZ)]
def M.aJ.rs (r:M.aJ):List RC:=[.own 49 24 (List.map M.aO.en r.aAG)]
def M.aA.rs (r:M.aA):List RC:=[.ro (.str r.Name),.own 284 4 (List.map M.aAQ.en r.aAD),.ro (.int .i64 r.aAd)]
def M.aAT.rs (r:M.aAT):List RC:=[.ro (.int .i64 r.aH.aAK),.ro (.int .i64 r.aH.aAh),.own 211 7 (List.map M.bA.en r.aH.aAP),.ro (.int .i64 r.aAm),.ro (.int .i64 r.aAb)]
def M.World.rs (r:M.World):List RC:=[.ro (.int .i64 r.Now),.ro (.bool r.aAi),.ro (.int .i64 r.aAK),.own 49 24 (List.map M.aO.en r.aJ.aAG),.own 96 11 (List.map M.bV.en r.aAX),.ro (.int .i64 r.aAg),.own 154 4 (List.map M.tV.en r.aAW.aAW),.own 157 3 (List.map M.xV.en r.aAa.aAx),.own 85 4 (List.map M.aAO.en r.aAe),.own 137 5 (List.map M.aAI.en r.aAY)]
def M.bA.rs (r:M.bA):List RC:=[.ro (.int .i64 r.aAK),.ro (.int .i64 r.Seq),.ro (.int .i64 r.Key.aAV),.ro (.int .i64 r.Key.N),.ro (.str r.Key.aAf),.ro (.str r.Field),.ro (.int .i64 r.N)]
def H5:AB:=oB 35 [cS (⟨#[]⟩:ByteArray),cI 0,.nil,.nil]
def X0:AB:=oB 37 [cS (⟨#[]⟩:ByteArray),cI 0,.nil,.nil,.nil,cI 0]
def Zm:AB:=oB 45 [cI 0,cI 0,.nil,cI 0,cI 0]
def Wk:AB:=oB 47 [cS (⟨#[]⟩:ByteArray),.nil,cI 0,cI 0,cI 0,cI 0,.nil,cI 0,cI 0]
def Lk:AB:=oB 49 [cS (⟨#[]⟩:ByteArray),cS (⟨#[]⟩:ByteArray),cS (⟨#[]⟩:ByteArray),cI 0,cI 0,cI 0,.nil,cS (⟨#[]⟩:ByteArray),cI 0,.nil,.nil,.nil,cI 0,cS (⟨#[]⟩:ByteArray),.nil,cI 0,cI 0,cI 0,cI 0,.nil,cI 0,cI 0,cI 0,cB false]
def Ln:AB:=oB 75 [cI 0,cB false,cI 0,.nil,.nil,cI 0,.nil,.nil,.nil,.nil]
def Zq:AB:=oB 94 [.nil,cI 0,.nil,cI 0,cB false,cB false]
def RE:AB:=oB 96 [cI 0,cS (⟨#[]⟩:ByteArray),cS (⟨#[]⟩:ByteArray),cI 0,.nil,.nil,cI 0,.nil,cI 0,cB false,cB false]
def Vu:AB:=oB 105 [cI 0,cI 0,cI 0,.nil,cB false]
def Q1:AB:=oB 137 [cS (⟨#[]⟩:ByteArray),.nil,cI 0,.nil,.nil]
def VQ:AB:=oB 211 [cI 0,cI 0,cI 0,cI 0,cS (⟨#[]⟩:ByteArray),cS (⟨#[]⟩:ByteArray),cI 0]
def Vy:AB:=oB 216 [cI 0,cI 0,cI 0,cS (⟨#[]⟩:ByteArray)]
def V5:AB:=oB 257 [cI 0,cS (⟨#[]⟩:ByteArray),cI 0,cI 0,cS (⟨#[]⟩:ByteArray),.nil,cS (⟨#[]⟩:ByteArray)]
def YX:=PLift.up (qI ti3 (qI ti4 (qI ti5 (qI ti9 (qI Vd (qI Uy (qI RU (qI ZL (qI M9 (qI yY (qI TP (qI UM (qI PD (qI Zu (qI Z7 (qI TJ (qI Z1 (qI ZW (qI ZD (qI Uh (qI QE (qI Ue (qI U8 (qI Zy (qI ZE (qI ZA (qI ZU (qI Ja (qI Vm (qI mI (qI O0 (qI ZJ (qI Zj (qI Uk (qI ZG (qI Rq (qI ZT (qI Tx (qI VH (qI TM (qI Vs (qI Vn (qI VV (qI Ko (qI CQ (qI Il (qI VI (qI VD (qI VT (qI VP (qI V2 (qI VZ (qI Vo (qI Vv (qI O6 (qI VJ (qI VB (qI VE (qI V3 Wc)))))))))))))))))))))))))))))))))))))))))))))))))))))))))))
theorem TB:type_of% YX.down:=YX.down
def XM:=PLift.up (qI @enI.eq_1 (qI @enB.eq_1 (qI @enS.eq_1 (qI @enT.eq_1 (qI @enL.eq_1 (qI @enI.fl (qI @enB.fl (qI @enS.fl (qI @enT.fl (qI @Qq (qI @QS (qI @O9 (qI @aI.eq_1 (qI @aB.eq_1 (qI @aS.eq_1 (qI @aL.eq_1 (qI @aX.eq_1 (qI @cI.eq_1 (qI @cB.eq_1 (qI @cS.eq_1 (qI @cL.eq_1 (qI @vI.eq_1 (qI @vB.eq_1 (qI @vS.eq_1 (qI @vL.eq_1 (qI @vR.eq_1 (qI @vP.eq_1 (qI @oX.eq_1 (qI @oB.eq_1 (qI @oW.eq_1 (qI @rI.eq_1 (qI @rB.eq_1 (qI @rS.eq_1 (qI @rW.eq_1 (qI @M.aO.rs.eq_1 (qI @M.aAL.rs.eq_1 (qI @M.aF.rs.eq_1 (qI @M.aAA.rs.eq_1 (qI @M.cR.rs.eq_1 (qI @M.Instr.rs.eq_1 (qI @M.aAQ.rs.eq_1 (qI @M.Key.rs.eq_1 (qI @M.aAJ.rs.eq_1 (qI @M.Op.rs.eq_1 (qI @M.aH.rs.eq_1 (qI @M.bV.rs.eq_1 (qI @M.aC.rs.eq_1 (qI @M.aG.rs.eq_1 (qI @M.aAM.rs.eq_1 (qI @M.aAI.rs.eq_1 (qI @M.aJ.rs.eq_1 (qI @M.aA.rs.eq_1 (qI @M.aAT.rs.eq_1 (qI @M.World.rs.eq_1 (qI @M.bA.rs.eq_1 (qI @H5.eq_1 (qI @X0.eq_1 (qI @Zm.eq_1 (qI @Wk.eq_1 (qI @Lk.eq_1 (qI @Ln.eq_1 (qI @Zq.eq_1 (qI @RE.eq_1 (qI @Vu.eq_1 (qI @Q1.eq_1 (qI @VQ.eq_1 (qI @Vy.eq_1 (qI @V5.eq_1 (qI @M.aQ.en.eq_1 (qI @M.aAC.en.eq_1 (qI @M.aAC.en.fl (qI @M.aAM.en.eq_1 (qI @M.aAR.en.eq_1 (qI @M.aAL.en.eq_1 (qI @M.aF.en.eq_1 (qI @M.Key.en.eq_1 (qI @M.Key.en.fl (qI @M.Field.en.eq_1 (qI @M.Field.en.fl (qI @M.aC.en.eq_1 (qI @M.aAQ.en.eq_1 (qI @M.aA.en.eq_1 (qI @M.aN.en.eq_1 (qI @M.aN.en.fl (qI @M.aAA.en.eq_1 (qI @M.cR.en.eq_1 (qI @M.bA.en.eq_1 (qI @M.bA.en.fl (qI @M.aH.en.eq_1 (qI @M.aAT.en.eq_1 (qI @M.aG.en.eq_1 (qI @M.aO.en.eq_1 (qI @M.aJ.en.eq_1 (qI @M.aU.en.eq_1 (qI @M.aU.en.fl (qI @M.Instr.en.eq_1 (qI @M.Instr.en.fl (qI @M.aAJ.en.eq_1 (qI @M.bV.en.eq_1 (qI @M.tV.en.eq_1 (qI @M.tV.en.fl (qI @M.cH.en.eq_1 (qI @M.xV.en.eq_1 (qI @M.xV.en.fl (qI @M.aAa.en.eq_1 (qI @M.aAO.en.eq_1 (qI @M.aK.en.eq_1 (qI @M.aK.en.fl (qI @M.aAI.en.eq_1 (qI @M.World.en.eq_1 (qI @M.Op.en.eq_1 (qI @M.fI.en.eq_1 (qI @M.fI.en.fl (qI @M.iW.en.eq_1 @M.iW.en.fl))))))))))))))))))))))))))))))))))))))))))))))))))))))))))))))))))))))))))))))))))))))))))))))))))))))))))))))))))
theorem EN:type_of% XM.down:=XM.down
end Go.Proofs.YtipmihbgjolaaaaGreat.gen
