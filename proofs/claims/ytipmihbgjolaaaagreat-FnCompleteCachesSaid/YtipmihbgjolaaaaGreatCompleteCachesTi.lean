/-
  Helper text. No conditions.
-/
import Derived.Test.YtipmihbgjolaaaaGreatCompleteCachesMod
import Derived.Test.YtipmihbgjolaaaaGreatProg
import Derived.KernelRfl
set_option linter.unusedVariables false
set_option linter.unusedSimpArgs false
namespace Go.Proofs.YtipmihbgjolaaaaGreat.gen
open Go Go.Sh
theorem mixed:Tryz.prog.follows .mixedOrders=true:=by kernel_rfl
theorem ti3:fN Tryz.prog 3=some { k:=.int .i64,size:=1,bytes:=8,zero:=[.dat (.int .i64 0)] }:=by kernel_rfl
theorem ti4:fN Tryz.prog 4=some { k:=.bool,size:=1,bytes:=1,zero:=[.dat (.bool false)] }:=by kernel_rfl
theorem ti5:fN Tryz.prog 5=some { k:=.int .u8,size:=1,bytes:=1,zero:=[.dat (.int .u8 0)] }:=by kernel_rfl
theorem ti9:fN Tryz.prog 9=some { k:=.str,size:=1,bytes:=16,zero:=[.dat (.str ⟨#[]⟩)] }:=by kernel_rfl
theorem aAV:fN Tryz.prog 22=some { k:=.slice 5,size:=1,bytes:=24,zero:=[.nil],sl:=[some (5,1)] }:=by kernel_rfl
theorem aF0:fN Tryz.prog 24=some { k:=.slice 49,size:=1,bytes:=24,zero:=[.nil],sl:=[some (49,24)] }:=by kernel_rfl
theorem aBO:fN Tryz.prog 26=some { k:=.struct [(0,1,false)],size:=1,bytes:=24,zero:=[.nil],sl:=[some (49,24)] }:=by kernel_rfl
theorem aGI:fN Tryz.prog 28=some { k:=.struct [(0,1,false),(1,1,false),(2,1,false),(3,1,false)],size:=4,bytes:=40,zero:=[.dat (.str ⟨#[]⟩),.dat (.int .i64 0),.dat (.int .i64 0),.dat (.int .i64 0)],cmp:=[.str,.int,.int,.int] }:=by kernel_rfl
theorem N1:fN Tryz.prog 29=some { k:=.slice 193,size:=1,bytes:=24,zero:=[.nil],sl:=[some (193,2)] }:=by kernel_rfl
theorem Bs:fN Tryz.prog 31=some { k:=.struct [(0,1,false)],size:=1,bytes:=24,zero:=[.nil],sl:=[some (193,2)] }:=by kernel_rfl
theorem Y2:fN Tryz.prog 32=some { k:=.slice 40,size:=1,bytes:=24,zero:=[.nil],sl:=[some (40,3)] }:=by kernel_rfl
theorem Z4:fN Tryz.prog 33=some { k:=.slice 282,size:=1,bytes:=24,zero:=[.nil],sl:=[some (282,2)] }:=by kernel_rfl
theorem Un:fN Tryz.prog 35=some { k:=.struct [(0,1,false),(1,1,false),(2,1,false),(3,1,false)],size:=4,bytes:=72,zero:=[.dat (.str ⟨#[]⟩),.dat (.int .i64 0),.nil,.nil],sl:=[none,none,some (40,3),some (282,2)] }:=by kernel_rfl
theorem aF1:fN Tryz.prog 37=some { k:=.struct [(0,4,true),(4,1,false),(5,1,false)],size:=6,bytes:=104,zero:=[.dat (.str ⟨#[]⟩),.dat (.int .i64 0),.nil,.nil,.nil,.dat (.int .i64 0)],sl:=[none,none,some (40,3),some (282,2),some (5,1),none] }:=by kernel_rfl
theorem aGd:fN Tryz.prog 38=some { k:=.slice 284,size:=1,bytes:=24,zero:=[.nil],sl:=[some (284,4)] }:=by kernel_rfl
theorem YY:fN Tryz.prog 40=some { k:=.struct [(0,1,false),(1,1,false),(2,1,false)],size:=3,bytes:=48,zero:=[.dat (.str ⟨#[]⟩),.nil,.dat (.int .i64 0)],sl:=[none,some (284,4),none] }:=by kernel_rfl
theorem aGX:fN Tryz.prog 41=some { k:=.slice 211,size:=1,bytes:=24,zero:=[.nil],sl:=[some (211,7)] }:=by kernel_rfl
theorem aGT:fN Tryz.prog 43=some { k:=.struct [(0,1,false),(1,1,false),(2,1,false)],size:=3,bytes:=40,zero:=[.dat (.int .i64 0),.dat (.int .i64 0),.nil],sl:=[none,none,some (211,7)] }:=by kernel_rfl
theorem aGB:fN Tryz.prog 45=some { k:=.struct [(0,3,true),(3,1,false),(4,1,false)],size:=5,bytes:=56,zero:=[.dat (.int .i64 0),.dat (.int .i64 0),.nil,.dat (.int .i64 0),.dat (.int .i64 0)],sl:=[none,none,some (211,7),none,none] }:=by kernel_rfl
theorem Zt:fN Tryz.prog 47=some { k:=.struct [(0,3,true),(3,1,false),(4,5,true)],size:=9,bytes:=112,zero:=[.dat (.str ⟨#[]⟩),.nil,.dat (.int .i64 0),.dat (.int .i64 0),.dat (.int .i64 0),.dat (.int .i64 0),.nil,.dat (.int .i64 0),.dat (.int .i64 0)],sl:=[none,some (284,4),none,none,none,none,some (211,7),none,none] }:=by kernel_rfl
theorem Hc:fN Tryz.prog 49=some { k:=.struct [(0,1,false),(1,1,false),(2,4,true),(6,1,true),(7,6,true),(13,9,true),(22,1,false),(23,1,false)],size:=24,bytes:=328,zero:=[.dat (.str ⟨#[]⟩),.dat (.str ⟨#[]⟩),.dat (.str ⟨#[]⟩),.dat (.int .i64 0),.dat (.int .i64 0),.dat (.int .i64 0),.nil,.dat (.str ⟨#[]⟩),.dat (.int .i64 0),.nil,.nil,.nil,.dat (.int .i64 0),.dat (.str ⟨#[]⟩),.nil,.dat (.int .i64 0),.dat (.int .i64 0),.dat (.int .i64 0),.dat (.int .i64 0),.nil,.dat (.int .i64 0),.dat (.int .i64 0),.dat (.int .i64 0),.dat (.bool false)],sl:=[none,none,none,none,none,none,some (193,2),none,none,some (40,3),some (282,2),some (5,1),none,none,some (284,4),none,none,none,none,some (211,7),none,none,none,none] }:=by kernel_rfl
theorem Xr:fN Tryz.prog 57=some { k:=.slice 96,size:=1,bytes:=24,zero:=[.nil],sl:=[some (96,11)] }:=by kernel_rfl
theorem aAQ:fN Tryz.prog 60=some { k:=.slice 9,size:=1,bytes:=24,zero:=[.nil],sl:=[some (9,1)] }:=by kernel_rfl
theorem aF5:fN Tryz.prog 66=some { k:=.slice 154,size:=1,bytes:=24,zero:=[.nil],sl:=[some (154,4)] }:=by kernel_rfl
theorem aGC:fN Tryz.prog 68=some { k:=.struct [(0,1,false)],size:=1,bytes:=24,zero:=[.nil],sl:=[some (154,4)] }:=by kernel_rfl
theorem aF7:fN Tryz.prog 69=some { k:=.slice 157,size:=1,bytes:=24,zero:=[.nil],sl:=[some (157,3)] }:=by kernel_rfl
theorem aGQ:fN Tryz.prog 71=some { k:=.struct [(0,1,false)],size:=1,bytes:=24,zero:=[.nil],sl:=[some (157,3)] }:=by kernel_rfl
theorem aAc:fN Tryz.prog 72=some { k:=.slice 85,size:=1,bytes:=24,zero:=[.nil],sl:=[some (85,4)] }:=by kernel_rfl
theorem aAe:fN Tryz.prog 73=some { k:=.slice 137,size:=1,bytes:=24,zero:=[.nil],sl:=[some (137,5)] }:=by kernel_rfl
theorem C0:fN Tryz.prog 75=some { k:=.struct [(0,1,false),(1,1,false),(2,1,false),(3,1,true),(4,1,false),(5,1,false),(6,1,true),(7,1,true),(8,1,false),(9,1,false)],size:=10,bytes:=176,zero:=[.dat (.int .i64 0),.dat (.bool false),.dat (.int .i64 0),.nil,.nil,.dat (.int .i64 0),.nil,.nil,.nil,.nil],sl:=[none,none,none,some (49,24),some (96,11),none,some (154,4),some (157,3),some (85,4),some (137,5)] }:=by kernel_rfl
theorem aAv:fN Tryz.prog 85=some { k:=.struct [(0,1,false),(1,1,false),(2,1,false),(3,1,false)],size:=4,bytes:=56,zero:=[.dat (.str ⟨#[]⟩),.dat (.int .i64 0),.nil,.dat (.bool false)],sl:=[none,none,some (9,1),none] }:=by kernel_rfl
theorem aGG:fN Tryz.prog 90=some { k:=.slice 98,size:=1,bytes:=24,zero:=[.nil],sl:=[some (98,2)] }:=by kernel_rfl
theorem aFn:fN Tryz.prog 91=some { k:=.slice 216,size:=1,bytes:=24,zero:=[.nil],sl:=[some (216,4)] }:=by kernel_rfl
theorem Zw:fN Tryz.prog 92=some { k:=.slice 3,size:=1,bytes:=24,zero:=[.nil],sl:=[some (3,1)] }:=by kernel_rfl
theorem aGE:fN Tryz.prog 94=some { k:=.struct [(0,1,false),(1,1,false),(2,1,false),(3,1,false),(4,1,false),(5,1,false)],size:=6,bytes:=72,zero:=[.nil,.dat (.int .i64 0),.nil,.dat (.int .i64 0),.dat (.bool false),.dat (.bool false)],sl:=[some (216,4),none,some (3,1),none,none,none] }:=by kernel_rfl
theorem Xx:fN Tryz.prog 96=some { k:=.struct [(0,1,false),(1,1,false),(2,1,false),(3,1,false),(4,1,false),(5,6,true)],size:=11,bytes:=144,zero:=[.dat (.int .i64 0),.dat (.str ⟨#[]⟩),.dat (.str ⟨#[]⟩),.dat (.int .i64 0),.nil,.nil,.dat (.int .i64 0),.nil,.dat (.int .i64 0),.dat (.bool false),.dat (.bool false)],sl:=[none,none,none,none,some (98,2),some (216,4),none,some (3,1),none,none,none] }:=by kernel_rfl
theorem aGP:fN Tryz.prog 98=some { k:=.struct [(0,1,false),(1,1,false)],size:=2,bytes:=24,zero:=[.dat (.str ⟨#[]⟩),.dat (.int .i64 0)],cmp:=[.str,.int] }:=by kernel_rfl
theorem YJ:fN Tryz.prog 105=some { k:=.struct [(0,1,false),(1,1,false),(2,1,false),(3,1,false),(4,1,false)],size:=5,bytes:=56,zero:=[.dat (.int .i64 0),.dat (.int .i64 0),.dat (.int .i64 0),.nil,.dat (.bool false)],sl:=[none,none,none,some (5,1),none] }:=by kernel_rfl
theorem aA2:fN Tryz.prog 135=some { k:=.slice 207,size:=1,bytes:=24,zero:=[.nil],sl:=[some (207,2)] }:=by kernel_rfl
theorem YZ:fN Tryz.prog 137=some { k:=.struct [(0,3,true),(3,1,false),(4,1,false)],size:=5,bytes:=96,zero:=[.dat (.str ⟨#[]⟩),.nil,.dat (.int .i64 0),.nil,.nil],sl:=[none,some (284,4),none,some (207,2),some (211,7)] }:=by kernel_rfl
theorem aAl:fN Tryz.prog 154=some { k:=.struct [(0,1,false),(1,1,false),(2,1,false),(3,1,false)],size:=4,bytes:=32,zero:=[.dat (.str ⟨#[]⟩),.dat (.int .i64 0),.dat (.bool false),.dat (.bool false)],cmp:=[.str,.int,.bool,.bool] }:=by kernel_rfl
theorem aAf:fN Tryz.prog 157=some { k:=.struct [(0,1,false),(1,1,false),(2,1,false)],size:=3,bytes:=24,zero:=[.dat (.int .i64 0),.dat (.int .i64 0),.dat (.int .i64 0)],cmp:=[.int,.int,.int] }:=by kernel_rfl
theorem aBM:fN Tryz.prog 182=some { k:=.struct [(0,1,false),(1,1,false),(2,1,false)],size:=3,bytes:=40,zero:=[.nil,.dat (.int .i64 0),.dat (.int .i64 0)],sl:=[some (5,1),none,none] }:=by kernel_rfl
theorem Ot:fN Tryz.prog 191=some { k:=.slice 195,size:=1,bytes:=24,zero:=[.nil],sl:=[some (195,7)] }:=by kernel_rfl
theorem DV:fN Tryz.prog 193=some { k:=.struct [(0,1,false),(1,1,false)],size:=2,bytes:=32,zero:=[.dat (.int .i64 0),.nil],sl:=[none,some (195,7)] }:=by kernel_rfl
theorem L1:fN Tryz.prog 195=some { k:=.struct [(0,1,false),(1,1,false),(2,5,true)],size:=7,bytes:=88,zero:=[.dat (.str ⟨#[]⟩),.dat (.str ⟨#[]⟩),.dat (.int .i64 0),.dat (.int .i64 0),.dat (.int .i64 0),.nil,.dat (.bool false)],sl:=[none,none,none,none,none,some (5,1),none] }:=by kernel_rfl
theorem aA4:fN Tryz.prog 207=some { k:=.struct [(0,1,false),(1,1,false)],size:=2,bytes:=16,zero:=[.dat (.int .i64 0),.dat (.int .i64 0)],cmp:=[.int,.int] }:=by kernel_rfl
theorem aAx:fN Tryz.prog 209=some { k:=.struct [(0,1,false),(1,1,false),(2,1,false)],size:=3,bytes:=32,zero:=[.dat (.int .i64 0),.dat (.int .i64 0),.dat (.str ⟨#[]⟩)],cmp:=[.int,.int,.str] }:=by kernel_rfl
theorem aBJ:fN Tryz.prog 211=some { k:=.struct [(0,1,false),(1,1,false),(2,3,true),(5,1,false),(6,1,false)],size:=7,bytes:=72,zero:=[.dat (.int .i64 0),.dat (.int .i64 0),.dat (.int .i64 0),.dat (.int .i64 0),.dat (.str ⟨#[]⟩),.dat (.str ⟨#[]⟩),.dat (.int .i64 0)],cmp:=[.int,.int,.int,.int,.str,.str,.int] }:=by kernel_rfl
theorem aBF:fN Tryz.prog 216=some { k:=.struct [(0,1,false),(1,1,false),(2,1,false),(3,1,false)],size:=4,bytes:=40,zero:=[.dat (.int .i64 0),.dat (.int .i64 0),.dat (.int .i64 0),.dat (.str ⟨#[]⟩)],cmp:=[.int,.int,.int,.str] }:=by kernel_rfl
theorem aBV:fN Tryz.prog 252=some { k:=.slice 356,size:=1,bytes:=24,zero:=[.nil],sl:=[some (356,2)] }:=by kernel_rfl
theorem aBS:fN Tryz.prog 254=some { k:=.struct [(0,1,false)],size:=1,bytes:=24,zero:=[.nil],sl:=[some (356,2)] }:=by kernel_rfl
theorem aAg:fN Tryz.prog 257=some { k:=.struct [(0,1,false),(1,1,false),(2,3,true),(5,1,true),(6,1,false)],size:=7,bytes:=96,zero:=[.dat (.int .i64 0),.dat (.str ⟨#[]⟩),.dat (.int .i64 0),.dat (.int .i64 0),.dat (.str ⟨#[]⟩),.nil,.dat (.str ⟨#[]⟩)],sl:=[none,none,none,none,none,some (356,2),none] }:=by kernel_rfl
theorem aAo:fN Tryz.prog 258=some { k:=.slice 257,size:=1,bytes:=24,zero:=[.nil],sl:=[some (257,7)] }:=by kernel_rfl
theorem TO:fN Tryz.prog 282=some { k:=.struct [(0,1,false),(1,1,false)],size:=2,bytes:=32,zero:=[.dat (.str ⟨#[]⟩),.dat (.str ⟨#[]⟩)],cmp:=[.str,.str] }:=by kernel_rfl
theorem aA7:fN Tryz.prog 284=some { k:=.struct [(0,3,true),(3,1,true)],size:=4,bytes:=56,zero:=[.dat (.int .i64 0),.dat (.int .i64 0),.dat (.str ⟨#[]⟩),.nil],sl:=[none,none,none,some (356,2)] }:=by kernel_rfl
theorem aAu:fN Tryz.prog 356=some { k:=.struct [(0,1,false),(1,1,false)],size:=2,bytes:=24,zero:=[.dat (.str ⟨#[]⟩),.dat (.int .i64 0)],cmp:=[.str,.int] }:=by kernel_rfl
theorem aAy:fN Tryz.prog 365=some { k:=.slice 22,size:=1,bytes:=24,zero:=[.nil],sl:=[some (22,1)] }:=by kernel_rfl
theorem aBW:fN Tryz.prog 380=some { k:=.struct [(0,1,false),(1,1,false),(2,1,false)],size:=3,bytes:=40,zero:=[.dat (.int .i64 0),.dat (.str ⟨#[]⟩),.dat (.str ⟨#[]⟩)],cmp:=[.int,.str,.str] }:=by kernel_rfl
theorem aBg:fN Tryz.prog 426=some { k:=.struct [(0,1,false),(1,1,false),(2,3,true),(5,3,true)],size:=8,bytes:=72,zero:=[.dat (.bool false),.dat (.bool false),.dat (.int .i64 0),.dat (.int .i64 0),.dat (.str ⟨#[]⟩),.dat (.int .i64 0),.dat (.int .i64 0),.dat (.str ⟨#[]⟩)],cmp:=[.bool,.bool,.int,.int,.str,.int,.int,.str] }:=by kernel_rfl
abbrev Sc:=kR Tryz.prog
def M.aG.rs (r:M.aG):List RC:=[.ro (.str r.aGl),.ro (.str r.Top),.ro (.str r.aGf.aGl),.ro (.int .i64 r.aGf.aG6),.ro (.int .i64 r.aGf.aHC),.ro (.int .i64 r.aGf.aHF),.own 193 2 (List.map M.aGo.en r.aGi.aGi),.ro (.str r.bW.aG4.Name),.ro (.int .i64 r.bW.aG4.aGg),.own 40 3 (List.map M.aD.en r.bW.aG4.aGq),.own 282 2 (List.map M.aO.en r.bW.aG4.aG3),.own 5 1 (List.map enB r.bW.Log),.ro (.int .i64 r.bW.aHM),.ro (.str r.aH.aG4.Name),.own 284 4 (List.map M.aG1.en r.aH.aG4.aGk),.ro (.int .i64 r.aH.aG4.aHD),.ro (.int .i64 r.aH.aHS),.ro (.int .i64 r.aH.aG5.aM.aGp),.ro (.int .i64 r.aH.aG5.aM.aHH),.own 211 7 (List.map M.bC.en r.aH.aG5.aM.aG0),.ro (.int .i64 r.aH.aG5.aHL),.ro (.int .i64 r.aH.aG5.aHB),.ro (.int .i64 r.aHI),.ro (.bool r.aHE)]
def M.aGo.rs (r:M.aGo):List RC:=[.ro (.int .i64 r.aGg),.own 195 7 (List.map M.aGw.en r.aGs)]
def M.aC.rs (r:M.aC):List RC:=[.own 193 2 (List.map M.aGo.en r.aGi)]
def M.aGt.rs (r:M.aGt):List RC:=[.own 157 3 (List.map M.Bk.en r.aHN)]
def M.aGh.rs (r:M.aGh):List RC:=[.ro (.str r.Name),.ro (.int .i64 r.aGg),.own 40 3 (List.map M.aD.en r.aGq),.own 282 2 (List.map M.aO.en r.aG3)]
def M.bW.rs (r:M.bW):List RC:=[.ro (.str r.aG4.Name),.ro (.int .i64 r.aG4.aGg),.own 40 3 (List.map M.aD.en r.aG4.aGq),.own 282 2 (List.map M.aO.en r.aG4.aG3),.own 5 1 (List.map enB r.Log),.ro (.int .i64 r.aHM)]
def M.Instr.rs (r:M.Instr):List RC:=[.ro (.int .i64 r.aG7),.ro (.int .i64 r.R),.ro (.int .i64 r.N),.ro (.str r.aHG)]
def M.aG1.rs (r:M.aG1):List RC:=[.ro (.int .i64 r.Key.aG7),.ro (.int .i64 r.Key.N),.ro (.str r.Key.aHG),.own 356 2 (List.map M.Field.en r.aE.aGn)]
def M.Key.rs (r:M.Key):List RC:=[.ro (.int .i64 r.aG7),.ro (.int .i64 r.N),.ro (.str r.aHG)]
def M.aR.rs (r:M.aR):List RC:=[.own 154 4 (List.map M.nW.en r.aGy)]
def M.aGu.rs (r:M.aGu):List RC:=[.own 216 4 (List.map M.Instr.en r.aHP),.ro (.int .i64 r.Pc),.own 3 1 (List.map enI r.aHY),.ro (.int .i64 r.aHV),.ro (.bool r.aHd),.ro (.bool r.aHf)]
def M.Op.rs (r:M.Op):List RC:=[.ro (.int .i64 r.aG7),.ro (.str r.aD),.ro (.int .i64 r.Key.aG7),.ro (.int .i64 r.Key.N),.ro (.str r.Key.aHG),.own 356 2 (List.map M.Field.en r.aE.aGn),.ro (.str r.Field)]
def M.aM.rs (r:M.aM):List RC:=[.ro (.int .i64 r.aGp),.ro (.int .i64 r.aHH),.own 211 7 (List.map M.bC.en r.aG0)]
def M.bJ.rs (r:M.bJ):List RC:=[.ro (.int .i64 r.Id),.ro (.str r.aGl),.ro (.str r.Top),.ro (.int .i64 r.aGg),.own 98 2 (List.map M.aW.en r.aW),.own 216 4 (List.map M.Instr.en r.aGu.aHP),.ro (.int .i64 r.aGu.Pc),.own 3 1 (List.map enI r.aGu.aHY),.ro (.int .i64 r.aGu.aHV),.ro (.bool r.aGu.aHd),.ro (.bool r.aGu.aHf)]
def M.aE.rs (r:M.aE):List RC:=[.own 356 2 (List.map M.Field.en r.aGn)]
def M.aGf.rs (r:M.aGf):List RC:=[.ro (.str r.aGl),.ro (.int .i64 r.aG6),.ro (.int .i64 r.aHC),.ro (.int .i64 r.aHF)]
def M.aH.rs (r:M.aH):List RC:=[.ro (.str r.aG4.Name),.own 284 4 (List.map M.aG1.en r.aG4.aGk),.ro (.int .i64 r.aG4.aHD),.ro (.int .i64 r.aHS),.ro (.int .i64 r.aG5.aM.aGp),.ro (.int .i64 r.aG5.aM.aHH),.own 211 7 (List.map M.bC.en r.aG5.aM.aG0),.ro (.int .i64 r.aG5.aHL),.ro (.int .i64 r.aG5.aHB)]
def M.aGm.rs (r:M.aGm):List RC:=[.ro (.int .i64 r.aHX),.ro (.int .i64 r.aHO),.ro (.int .i64 r.aGg),.own 5 1 (List.map enB r.aHT),.ro (.bool r.aHb)]
def M.aGr.rs (r:M.aGr):List RC:=[.ro (.str r.aD.Name),.own 284 4 (List.map M.aG1.en r.aD.aGk),.ro (.int .i64 r.aD.aHD),.own 207 2 (List.map M.aP.en r.aP),.own 211 7 (List.map M.bC.en r.aG9)]
def M.aGl.rs (r:M.aGl):List RC:=[.ro (.str r.Name),.ro (.int .i64 r.aGg),.own 9 1 (List.map enS r.aG8),.ro (.bool r.aHJ)]
def M.aA.rs (r:M.aA):List RC:=[.own 49 24 (List.map M.aG.en r.aGj)]
def M.aD.rs (r:M.aD):List RC:=[.ro (.str r.Name),.own 284 4 (List.map M.aG1.en r.aGk),.ro (.int .i64 r.aHD)]
def M.aG5.rs (r:M.aG5):List RC:=[.ro (.int .i64 r.aM.aGp),.ro (.int .i64 r.aM.aHH),.own 211 7 (List.map M.bC.en r.aM.aG0),.ro (.int .i64 r.aHL),.ro (.int .i64 r.aHB)]
def M.World.rs (r:M.World):List RC:=[.ro (.int .i64 r.Now),.ro (.bool r.aHA),.ro (.int .i64 r.aGp),.own 49 24 (List.map M.aG.en r.aA.aGj),.own 96 11 (List.map M.bJ.en r.aGx),.ro (.int .i64 r.aGv),.own 154 4 (List.map M.nW.en r.aGy.aGy),.own 157 3 (List.map M.Bk.en r.aGt.aHN),.own 85 4 (List.map M.aGl.en r.aG2),.own 137 5 (List.map M.aGr.en r.aGz)]
def M.bC.rs (r:M.bC):List RC:=[.ro (.int .i64 r.aGp),.ro (.int .i64 r.Seq),.ro (.int .i64 r.Key.aG7),.ro (.int .i64 r.Key.N),.ro (.str r.Key.aHG),.ro (.str r.Field),.ro (.int .i64 r.N)]
def LF:CT:=oB 35 [cS (⟨#[]⟩:ByteArray),cI 0,.nil,.nil]
def aEA:CT:=oB 37 [cS (⟨#[]⟩:ByteArray),cI 0,.nil,.nil,.nil,cI 0]
def aFq:CT:=oB 45 [cI 0,cI 0,.nil,cI 0,cI 0]
def aBw:CT:=oB 47 [cS (⟨#[]⟩:ByteArray),.nil,cI 0,cI 0,cI 0,cI 0,.nil,cI 0,cI 0]
def Pz:CT:=oB 49 [cS (⟨#[]⟩:ByteArray),cS (⟨#[]⟩:ByteArray),cS (⟨#[]⟩:ByteArray),cI 0,cI 0,cI 0,.nil,cS (⟨#[]⟩:ByteArray),cI 0,.nil,.nil,.nil,cI 0,cS (⟨#[]⟩:ByteArray),.nil,cI 0,cI 0,cI 0,cI 0,.nil,cI 0,cI 0,cI 0,cB false]
def Qh:CT:=oB 75 [cI 0,cB false,cI 0,.nil,.nil,cI 0,.nil,.nil,.nil,.nil]
def aFx:CT:=oB 85 [cS (⟨#[]⟩:ByteArray),cI 0,.nil,cB false]
def aFv:CT:=oB 94 [.nil,cI 0,.nil,cI 0,cB false,cB false]
def WB:CT:=oB 96 [cI 0,cS (⟨#[]⟩:ByteArray),cS (⟨#[]⟩:ByteArray),cI 0,.nil,.nil,cI 0,.nil,cI 0,cB false,cB false]
def aAn:CT:=oB 105 [cI 0,cI 0,cI 0,.nil,cB false]
def VW:CT:=oB 137 [cS (⟨#[]⟩:ByteArray),.nil,cI 0,.nil,.nil]
def aBG:CT:=oB 211 [cI 0,cI 0,cI 0,cI 0,cS (⟨#[]⟩:ByteArray),cS (⟨#[]⟩:ByteArray),cI 0]
def aAr:CT:=oB 216 [cI 0,cI 0,cI 0,cS (⟨#[]⟩:ByteArray)]
def aBZ:CT:=oB 257 [cI 0,cS (⟨#[]⟩:ByteArray),cI 0,cI 0,cS (⟨#[]⟩:ByteArray),.nil,cS (⟨#[]⟩:ByteArray)]
def aFM:=PLift.up (qI ti3 (qI ti4 (qI ti5 (qI ti9 (qI aAV (qI aF0 (qI aBO (qI aGI (qI N1 (qI Bs (qI Y2 (qI Z4 (qI Un (qI aF1 (qI aGd (qI YY (qI aGX (qI aGT (qI aGB (qI Zt (qI Hc (qI Xr (qI aAQ (qI aF5 (qI aGC (qI aF7 (qI aGQ (qI aAc (qI aAe (qI C0 (qI aAv (qI aGG (qI aFn (qI Zw (qI aGE (qI Xx (qI aGP (qI YJ (qI aA2 (qI YZ (qI aAl (qI aAf (qI aBM (qI Ot (qI DV (qI L1 (qI aA4 (qI aAx (qI aBJ (qI aBF (qI aBV (qI aBS (qI aAg (qI aAo (qI TO (qI aA7 (qI aAu (qI aAy (qI aBW aBg)))))))))))))))))))))))))))))))))))))))))))))))))))))))))))
theorem TB:type_of% aFM.down:=aFM.down
def aDq:=PLift.up (qI @enI.eq_1 (qI @enB.eq_1 (qI @enS.eq_1 (qI @enT.eq_1 (qI @enL.eq_1 (qI @enI.fl (qI @enB.fl (qI @enS.fl (qI @enT.fl (qI @Vl (qI @VN (qI @TR (qI @aI.eq_1 (qI @aB.eq_1 (qI @aS.eq_1 (qI @aL.eq_1 (qI @aX.eq_1 (qI @cI.eq_1 (qI @cB.eq_1 (qI @cS.eq_1 (qI @cL.eq_1 (qI @vI.eq_1 (qI @vB.eq_1 (qI @vS.eq_1 (qI @vL.eq_1 (qI @vR.eq_1 (qI @vP.eq_1 (qI @oX.eq_1 (qI @oB.eq_1 (qI @oW.eq_1 (qI @rI.eq_1 (qI @rB.eq_1 (qI @rS.eq_1 (qI @rW.eq_1 (qI @M.aG.rs.eq_1 (qI @M.aGo.rs.eq_1 (qI @M.aC.rs.eq_1 (qI @M.aGt.rs.eq_1 (qI @M.aGh.rs.eq_1 (qI @M.bW.rs.eq_1 (qI @M.Instr.rs.eq_1 (qI @M.aG1.rs.eq_1 (qI @M.Key.rs.eq_1 (qI @M.aR.rs.eq_1 (qI @M.aGu.rs.eq_1 (qI @M.Op.rs.eq_1 (qI @M.aM.rs.eq_1 (qI @M.bJ.rs.eq_1 (qI @M.aE.rs.eq_1 (qI @M.aGf.rs.eq_1 (qI @M.aH.rs.eq_1 (qI @M.aGm.rs.eq_1 (qI @M.aGr.rs.eq_1 (qI @M.aGl.rs.eq_1 (qI @M.aA.rs.eq_1 (qI @M.aD.rs.eq_1 (qI @M.aG5.rs.eq_1 (qI @M.World.rs.eq_1 (qI @M.bC.rs.eq_1 (qI @LF.eq_1 (qI @aEA.eq_1 (qI @aFq.eq_1 (qI @aBw.eq_1 (qI @Pz.eq_1 (qI @Qh.eq_1 (qI @aFx.eq_1 (qI @aFv.eq_1 (qI @WB.eq_1 (qI @aAn.eq_1 (qI @VW.eq_1 (qI @aBG.eq_1 (qI @aAr.eq_1 (qI @aBZ.eq_1 (qI @M.aN.en.eq_1 (qI @M.aGl.en.eq_1 (qI @M.aGm.en.eq_1 (qI @M.aGw.en.eq_1 (qI @M.aGo.en.eq_1 (qI @M.aC.en.eq_1 (qI @M.aGf.en.eq_1 (qI @M.aGf.en.fl (qI @M.Key.en.eq_1 (qI @M.Key.en.fl (qI @M.Field.en.eq_1 (qI @M.Field.en.fl (qI @M.aE.en.eq_1 (qI @M.aG1.en.eq_1 (qI @M.aD.en.eq_1 (qI @M.aO.en.eq_1 (qI @M.aO.en.fl (qI @M.aGh.en.eq_1 (qI @M.bW.en.eq_1 (qI @M.bC.en.eq_1 (qI @M.bC.en.fl (qI @M.aM.en.eq_1 (qI @M.aG5.en.eq_1 (qI @M.aH.en.eq_1 (qI @M.aG.en.eq_1 (qI @M.aA.en.eq_1 (qI @M.aW.en.eq_1 (qI @M.aW.en.fl (qI @M.Instr.en.eq_1 (qI @M.Instr.en.fl (qI @M.aGu.en.eq_1 (qI @M.bJ.en.eq_1 (qI @M.nW.en.eq_1 (qI @M.nW.en.fl (qI @M.aR.en.eq_1 (qI @M.Bk.en.eq_1 (qI @M.Bk.en.fl (qI @M.aGt.en.eq_1 (qI @M.aP.en.eq_1 (qI @M.aP.en.fl (qI @M.aGr.en.eq_1 (qI @M.World.en.eq_1 (qI @M.Op.en.eq_1 (qI @M.gK.en.eq_1 (qI @M.gK.en.fl (qI @M.lD.en.eq_1 @M.lD.en.fl)))))))))))))))))))))))))))))))))))))))))))))))))))))))))))))))))))))))))))))))))))))))))))))))))))))))))))))))))))))))
theorem EN:type_of% aDq.down:=aDq.down
end Go.Proofs.YtipmihbgjolaaaaGreat.gen
