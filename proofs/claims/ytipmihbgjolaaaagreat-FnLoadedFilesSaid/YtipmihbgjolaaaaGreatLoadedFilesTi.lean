/-
  Helper text. No conditions.
-/
import Derived.Test.YtipmihbgjolaaaaGreatLoadedFilesMod
import Derived.Test.YtipmihbgjolaaaaGreatProg
import Derived.KernelRfl
set_option linter.unusedVariables false
set_option linter.unusedSimpArgs false
namespace Go.Proofs.YtipmihbgjolaaaaGreat.gen
open Go Go.Sh
theorem mixed:Tryz.prog.follows .mixedOrders=true:=by kernel_rfl
theorem ti3:fJ Tryz.prog 3=some { k:=.int .i64,size:=1,bytes:=8,zero:=[.dat (.int .i64 0)] }:=by kernel_rfl
theorem ti4:fJ Tryz.prog 4=some { k:=.bool,size:=1,bytes:=1,zero:=[.dat (.bool false)] }:=by kernel_rfl
theorem ti5:fJ Tryz.prog 5=some { k:=.int .u8,size:=1,bytes:=1,zero:=[.dat (.int .u8 0)] }:=by kernel_rfl
theorem ti9:fJ Tryz.prog 9=some { k:=.str,size:=1,bytes:=16,zero:=[.dat (.str ⟨#[]⟩)] }:=by kernel_rfl
theorem Y6:fJ Tryz.prog 22=some { k:=.slice 5,size:=1,bytes:=24,zero:=[.nil],sl:=[some (5,1)] }:=by kernel_rfl
theorem aEM:fJ Tryz.prog 24=some { k:=.slice 49,size:=1,bytes:=24,zero:=[.nil],sl:=[some (49,24)] }:=by kernel_rfl
theorem ZZ:fJ Tryz.prog 26=some { k:=.struct [(0,1,false)],size:=1,bytes:=24,zero:=[.nil],sl:=[some (49,24)] }:=by kernel_rfl
theorem aEf:fJ Tryz.prog 28=some { k:=.struct [(0,1,false),(1,1,false),(2,1,false),(3,1,false)],size:=4,bytes:=40,zero:=[.dat (.str ⟨#[]⟩),.dat (.int .i64 0),.dat (.int .i64 0),.dat (.int .i64 0)],cmp:=[.str,.int,.int,.int] }:=by kernel_rfl
theorem QA:fJ Tryz.prog 29=some { k:=.slice 193,size:=1,bytes:=24,zero:=[.nil],sl:=[some (193,2)] }:=by kernel_rfl
theorem Bt:fJ Tryz.prog 31=some { k:=.struct [(0,1,false)],size:=1,bytes:=24,zero:=[.nil],sl:=[some (193,2)] }:=by kernel_rfl
theorem Xz:fJ Tryz.prog 32=some { k:=.slice 40,size:=1,bytes:=24,zero:=[.nil],sl:=[some (40,3)] }:=by kernel_rfl
theorem YE:fJ Tryz.prog 33=some { k:=.slice 282,size:=1,bytes:=24,zero:=[.nil],sl:=[some (282,2)] }:=by kernel_rfl
theorem Tk:fJ Tryz.prog 35=some { k:=.struct [(0,1,false),(1,1,false),(2,1,false),(3,1,false)],size:=4,bytes:=72,zero:=[.dat (.str ⟨#[]⟩),.dat (.int .i64 0),.nil,.nil],sl:=[none,none,some (40,3),some (282,2)] }:=by kernel_rfl
theorem aEN:fJ Tryz.prog 37=some { k:=.struct [(0,4,true),(4,1,false),(5,1,false)],size:=6,bytes:=104,zero:=[.dat (.str ⟨#[]⟩),.dat (.int .i64 0),.nil,.nil,.nil,.dat (.int .i64 0)],sl:=[none,none,some (40,3),some (282,2),some (5,1),none] }:=by kernel_rfl
theorem aE1:fJ Tryz.prog 38=some { k:=.slice 284,size:=1,bytes:=24,zero:=[.nil],sl:=[some (284,4)] }:=by kernel_rfl
theorem Xv:fJ Tryz.prog 40=some { k:=.struct [(0,1,false),(1,1,false),(2,1,false)],size:=3,bytes:=48,zero:=[.dat (.str ⟨#[]⟩),.nil,.dat (.int .i64 0)],sl:=[none,some (284,4),none] }:=by kernel_rfl
theorem aEu:fJ Tryz.prog 41=some { k:=.slice 211,size:=1,bytes:=24,zero:=[.nil],sl:=[some (211,7)] }:=by kernel_rfl
theorem aEq:fJ Tryz.prog 43=some { k:=.struct [(0,1,false),(1,1,false),(2,1,false)],size:=3,bytes:=40,zero:=[.dat (.int .i64 0),.dat (.int .i64 0),.nil],sl:=[none,none,some (211,7)] }:=by kernel_rfl
theorem aEX:fJ Tryz.prog 45=some { k:=.struct [(0,3,true),(3,1,false),(4,1,false)],size:=5,bytes:=56,zero:=[.dat (.int .i64 0),.dat (.int .i64 0),.nil,.dat (.int .i64 0),.dat (.int .i64 0)],sl:=[none,none,some (211,7),none,none] }:=by kernel_rfl
theorem X8:fJ Tryz.prog 47=some { k:=.struct [(0,3,true),(3,1,false),(4,5,true)],size:=9,bytes:=112,zero:=[.dat (.str ⟨#[]⟩),.nil,.dat (.int .i64 0),.dat (.int .i64 0),.dat (.int .i64 0),.dat (.int .i64 0),.nil,.dat (.int .i64 0),.dat (.int .i64 0)],sl:=[none,some (284,4),none,none,none,none,some (211,7),none,none] }:=by kernel_rfl
theorem Ya:fJ Tryz.prog 49=some { k:=.struct [(0,1,false),(1,1,false),(2,4,true),(6,1,true),(7,6,true),(13,9,true),(22,1,false),(23,1,false)],size:=24,bytes:=328,zero:=[.dat (.str ⟨#[]⟩),.dat (.str ⟨#[]⟩),.dat (.str ⟨#[]⟩),.dat (.int .i64 0),.dat (.int .i64 0),.dat (.int .i64 0),.nil,.dat (.str ⟨#[]⟩),.dat (.int .i64 0),.nil,.nil,.nil,.dat (.int .i64 0),.dat (.str ⟨#[]⟩),.nil,.dat (.int .i64 0),.dat (.int .i64 0),.dat (.int .i64 0),.dat (.int .i64 0),.nil,.dat (.int .i64 0),.dat (.int .i64 0),.dat (.int .i64 0),.dat (.bool false)],sl:=[none,none,none,none,none,none,some (193,2),none,none,some (40,3),some (282,2),some (5,1),none,none,some (284,4),none,none,none,none,some (211,7),none,none,none,none] }:=by kernel_rfl
theorem Wa:fJ Tryz.prog 57=some { k:=.slice 96,size:=1,bytes:=24,zero:=[.nil],sl:=[some (96,11)] }:=by kernel_rfl
theorem Y1:fJ Tryz.prog 60=some { k:=.slice 9,size:=1,bytes:=24,zero:=[.nil],sl:=[some (9,1)] }:=by kernel_rfl
theorem aES:fJ Tryz.prog 66=some { k:=.slice 154,size:=1,bytes:=24,zero:=[.nil],sl:=[some (154,4)] }:=by kernel_rfl
theorem aEY:fJ Tryz.prog 68=some { k:=.struct [(0,1,false)],size:=1,bytes:=24,zero:=[.nil],sl:=[some (154,4)] }:=by kernel_rfl
theorem aEU:fJ Tryz.prog 69=some { k:=.slice 157,size:=1,bytes:=24,zero:=[.nil],sl:=[some (157,3)] }:=by kernel_rfl
theorem aEn:fJ Tryz.prog 71=some { k:=.struct [(0,1,false)],size:=1,bytes:=24,zero:=[.nil],sl:=[some (157,3)] }:=by kernel_rfl
theorem Zc:fJ Tryz.prog 72=some { k:=.slice 85,size:=1,bytes:=24,zero:=[.nil],sl:=[some (85,4)] }:=by kernel_rfl
theorem Zf:fJ Tryz.prog 73=some { k:=.slice 137,size:=1,bytes:=24,zero:=[.nil],sl:=[some (137,5)] }:=by kernel_rfl
theorem Ct:fJ Tryz.prog 75=some { k:=.struct [(0,1,false),(1,1,false),(2,1,false),(3,1,true),(4,1,false),(5,1,false),(6,1,true),(7,1,true),(8,1,false),(9,1,false)],size:=10,bytes:=176,zero:=[.dat (.int .i64 0),.dat (.bool false),.dat (.int .i64 0),.nil,.nil,.dat (.int .i64 0),.nil,.nil,.nil,.nil],sl:=[none,none,none,some (49,24),some (96,11),none,some (154,4),some (157,3),some (85,4),some (137,5)] }:=by kernel_rfl
theorem Zw:fJ Tryz.prog 85=some { k:=.struct [(0,1,false),(1,1,false),(2,1,false),(3,1,false)],size:=4,bytes:=56,zero:=[.dat (.str ⟨#[]⟩),.dat (.int .i64 0),.nil,.dat (.bool false)],sl:=[none,none,some (9,1),none] }:=by kernel_rfl
theorem aEc:fJ Tryz.prog 90=some { k:=.slice 98,size:=1,bytes:=24,zero:=[.nil],sl:=[some (98,2)] }:=by kernel_rfl
theorem aEA:fJ Tryz.prog 91=some { k:=.slice 216,size:=1,bytes:=24,zero:=[.nil],sl:=[some (216,4)] }:=by kernel_rfl
theorem Yb:fJ Tryz.prog 92=some { k:=.slice 3,size:=1,bytes:=24,zero:=[.nil],sl:=[some (3,1)] }:=by kernel_rfl
theorem aEa:fJ Tryz.prog 94=some { k:=.struct [(0,1,false),(1,1,false),(2,1,false),(3,1,false),(4,1,false),(5,1,false)],size:=6,bytes:=72,zero:=[.nil,.dat (.int .i64 0),.nil,.dat (.int .i64 0),.dat (.bool false),.dat (.bool false)],sl:=[some (216,4),none,some (3,1),none,none,none] }:=by kernel_rfl
theorem Wf:fJ Tryz.prog 96=some { k:=.struct [(0,1,false),(1,1,false),(2,1,false),(3,1,false),(4,1,false),(5,6,true)],size:=11,bytes:=144,zero:=[.dat (.int .i64 0),.dat (.str ⟨#[]⟩),.dat (.str ⟨#[]⟩),.dat (.int .i64 0),.nil,.nil,.dat (.int .i64 0),.nil,.dat (.int .i64 0),.dat (.bool false),.dat (.bool false)],sl:=[none,none,none,none,some (98,2),some (216,4),none,some (3,1),none,none,none] }:=by kernel_rfl
theorem aEm:fJ Tryz.prog 98=some { k:=.struct [(0,1,false),(1,1,false)],size:=2,bytes:=24,zero:=[.dat (.str ⟨#[]⟩),.dat (.int .i64 0)],cmp:=[.str,.int] }:=by kernel_rfl
theorem Xi:fJ Tryz.prog 105=some { k:=.struct [(0,1,false),(1,1,false),(2,1,false),(3,1,false),(4,1,false)],size:=5,bytes:=56,zero:=[.dat (.int .i64 0),.dat (.int .i64 0),.dat (.int .i64 0),.nil,.dat (.bool false)],sl:=[none,none,none,some (5,1),none] }:=by kernel_rfl
theorem ZE:fJ Tryz.prog 135=some { k:=.slice 207,size:=1,bytes:=24,zero:=[.nil],sl:=[some (207,2)] }:=by kernel_rfl
theorem Xw:fJ Tryz.prog 137=some { k:=.struct [(0,3,true),(3,1,false),(4,1,false)],size:=5,bytes:=96,zero:=[.dat (.str ⟨#[]⟩),.nil,.dat (.int .i64 0),.nil,.nil],sl:=[none,some (284,4),none,some (207,2),some (211,7)] }:=by kernel_rfl
theorem Zm:fJ Tryz.prog 154=some { k:=.struct [(0,1,false),(1,1,false),(2,1,false),(3,1,false)],size:=4,bytes:=32,zero:=[.dat (.str ⟨#[]⟩),.dat (.int .i64 0),.dat (.bool false),.dat (.bool false)],cmp:=[.str,.int,.bool,.bool] }:=by kernel_rfl
theorem Zg:fJ Tryz.prog 157=some { k:=.struct [(0,1,false),(1,1,false),(2,1,false)],size:=3,bytes:=24,zero:=[.dat (.int .i64 0),.dat (.int .i64 0),.dat (.int .i64 0)],cmp:=[.int,.int,.int] }:=by kernel_rfl
theorem ZX:fJ Tryz.prog 182=some { k:=.struct [(0,1,false),(1,1,false),(2,1,false)],size:=3,bytes:=40,zero:=[.nil,.dat (.int .i64 0),.dat (.int .i64 0)],sl:=[some (5,1),none,none] }:=by kernel_rfl
theorem Nz:fJ Tryz.prog 191=some { k:=.slice 195,size:=1,bytes:=24,zero:=[.nil],sl:=[some (195,7)] }:=by kernel_rfl
theorem Fv:fJ Tryz.prog 193=some { k:=.struct [(0,1,false),(1,1,false)],size:=2,bytes:=32,zero:=[.dat (.int .i64 0),.nil],sl:=[none,some (195,7)] }:=by kernel_rfl
theorem Lo:fJ Tryz.prog 195=some { k:=.struct [(0,1,false),(1,1,false),(2,5,true)],size:=7,bytes:=88,zero:=[.dat (.str ⟨#[]⟩),.dat (.str ⟨#[]⟩),.dat (.int .i64 0),.dat (.int .i64 0),.dat (.int .i64 0),.nil,.dat (.bool false)],sl:=[none,none,none,none,none,some (5,1),none] }:=by kernel_rfl
theorem ZF:fJ Tryz.prog 207=some { k:=.struct [(0,1,false),(1,1,false)],size:=2,bytes:=16,zero:=[.dat (.int .i64 0),.dat (.int .i64 0)],cmp:=[.int,.int] }:=by kernel_rfl
theorem Zy:fJ Tryz.prog 209=some { k:=.struct [(0,1,false),(1,1,false),(2,1,false)],size:=3,bytes:=32,zero:=[.dat (.int .i64 0),.dat (.int .i64 0),.dat (.str ⟨#[]⟩)],cmp:=[.int,.int,.str] }:=by kernel_rfl
theorem ZU:fJ Tryz.prog 211=some { k:=.struct [(0,1,false),(1,1,false),(2,3,true),(5,1,false),(6,1,false)],size:=7,bytes:=72,zero:=[.dat (.int .i64 0),.dat (.int .i64 0),.dat (.int .i64 0),.dat (.int .i64 0),.dat (.str ⟨#[]⟩),.dat (.str ⟨#[]⟩),.dat (.int .i64 0)],cmp:=[.int,.int,.int,.int,.str,.str,.int] }:=by kernel_rfl
theorem ZQ:fJ Tryz.prog 216=some { k:=.struct [(0,1,false),(1,1,false),(2,1,false),(3,1,false)],size:=4,bytes:=40,zero:=[.dat (.int .i64 0),.dat (.int .i64 0),.dat (.int .i64 0),.dat (.str ⟨#[]⟩)],cmp:=[.int,.int,.int,.str] }:=by kernel_rfl
theorem Z7:fJ Tryz.prog 252=some { k:=.slice 356,size:=1,bytes:=24,zero:=[.nil],sl:=[some (356,2)] }:=by kernel_rfl
theorem Z4:fJ Tryz.prog 254=some { k:=.struct [(0,1,false)],size:=1,bytes:=24,zero:=[.nil],sl:=[some (356,2)] }:=by kernel_rfl
theorem Zh:fJ Tryz.prog 257=some { k:=.struct [(0,1,false),(1,1,false),(2,3,true),(5,1,true),(6,1,false)],size:=7,bytes:=96,zero:=[.dat (.int .i64 0),.dat (.str ⟨#[]⟩),.dat (.int .i64 0),.dat (.int .i64 0),.dat (.str ⟨#[]⟩),.nil,.dat (.str ⟨#[]⟩)],sl:=[none,none,none,none,none,some (356,2),none] }:=by kernel_rfl
theorem Zp:fJ Tryz.prog 258=some { k:=.slice 257,size:=1,bytes:=24,zero:=[.nil],sl:=[some (257,7)] }:=by kernel_rfl
theorem SN:fJ Tryz.prog 282=some { k:=.struct [(0,1,false),(1,1,false)],size:=2,bytes:=32,zero:=[.dat (.str ⟨#[]⟩),.dat (.str ⟨#[]⟩)],cmp:=[.str,.str] }:=by kernel_rfl
theorem ZI:fJ Tryz.prog 284=some { k:=.struct [(0,3,true),(3,1,true)],size:=4,bytes:=56,zero:=[.dat (.int .i64 0),.dat (.int .i64 0),.dat (.str ⟨#[]⟩),.nil],sl:=[none,none,none,some (356,2)] }:=by kernel_rfl
theorem Zv:fJ Tryz.prog 356=some { k:=.struct [(0,1,false),(1,1,false)],size:=2,bytes:=24,zero:=[.dat (.str ⟨#[]⟩),.dat (.int .i64 0)],cmp:=[.str,.int] }:=by kernel_rfl
theorem Zz:fJ Tryz.prog 365=some { k:=.slice 22,size:=1,bytes:=24,zero:=[.nil],sl:=[some (22,1)] }:=by kernel_rfl
theorem Z8:fJ Tryz.prog 380=some { k:=.struct [(0,1,false),(1,1,false),(2,1,false)],size:=3,bytes:=40,zero:=[.dat (.int .i64 0),.dat (.str ⟨#[]⟩),.dat (.str ⟨#[]⟩)],cmp:=[.int,.str,.str] }:=by kernel_rfl
theorem aAI:fJ Tryz.prog 426=some { k:=.struct [(0,1,false),(1,1,false),(2,3,true),(5,3,true)],size:=8,bytes:=72,zero:=[.dat (.bool false),.dat (.bool false),.dat (.int .i64 0),.dat (.int .i64 0),.dat (.str ⟨#[]⟩),.dat (.int .i64 0),.dat (.int .i64 0),.dat (.str ⟨#[]⟩)],cmp:=[.bool,.bool,.int,.int,.str,.int,.int,.str] }:=by kernel_rfl
abbrev Sc:=lO Tryz.prog
def M.aJ.ra (r:M.aJ):List RC:=[.ro (.str r.aFD),.ro (.str r.Top),.ro (.str r.aE4.aFD),.ro (.int .i64 r.aE4.aFY),.ro (.int .i64 r.aE4.aFg),.ro (.int .i64 r.aE4.aFl),.any (.sl (List.map M.aFE.en r.aE6.aE6)),.ro (.str r.bV.aFT.Name),.ro (.int .i64 r.bV.aFT.aE3),.any (.sl (List.map M.aC.en r.bV.aFT.aFH)),.any (.sl (List.map M.aN.en r.bV.aFT.aFQ)),.any (.sl (List.map enB r.bV.Log)),.ro (.int .i64 r.bV.aFk),.ro (.str r.aG.aFT.Name),.any (.sl (List.map M.aFP.en r.aG.aFT.aE7)),.ro (.int .i64 r.aG.aFT.aFZ),.ro (.int .i64 r.aG.aFq),.ro (.int .i64 r.aG.aFS.aM.aFC),.ro (.int .i64 r.aG.aFS.aM.aFd),.any (.sl (List.map M.bD.en r.aG.aFS.aM.aFO)),.ro (.int .i64 r.aG.aFS.aFi),.ro (.int .i64 r.aG.aFS.aFX),.ro (.int .i64 r.aFf),.ro (.bool r.aFc)]
def M.aJ.rs (r:M.aJ):List RC:=[.ro (.str r.aFD),.ro (.str r.Top),.ro (.str r.aE4.aFD),.ro (.int .i64 r.aE4.aFY),.ro (.int .i64 r.aE4.aFg),.ro (.int .i64 r.aE4.aFl),.own 193 2 (List.map M.aFE.en r.aE6.aE6),.ro (.str r.bV.aFT.Name),.ro (.int .i64 r.bV.aFT.aE3),.own 40 3 (List.map M.aC.en r.bV.aFT.aFH),.own 282 2 (List.map M.aN.en r.bV.aFT.aFQ),.own 5 1 (List.map enB r.bV.Log),.ro (.int .i64 r.bV.aFk),.ro (.str r.aG.aFT.Name),.own 284 4 (List.map M.aFP.en r.aG.aFT.aE7),.ro (.int .i64 r.aG.aFT.aFZ),.ro (.int .i64 r.aG.aFq),.ro (.int .i64 r.aG.aFS.aM.aFC),.ro (.int .i64 r.aG.aFS.aM.aFd),.own 211 7 (List.map M.bD.en r.aG.aFS.aM.aFO),.ro (.int .i64 r.aG.aFS.aFi),.ro (.int .i64 r.aG.aFS.aFX),.ro (.int .i64 r.aFf),.ro (.bool r.aFc)]
def M.aFE.rs (r:M.aFE):List RC:=[.ro (.int .i64 r.aE3),.own 195 7 (List.map M.aFL.en r.aFK)]
def M.aE.rs (r:M.aE):List RC:=[.own 193 2 (List.map M.aFE.en r.aE6)]
def M.aFB.rs (r:M.aFB):List RC:=[.own 157 3 (List.map M.tB.en r.aFa)]
def M.aE5.rs (r:M.aE5):List RC:=[.ro (.str r.Name),.ro (.int .i64 r.aE3),.own 40 3 (List.map M.aC.en r.aFH),.own 282 2 (List.map M.aN.en r.aFQ)]
def M.bV.rs (r:M.bV):List RC:=[.ro (.str r.aFT.Name),.ro (.int .i64 r.aFT.aE3),.own 40 3 (List.map M.aC.en r.aFT.aFH),.own 282 2 (List.map M.aN.en r.aFT.aFQ),.own 5 1 (List.map enB r.Log),.ro (.int .i64 r.aFk)]
def M.Instr.rs (r:M.Instr):List RC:=[.ro (.int .i64 r.aFU),.ro (.int .i64 r.R),.ro (.int .i64 r.N),.ro (.str r.aFb)]
def M.aFP.rs (r:M.aFP):List RC:=[.ro (.int .i64 r.Key.aFU),.ro (.int .i64 r.Key.N),.ro (.str r.Key.aFb),.own 356 2 (List.map M.Field.en r.aD.aFA)]
def M.Key.rs (r:M.Key):List RC:=[.ro (.int .i64 r.aFU),.ro (.int .i64 r.N),.ro (.str r.aFb)]
def M.aR.rs (r:M.aR):List RC:=[.own 154 4 (List.map M.mZ.en r.aFM)]
def M.aFI.rs (r:M.aFI):List RC:=[.own 216 4 (List.map M.Instr.en r.aFn),.ro (.int .i64 r.Pc),.own 3 1 (List.map enI r.aFv),.ro (.int .i64 r.aFs),.ro (.bool r.aF1),.ro (.bool r.aF3)]
def M.Op.rs (r:M.Op):List RC:=[.ro (.int .i64 r.aFU),.ro (.str r.aC),.ro (.int .i64 r.Key.aFU),.ro (.int .i64 r.Key.N),.ro (.str r.Key.aFb),.own 356 2 (List.map M.Field.en r.aD.aFA),.ro (.str r.Field)]
def M.aM.rs (r:M.aM):List RC:=[.ro (.int .i64 r.aFC),.ro (.int .i64 r.aFd),.own 211 7 (List.map M.bD.en r.aFO)]
def M.bC.rs (r:M.bC):List RC:=[.ro (.int .i64 r.Id),.ro (.str r.aFD),.ro (.str r.Top),.ro (.int .i64 r.aE3),.own 98 2 (List.map M.aU.en r.aU),.own 216 4 (List.map M.Instr.en r.aFI.aFn),.ro (.int .i64 r.aFI.Pc),.own 3 1 (List.map enI r.aFI.aFv),.ro (.int .i64 r.aFI.aFs),.ro (.bool r.aFI.aF1),.ro (.bool r.aFI.aF3)]
def M.aD.rs (r:M.aD):List RC:=[.own 356 2 (List.map M.Field.en r.aFA)]
def M.aG.rs (r:M.aG):List RC:=[.ro (.str r.aFT.Name),.own 284 4 (List.map M.aFP.en r.aFT.aE7),.ro (.int .i64 r.aFT.aFZ),.ro (.int .i64 r.aFq),.ro (.int .i64 r.aFS.aM.aFC),.ro (.int .i64 r.aFS.aM.aFd),.own 211 7 (List.map M.bD.en r.aFS.aM.aFO),.ro (.int .i64 r.aFS.aFi),.ro (.int .i64 r.aFS.aFX)]
def M.aE9.rs (r:M.aE9):List RC:=[.ro (.int .i64 r.aFu),.ro (.int .i64 r.aFm),.ro (.int .i64 r.aE3),.own 5 1 (List.map enB r.aFw),.ro (.bool r.aFz)]
def M.aFG.rs (r:M.aFG):List RC:=[.ro (.str r.aC.Name),.own 284 4 (List.map M.aFP.en r.aC.aE7),.ro (.int .i64 r.aC.aFZ),.own 207 2 (List.map M.aO.en r.aO),.own 211 7 (List.map M.bD.en r.aFV)]
def M.aFD.ra (r:M.aFD):List RC:=[.ro (.str r.Name),.ro (.int .i64 r.aE3),.any (.sl (List.map enS r.aFe)),.ro (.bool r.aFj)]
def M.aFD.rs (r:M.aFD):List RC:=[.ro (.str r.Name),.ro (.int .i64 r.aE3),.own 9 1 (List.map enS r.aFe),.ro (.bool r.aFj)]
def M.aA.rs (r:M.aA):List RC:=[.own 49 24 (List.map M.aJ.en r.aE8)]
def M.aC.rs (r:M.aC):List RC:=[.ro (.str r.Name),.own 284 4 (List.map M.aFP.en r.aE7),.ro (.int .i64 r.aFZ)]
def M.aFS.rs (r:M.aFS):List RC:=[.ro (.int .i64 r.aM.aFC),.ro (.int .i64 r.aM.aFd),.own 211 7 (List.map M.bD.en r.aM.aFO),.ro (.int .i64 r.aFi),.ro (.int .i64 r.aFX)]
def M.World.rs (r:M.World):List RC:=[.ro (.int .i64 r.Now),.ro (.bool r.aFW),.ro (.int .i64 r.aFC),.own 49 24 (List.map M.aJ.en r.aA.aE8),.own 96 11 (List.map M.bC.en r.aFF),.ro (.int .i64 r.aFJ),.own 154 4 (List.map M.mZ.en r.aFM.aFM),.own 157 3 (List.map M.tB.en r.aFB.aFa),.own 85 4 (List.map M.aFD.en r.aFR),.own 137 5 (List.map M.aFG.en r.aFN)]
def M.bD.rs (r:M.bD):List RC:=[.ro (.int .i64 r.aFC),.ro (.int .i64 r.Seq),.ro (.int .i64 r.Key.aFU),.ro (.int .i64 r.Key.N),.ro (.str r.Key.aFb),.ro (.str r.Field),.ro (.int .i64 r.N)]
def K5:CA:=oB 35 [cS (⟨#[]⟩:ByteArray),cI 0,.nil,.nil]
def aCf:CA:=oB 37 [cS (⟨#[]⟩:ByteArray),cI 0,.nil,.nil,.nil,cI 0]
def aED:CA:=oB 45 [cI 0,cI 0,.nil,cI 0,cI 0]
def aAW:CA:=oB 47 [cS (⟨#[]⟩:ByteArray),.nil,cI 0,cI 0,cI 0,cI 0,.nil,cI 0,cI 0]
def OI:CA:=oB 49 [cS (⟨#[]⟩:ByteArray),cS (⟨#[]⟩:ByteArray),cS (⟨#[]⟩:ByteArray),cI 0,cI 0,cI 0,.nil,cS (⟨#[]⟩:ByteArray),cI 0,.nil,.nil,.nil,cI 0,cS (⟨#[]⟩:ByteArray),.nil,cI 0,cI 0,cI 0,cI 0,.nil,cI 0,cI 0,cI 0,cB false]
def Qy:CA:=oB 75 [cI 0,cB false,cI 0,.nil,.nil,cI 0,.nil,.nil,.nil,.nil]
def aEI:CA:=oB 94 [.nil,cI 0,.nil,cI 0,cB false,cB false]
def Vr:CA:=oB 96 [cI 0,cS (⟨#[]⟩:ByteArray),cS (⟨#[]⟩:ByteArray),cI 0,.nil,.nil,cI 0,.nil,cI 0,cB false,cB false]
def Zo:CA:=oB 105 [cI 0,cI 0,cI 0,.nil,cB false]
def UN:CA:=oB 137 [cS (⟨#[]⟩:ByteArray),.nil,cI 0,.nil,.nil]
def ZR:CA:=oB 211 [cI 0,cI 0,cI 0,cI 0,cS (⟨#[]⟩:ByteArray),cS (⟨#[]⟩:ByteArray),cI 0]
def Zs:CA:=oB 216 [cI 0,cI 0,cI 0,cS (⟨#[]⟩:ByteArray)]
def aAA:CA:=oB 257 [cI 0,cS (⟨#[]⟩:ByteArray),cI 0,cI 0,cS (⟨#[]⟩:ByteArray),.nil,cS (⟨#[]⟩:ByteArray)]
def aDl:=PLift.up (qI ti3 (qI ti4 (qI ti5 (qI ti9 (qI Y6 (qI aEM (qI ZZ (qI aEf (qI QA (qI Bt (qI Xz (qI YE (qI Tk (qI aEN (qI aE1 (qI Xv (qI aEu (qI aEq (qI aEX (qI X8 (qI Ya (qI Wa (qI Y1 (qI aES (qI aEY (qI aEU (qI aEn (qI Zc (qI Zf (qI Ct (qI Zw (qI aEc (qI aEA (qI Yb (qI aEa (qI Wf (qI aEm (qI Xi (qI ZE (qI Xw (qI Zm (qI Zg (qI ZX (qI Nz (qI Fv (qI Lo (qI ZF (qI Zy (qI ZU (qI ZQ (qI Z7 (qI Z4 (qI Zh (qI Zp (qI SN (qI ZI (qI Zv (qI Zz (qI Z8 aAI)))))))))))))))))))))))))))))))))))))))))))))))))))))))))))
theorem TB:type_of% aDl.down:=aDl.down
def aCN:=PLift.up (qI @enI.eq_1 (qI @enB.eq_1 (qI @enS.eq_1 (qI @enT.eq_1 (qI @enL.eq_1 (qI @enI.fl (qI @enB.fl (qI @enS.fl (qI @enT.fl (qI @Uf (qI @UE (qI @SQ (qI @aI.eq_1 (qI @aB.eq_1 (qI @aS.eq_1 (qI @aL.eq_1 (qI @aX.eq_1 (qI @cI.eq_1 (qI @cB.eq_1 (qI @cS.eq_1 (qI @cL.eq_1 (qI @vI.eq_1 (qI @vB.eq_1 (qI @vS.eq_1 (qI @vL.eq_1 (qI @vR.eq_1 (qI @vP.eq_1 (qI @oX.eq_1 (qI @oB.eq_1 (qI @oW.eq_1 (qI @rI.eq_1 (qI @rB.eq_1 (qI @rS.eq_1 (qI @rW.eq_1 (qI @M.aJ.ra.eq_1 (qI @M.aJ.rs.eq_1 (qI @M.aFE.rs.eq_1 (qI @M.aE.rs.eq_1 (qI @M.aFB.rs.eq_1 (qI @M.aE5.rs.eq_1 (qI @M.bV.rs.eq_1 (qI @M.Instr.rs.eq_1 (qI @M.aFP.rs.eq_1 (qI @M.Key.rs.eq_1 (qI @M.aR.rs.eq_1 (qI @M.aFI.rs.eq_1 (qI @M.Op.rs.eq_1 (qI @M.aM.rs.eq_1 (qI @M.bC.rs.eq_1 (qI @M.aD.rs.eq_1 (qI @M.aG.rs.eq_1 (qI @M.aE9.rs.eq_1 (qI @M.aFG.rs.eq_1 (qI @M.aFD.ra.eq_1 (qI @M.aFD.rs.eq_1 (qI @M.aA.rs.eq_1 (qI @M.aC.rs.eq_1 (qI @M.aFS.rs.eq_1 (qI @M.World.rs.eq_1 (qI @M.bD.rs.eq_1 (qI @K5.eq_1 (qI @aCf.eq_1 (qI @aED.eq_1 (qI @aAW.eq_1 (qI @OI.eq_1 (qI @Qy.eq_1 (qI @aEI.eq_1 (qI @Vr.eq_1 (qI @Zo.eq_1 (qI @UN.eq_1 (qI @ZR.eq_1 (qI @Zs.eq_1 (qI @aAA.eq_1 (qI @M.aQ.en.eq_1 (qI @M.aE4.en.eq_1 (qI @M.aE4.en.fl (qI @M.aE9.en.eq_1 (qI @M.aFL.en.eq_1 (qI @M.aFE.en.eq_1 (qI @M.aE.en.eq_1 (qI @M.Key.en.eq_1 (qI @M.Key.en.fl (qI @M.Field.en.eq_1 (qI @M.Field.en.fl (qI @M.aD.en.eq_1 (qI @M.aFP.en.eq_1 (qI @M.aC.en.eq_1 (qI @M.aN.en.eq_1 (qI @M.aN.en.fl (qI @M.aE5.en.eq_1 (qI @M.bV.en.eq_1 (qI @M.bD.en.eq_1 (qI @M.bD.en.fl (qI @M.aM.en.eq_1 (qI @M.aFS.en.eq_1 (qI @M.aG.en.eq_1 (qI @M.aJ.en.eq_1 (qI @M.aA.en.eq_1 (qI @M.aU.en.eq_1 (qI @M.aU.en.fl (qI @M.Instr.en.eq_1 (qI @M.Instr.en.fl (qI @M.aFI.en.eq_1 (qI @M.bC.en.eq_1 (qI @M.mZ.en.eq_1 (qI @M.mZ.en.fl (qI @M.aR.en.eq_1 (qI @M.tB.en.eq_1 (qI @M.tB.en.fl (qI @M.aFB.en.eq_1 (qI @M.aFD.en.eq_1 (qI @M.aO.en.eq_1 (qI @M.aO.en.fl (qI @M.aFG.en.eq_1 (qI @M.World.en.eq_1 (qI @M.Op.en.eq_1 (qI @M.gE.en.eq_1 (qI @M.gE.en.fl (qI @M.kM.en.eq_1 @M.kM.en.fl)))))))))))))))))))))))))))))))))))))))))))))))))))))))))))))))))))))))))))))))))))))))))))))))))))))))))))))))))))))))
theorem EN:type_of% aCN.down:=aCN.down
end Go.Proofs.YtipmihbgjolaaaaGreat.gen
