/-
  Helper text. No conditions.
-/
import Derived.Test.YtndidbigdalbnaaGreatNotesMod
import Derived.Test.YtndidbigdalbnaaGreatProg
import Derived.KernelRfl
set_option linter.all false
namespace Go.Proofs.YtndidbigdalbnaaGreat.gen
open Go Go.Sh Tryz
theorem mixed:prog.follows .mixedOrders=true:=by kernel_rfl
theorem ti3:fM prog 3=some { k:=.int .i64,size:=1,bytes:=8,zero:=[.dat (.int .i64 0)] }:=by kernel_rfl
theorem ti4:fM prog 4=some { k:=.bool,size:=1,bytes:=1,zero:=[.dat (.bool false)] }:=by kernel_rfl
theorem ti5:fM prog 5=some { k:=.int .u8,size:=1,bytes:=1,zero:=[.dat (.int .u8 0)] }:=by kernel_rfl
theorem ti9:fM prog 9=some { k:=.str,size:=1,bytes:=16,zero:=[.dat (.str ⟨#[]⟩)] }:=by kernel_rfl
theorem Ql:fM prog 22=some { k:=.slice 5,size:=1,bytes:=24,zero:=[.nil],sl:=[some (5,1)] }:=by kernel_rfl
theorem aJl:fM prog 24=some { k:=.slice 75,size:=1,bytes:=24,zero:=[.nil],sl:=[some (75,24)] }:=by kernel_rfl
theorem aKC:fM prog 26=some { k:=.struct [(0,1,false)],size:=1,bytes:=24,zero:=[.nil],sl:=[some (75,24)] }:=by kernel_rfl
theorem aBv:fM prog 27=some { k:=.slice 44,size:=1,bytes:=24,zero:=[.nil],sl:=[some (44,11)] }:=by kernel_rfl
theorem aJz:fM prog 28=some { k:=.slice 113,size:=1,bytes:=24,zero:=[.nil],sl:=[some (113,4)] }:=by kernel_rfl
theorem aKH:fM prog 30=some { k:=.struct [(0,1,false)],size:=1,bytes:=24,zero:=[.nil],sl:=[some (113,4)] }:=by kernel_rfl
theorem aJu:fM prog 31=some { k:=.slice 116,size:=1,bytes:=24,zero:=[.nil],sl:=[some (116,3)] }:=by kernel_rfl
theorem aJ5:fM prog 33=some { k:=.struct [(0,1,false)],size:=1,bytes:=24,zero:=[.nil],sl:=[some (116,3)] }:=by kernel_rfl
theorem aFp:fM prog 34=some { k:=.slice 120,size:=1,bytes:=24,zero:=[.nil],sl:=[some (120,4)] }:=by kernel_rfl
theorem aJ0:fM prog 35=some { k:=.slice 125,size:=1,bytes:=24,zero:=[.nil],sl:=[some (125,5)] }:=by kernel_rfl
theorem JI:fM prog 37=some { k:=.struct [(0,1,false),(1,1,false),(2,1,false),(3,1,true),(4,1,false),(5,1,false),(6,1,true),(7,1,true),(8,1,false),(9,1,false)],size:=10,bytes:=176,zero:=[.dat (.int .i64 0),.dat (.bool false),.dat (.int .i64 0),.nil,.nil,.dat (.int .i64 0),.nil,.nil,.nil,.nil],sl:=[none,none,none,some (75,24),some (44,11),none,some (113,4),some (116,3),some (120,4),some (125,5)] }:=by kernel_rfl
theorem aKV:fM prog 38=some { k:=.slice 173,size:=1,bytes:=24,zero:=[.nil],sl:=[some (173,2)] }:=by kernel_rfl
theorem aKQ:fM prog 39=some { k:=.slice 229,size:=1,bytes:=24,zero:=[.nil],sl:=[some (229,4)] }:=by kernel_rfl
theorem aEp:fM prog 40=some { k:=.slice 3,size:=1,bytes:=24,zero:=[.nil],sl:=[some (3,1)] }:=by kernel_rfl
theorem aKD:fM prog 42=some { k:=.struct [(0,1,false),(1,1,false),(2,1,false),(3,1,false),(4,1,false),(5,1,false)],size:=6,bytes:=72,zero:=[.nil,.dat (.int .i64 0),.nil,.dat (.int .i64 0),.dat (.bool false),.dat (.bool false)],sl:=[some (229,4),none,some (3,1),none,none,none] }:=by kernel_rfl
theorem Qo:fM prog 44=some { k:=.struct [(0,1,false),(1,1,false),(2,1,false),(3,1,false),(4,1,false),(5,6,true)],size:=11,bytes:=144,zero:=[.dat (.int .i64 0),.dat (.str ⟨#[]⟩),.dat (.str ⟨#[]⟩),.dat (.int .i64 0),.nil,.nil,.dat (.int .i64 0),.nil,.dat (.int .i64 0),.dat (.bool false),.dat (.bool false)],sl:=[none,none,none,none,some (173,2),some (229,4),none,some (3,1),none,none,none] }:=by kernel_rfl
theorem aCN:fM prog 53=some { k:=.slice 66,size:=1,bytes:=24,zero:=[.nil],sl:=[some (66,3)] }:=by kernel_rfl
theorem aEL:fM prog 54=some { k:=.slice 248,size:=1,bytes:=24,zero:=[.nil],sl:=[some (248,2)] }:=by kernel_rfl
theorem X5:fM prog 56=some { k:=.struct [(0,1,false),(1,1,false),(2,1,false),(3,1,false)],size:=4,bytes:=72,zero:=[.dat (.str ⟨#[]⟩),.dat (.int .i64 0),.nil,.nil],sl:=[none,none,some (66,3),some (248,2)] }:=by kernel_rfl
theorem aKF:fM prog 58=some { k:=.struct [(0,4,true),(4,1,false),(5,1,false)],size:=6,bytes:=104,zero:=[.dat (.str ⟨#[]⟩),.dat (.int .i64 0),.nil,.nil,.nil,.dat (.int .i64 0)],sl:=[none,none,some (66,3),some (248,2),some (5,1),none] }:=by kernel_rfl
theorem aKX:fM prog 60=some { k:=.struct [(0,1,false),(1,1,false),(2,1,false),(3,1,false)],size:=4,bytes:=40,zero:=[.dat (.str ⟨#[]⟩),.dat (.int .i64 0),.dat (.int .i64 0),.dat (.int .i64 0)],cmp:=[.str,.int,.int,.int] }:=by kernel_rfl
theorem ZR:fM prog 61=some { k:=.slice 262,size:=1,bytes:=24,zero:=[.nil],sl:=[some (262,2)] }:=by kernel_rfl
theorem Sv:fM prog 63=some { k:=.struct [(0,1,false)],size:=1,bytes:=24,zero:=[.nil],sl:=[some (262,2)] }:=by kernel_rfl
theorem aAI:fM prog 64=some { k:=.slice 153,size:=1,bytes:=24,zero:=[.nil],sl:=[some (153,4)] }:=by kernel_rfl
theorem WH:fM prog 66=some { k:=.struct [(0,1,false),(1,1,false),(2,1,false)],size:=3,bytes:=48,zero:=[.dat (.str ⟨#[]⟩),.nil,.dat (.int .i64 0)],sl:=[none,some (153,4),none] }:=by kernel_rfl
theorem aJp:fM prog 67=some { k:=.slice 182,size:=1,bytes:=24,zero:=[.nil],sl:=[some (182,7)] }:=by kernel_rfl
theorem aJq:fM prog 69=some { k:=.struct [(0,1,false),(1,1,false),(2,1,false)],size:=3,bytes:=40,zero:=[.dat (.int .i64 0),.dat (.int .i64 0),.nil],sl:=[none,none,some (182,7)] }:=by kernel_rfl
theorem aKA:fM prog 71=some { k:=.struct [(0,3,true),(3,1,false),(4,1,false)],size:=5,bytes:=56,zero:=[.dat (.int .i64 0),.dat (.int .i64 0),.nil,.dat (.int .i64 0),.dat (.int .i64 0)],sl:=[none,none,some (182,7),none,none] }:=by kernel_rfl
theorem aDZ:fM prog 73=some { k:=.struct [(0,3,true),(3,1,false),(4,5,true)],size:=9,bytes:=112,zero:=[.dat (.str ⟨#[]⟩),.nil,.dat (.int .i64 0),.dat (.int .i64 0),.dat (.int .i64 0),.dat (.int .i64 0),.nil,.dat (.int .i64 0),.dat (.int .i64 0)],sl:=[none,some (153,4),none,none,none,none,some (182,7),none,none] }:=by kernel_rfl
theorem Qz:fM prog 75=some { k:=.struct [(0,1,false),(1,1,false),(2,4,true),(6,1,true),(7,6,true),(13,9,true),(22,1,false),(23,1,false)],size:=24,bytes:=328,zero:=[.dat (.str ⟨#[]⟩),.dat (.str ⟨#[]⟩),.dat (.str ⟨#[]⟩),.dat (.int .i64 0),.dat (.int .i64 0),.dat (.int .i64 0),.nil,.dat (.str ⟨#[]⟩),.dat (.int .i64 0),.nil,.nil,.nil,.dat (.int .i64 0),.dat (.str ⟨#[]⟩),.nil,.dat (.int .i64 0),.dat (.int .i64 0),.dat (.int .i64 0),.dat (.int .i64 0),.nil,.dat (.int .i64 0),.dat (.int .i64 0),.dat (.int .i64 0),.dat (.bool false)],sl:=[none,none,none,none,none,none,some (262,2),none,none,some (66,3),some (248,2),some (5,1),none,none,some (153,4),none,none,none,none,some (182,7),none,none,none,none] }:=by kernel_rfl
theorem aJf:fM prog 88=some { k:=.slice 157,size:=1,bytes:=24,zero:=[.nil],sl:=[some (157,2)] }:=by kernel_rfl
theorem aFS:fM prog 90=some { k:=.struct [(0,1,false)],size:=1,bytes:=24,zero:=[.nil],sl:=[some (157,2)] }:=by kernel_rfl
theorem aFd:fM prog 98=some { k:=.struct [(0,1,false),(1,1,false),(2,1,false)],size:=3,bytes:=32,zero:=[.dat (.int .i64 0),.dat (.int .i64 0),.dat (.str ⟨#[]⟩)],cmp:=[.int,.int,.str] }:=by kernel_rfl
theorem QR:fM prog 101=some { k:=.struct [(0,1,false),(1,1,false),(2,3,true),(5,1,true),(6,1,false)],size:=7,bytes:=96,zero:=[.dat (.int .i64 0),.dat (.str ⟨#[]⟩),.dat (.int .i64 0),.dat (.int .i64 0),.dat (.str ⟨#[]⟩),.nil,.dat (.str ⟨#[]⟩)],sl:=[none,none,none,none,none,some (157,2),none] }:=by kernel_rfl
theorem aFm:fM prog 102=some { k:=.slice 101,size:=1,bytes:=24,zero:=[.nil],sl:=[some (101,7)] }:=by kernel_rfl
theorem aFz:fM prog 113=some { k:=.struct [(0,1,false),(1,1,false),(2,1,false),(3,1,false)],size:=4,bytes:=32,zero:=[.dat (.str ⟨#[]⟩),.dat (.int .i64 0),.dat (.bool false),.dat (.bool false)],cmp:=[.str,.int,.bool,.bool] }:=by kernel_rfl
theorem aEv:fM prog 116=some { k:=.struct [(0,1,false),(1,1,false),(2,1,false)],size:=3,bytes:=24,zero:=[.dat (.int .i64 0),.dat (.int .i64 0),.dat (.int .i64 0)],cmp:=[.int,.int,.int] }:=by kernel_rfl
theorem YN:fM prog 118=some { k:=.slice 9,size:=1,bytes:=24,zero:=[.nil],sl:=[some (9,1)] }:=by kernel_rfl
theorem aC2:fM prog 120=some { k:=.struct [(0,1,false),(1,1,false),(2,1,false),(3,1,false)],size:=4,bytes:=56,zero:=[.dat (.str ⟨#[]⟩),.dat (.int .i64 0),.nil,.dat (.bool false)],sl:=[none,none,some (9,1),none] }:=by kernel_rfl
theorem aFf:fM prog 123=some { k:=.slice 179,size:=1,bytes:=24,zero:=[.nil],sl:=[some (179,2)] }:=by kernel_rfl
theorem aFK:fM prog 125=some { k:=.struct [(0,3,true),(3,1,false),(4,1,false)],size:=5,bytes:=96,zero:=[.dat (.str ⟨#[]⟩),.nil,.dat (.int .i64 0),.nil,.nil],sl:=[none,some (153,4),none,some (179,2),some (182,7)] }:=by kernel_rfl
theorem aFU:fM prog 127=some { k:=.slice 22,size:=1,bytes:=24,zero:=[.nil],sl:=[some (22,1)] }:=by kernel_rfl
theorem aFi:fM prog 138=some { k:=.struct [(0,1,false),(1,1,false),(2,1,false)],size:=3,bytes:=40,zero:=[.nil,.dat (.int .i64 0),.dat (.int .i64 0)],sl:=[some (5,1),none,none] }:=by kernel_rfl
theorem WM:fM prog 153=some { k:=.struct [(0,3,true),(3,1,true)],size:=4,bytes:=56,zero:=[.dat (.int .i64 0),.dat (.int .i64 0),.dat (.str ⟨#[]⟩),.nil],sl:=[none,none,none,some (157,2)] }:=by kernel_rfl
theorem aEx:fM prog 157=some { k:=.struct [(0,1,false),(1,1,false)],size:=2,bytes:=24,zero:=[.dat (.str ⟨#[]⟩),.dat (.int .i64 0)],cmp:=[.str,.int] }:=by kernel_rfl
theorem aE2:fM prog 173=some { k:=.struct [(0,1,false),(1,1,false)],size:=2,bytes:=24,zero:=[.dat (.str ⟨#[]⟩),.dat (.int .i64 0)],cmp:=[.str,.int] }:=by kernel_rfl
theorem aE4:fM prog 179=some { k:=.struct [(0,1,false),(1,1,false)],size:=2,bytes:=16,zero:=[.dat (.int .i64 0),.dat (.int .i64 0)],cmp:=[.int,.int] }:=by kernel_rfl
theorem aFc:fM prog 182=some { k:=.struct [(0,1,false),(1,1,false),(2,3,true),(5,1,false),(6,1,false)],size:=7,bytes:=72,zero:=[.dat (.int .i64 0),.dat (.int .i64 0),.dat (.int .i64 0),.dat (.int .i64 0),.dat (.str ⟨#[]⟩),.dat (.str ⟨#[]⟩),.dat (.int .i64 0)],cmp:=[.int,.int,.int,.int,.str,.str,.int] }:=by kernel_rfl
theorem Jd:fM prog 195=some { k:=.arr 22 4,size:=4,bytes:=96,zero:=[.nil,.nil,.nil,.nil],sl:=[some (5,1),some (5,1),some (5,1),some (5,1)] }:=by kernel_rfl
theorem aFw:fM prog 229=some { k:=.struct [(0,1,false),(1,1,false),(2,1,false),(3,1,false)],size:=4,bytes:=40,zero:=[.dat (.int .i64 0),.dat (.int .i64 0),.dat (.int .i64 0),.dat (.str ⟨#[]⟩)],cmp:=[.int,.int,.int,.str] }:=by kernel_rfl
theorem aEw:fM prog 244=some { k:=.struct [(0,1,false),(1,1,false),(2,1,false),(3,1,false),(4,1,false)],size:=5,bytes:=56,zero:=[.dat (.int .i64 0),.dat (.int .i64 0),.dat (.int .i64 0),.nil,.dat (.bool false)],sl:=[none,none,none,some (5,1),none] }:=by kernel_rfl
theorem Za:fM prog 248=some { k:=.struct [(0,1,false),(1,1,false)],size:=2,bytes:=32,zero:=[.dat (.str ⟨#[]⟩),.dat (.str ⟨#[]⟩)],cmp:=[.str,.str] }:=by kernel_rfl
theorem Uz:fM prog 260=some { k:=.slice 264,size:=1,bytes:=24,zero:=[.nil],sl:=[some (264,7)] }:=by kernel_rfl
theorem La:fM prog 262=some { k:=.struct [(0,1,false),(1,1,false)],size:=2,bytes:=32,zero:=[.dat (.int .i64 0),.nil],sl:=[none,some (264,7)] }:=by kernel_rfl
theorem TW:fM prog 264=some { k:=.struct [(0,1,false),(1,1,false),(2,5,true)],size:=7,bytes:=88,zero:=[.dat (.str ⟨#[]⟩),.dat (.str ⟨#[]⟩),.dat (.int .i64 0),.dat (.int .i64 0),.dat (.int .i64 0),.nil,.dat (.bool false)],sl:=[none,none,none,none,none,some (5,1),none] }:=by kernel_rfl
theorem aE7:fM prog 283=some { k:=.struct [(0,1,false),(1,1,false),(2,1,false),(3,1,false),(4,1,false)],size:=5,bytes:=48,zero:=[.dat (.int .i64 0),.dat (.int .i64 0),.dat (.int .i64 0),.dat (.str ⟨#[]⟩),.dat (.int .i64 0)],cmp:=[.int,.int,.int,.str,.int] }:=by kernel_rfl
theorem aF6:fM prog 303=some { k:=.struct [(0,1,false),(1,1,false),(2,3,true),(5,3,true)],size:=8,bytes:=72,zero:=[.dat (.bool false),.dat (.bool false),.dat (.int .i64 0),.dat (.int .i64 0),.dat (.str ⟨#[]⟩),.dat (.int .i64 0),.dat (.int .i64 0),.dat (.str ⟨#[]⟩)],cmp:=[.bool,.bool,.int,.int,.str,.int,.int,.str] }:=by kernel_rfl
theorem aFL:fM prog 404=some { k:=.struct [(0,1,false),(1,1,false),(2,1,false)],size:=3,bytes:=40,zero:=[.dat (.int .i64 0),.dat (.str ⟨#[]⟩),.dat (.str ⟨#[]⟩)],cmp:=[.int,.str,.str] }:=by kernel_rfl
abbrev Sc:=lE prog
def M.Ask.rs(r:M.Ask):List RC:=[.ro (.int .i64 r.aKx),.ro (.int .i64 r.R),.ro (.int .i64 r.N),.ro (.str r.aK5),.ro (.int .i64 r.Value)]
def M.aKe.ra(r:M.aKe):List RC:=[.ro (.str r.aKl),.ro (.str r.Top),.ro (.str r.aKd.aKl),.ro (.int .i64 r.aKd.aLB),.ro (.int .i64 r.aKd.aLH),.ro (.int .i64 r.aKd.aLL),.any (.sl (List.map M.aKv.en r.aKi.aKi)),.ro (.str r.bJ.aK1.Name),.ro (.int .i64 r.bJ.aK1.aKb),.any (.sl (List.map M.aD.en r.bJ.aK1.aKm)),.any (.sl (List.map M.aV.en r.bJ.aK1.aKz)),.any (.sl (List.map enB r.bJ.Log)),.ro (.int .i64 r.bJ.aLF),.ro (.str r.aH.aK1.Name),.any (.sl (List.map M.aKy.en r.aH.aK1.aKg)),.ro (.int .i64 r.aH.aK1.aK7),.ro (.int .i64 r.aH.aLT),.ro (.int .i64 r.aH.aK3.aO.aKk),.ro (.int .i64 r.aH.aK3.aO.aLE),.any (.sl (List.map M.cH.en r.aH.aK3.aO.aKw)),.ro (.int .i64 r.aH.aK3.aLI),.ro (.int .i64 r.aH.aK3.aK8),.ro (.int .i64 r.aLC),.ro (.bool r.aK9)]
def M.aKe.rs(r:M.aKe):List RC:=[.ro (.str r.aKl),.ro (.str r.Top),.ro (.str r.aKd.aKl),.ro (.int .i64 r.aKd.aLB),.ro (.int .i64 r.aKd.aLH),.ro (.int .i64 r.aKd.aLL),.own 262 2 (List.map M.aKv.en r.aKi.aKi),.ro (.str r.bJ.aK1.Name),.ro (.int .i64 r.bJ.aK1.aKb),.own 66 3 (List.map M.aD.en r.bJ.aK1.aKm),.own 248 2 (List.map M.aV.en r.bJ.aK1.aKz),.own 5 1 (List.map enB r.bJ.Log),.ro (.int .i64 r.bJ.aLF),.ro (.str r.aH.aK1.Name),.own 153 4 (List.map M.aKy.en r.aH.aK1.aKg),.ro (.int .i64 r.aH.aK1.aK7),.ro (.int .i64 r.aH.aLT),.ro (.int .i64 r.aH.aK3.aO.aKk),.ro (.int .i64 r.aH.aK3.aO.aLE),.own 182 7 (List.map M.cH.en r.aH.aK3.aO.aKw),.ro (.int .i64 r.aH.aK3.aLI),.ro (.int .i64 r.aH.aK3.aK8),.ro (.int .i64 r.aLC),.ro (.bool r.aK9)]
def M.aKv.rs(r:M.aKv):List RC:=[.ro (.int .i64 r.aKb),.own 264 7 (List.map M.aK2.en r.aKs)]
def M.aN.rs(r:M.aN):List RC:=[.own 262 2 (List.map M.aKv.en r.aKi)]
def M.aKp.rs(r:M.aKp):List RC:=[.own 116 3 (List.map M.Eb.en r.aLJ)]
def M.aKc.ra(r:M.aKc):List RC:=[.ro (.str r.Name),.ro (.int .i64 r.aKb),.any (.sl (List.map M.aD.en r.aKm)),.any (.sl (List.map M.aV.en r.aKz))]
def M.aKc.rs(r:M.aKc):List RC:=[.ro (.str r.Name),.ro (.int .i64 r.aKb),.own 66 3 (List.map M.aD.en r.aKm),.own 248 2 (List.map M.aV.en r.aKz)]
def M.bJ.rs(r:M.bJ):List RC:=[.ro (.str r.aK1.Name),.ro (.int .i64 r.aK1.aKb),.own 66 3 (List.map M.aD.en r.aK1.aKm),.own 248 2 (List.map M.aV.en r.aK1.aKz),.own 5 1 (List.map enB r.Log),.ro (.int .i64 r.aLF)]
def M.aY.rs(r:M.aY):List RC:=[.ro (.int .i64 r.aKx),.ro (.int .i64 r.R),.ro (.int .i64 r.N),.ro (.str r.aK5)]
def M.aKy.rs(r:M.aKy):List RC:=[.ro (.int .i64 r.Key.aKx),.ro (.int .i64 r.Key.N),.ro (.str r.Key.aK5),.own 157 2 (List.map M.aR.en r.aF.aKj)]
def M.bD.rs(r:M.bD):List RC:=[.ro (.int .i64 r.aKx),.ro (.int .i64 r.N),.ro (.str r.aK5)]
def M.aW.rs(r:M.aW):List RC:=[.own 113 4 (List.map M.vE.en r.aKu)]
def M.aKh.rs(r:M.aKh):List RC:=[.own 229 4 (List.map M.aY.en r.aLA),.ro (.int .i64 r.Pc),.own 3 1 (List.map enI r.aLN),.ro (.int .i64 r.aLM),.ro (.bool r.aLU),.ro (.bool r.aLR)]
def M.fA.rs(r:M.fA):List RC:=[.ro (.int .i64 r.aKx),.ro (.str r.aD),.ro (.int .i64 r.Key.aKx),.ro (.int .i64 r.Key.N),.ro (.str r.Key.aK5),.own 157 2 (List.map M.aR.en r.aF.aKj),.ro (.str r.Field)]
def M.aO.rs(r:M.aO):List RC:=[.ro (.int .i64 r.aKk),.ro (.int .i64 r.aLE),.own 182 7 (List.map M.cH.en r.aKw)]
def M.bK.ra(r:M.bK):List RC:=[.ro (.int .i64 r.Id),.ro (.str r.aKl),.ro (.str r.Top),.ro (.int .i64 r.aKb),.any (.sl (List.map M.aT.en r.aT)),.any (.sl (List.map M.aY.en r.aKh.aLA)),.ro (.int .i64 r.aKh.Pc),.any (.sl (List.map enI r.aKh.aLN)),.ro (.int .i64 r.aKh.aLM),.ro (.bool r.aKh.aLU),.ro (.bool r.aKh.aLR)]
def M.bK.rs(r:M.bK):List RC:=[.ro (.int .i64 r.Id),.ro (.str r.aKl),.ro (.str r.Top),.ro (.int .i64 r.aKb),.own 173 2 (List.map M.aT.en r.aT),.own 229 4 (List.map M.aY.en r.aKh.aLA),.ro (.int .i64 r.aKh.Pc),.own 3 1 (List.map enI r.aKh.aLN),.ro (.int .i64 r.aKh.aLM),.ro (.bool r.aKh.aLU),.ro (.bool r.aKh.aLR)]
def M.aF.ra(r:M.aF):List RC:=[.any (.sl (List.map M.aR.en r.aKj))]
def M.aF.rs(r:M.aF):List RC:=[.own 157 2 (List.map M.aR.en r.aKj)]
def M.aH.rs(r:M.aH):List RC:=[.ro (.str r.aK1.Name),.own 153 4 (List.map M.aKy.en r.aK1.aKg),.ro (.int .i64 r.aK1.aK7),.ro (.int .i64 r.aLT),.ro (.int .i64 r.aK3.aO.aKk),.ro (.int .i64 r.aK3.aO.aLE),.own 182 7 (List.map M.cH.en r.aK3.aO.aKw),.ro (.int .i64 r.aK3.aLI),.ro (.int .i64 r.aK3.aK8)]
def M.aKo.rs(r:M.aKo):List RC:=[.ro (.int .i64 r.aLX),.ro (.int .i64 r.aLV),.ro (.int .i64 r.aKb),.own 5 1 (List.map enB r.aLZ),.ro (.bool r.aLc)]
def M.aKt.rs(r:M.aKt):List RC:=[.ro (.str r.aD.Name),.own 153 4 (List.map M.aKy.en r.aD.aKg),.ro (.int .i64 r.aD.aK7),.own 179 2 (List.map M.aQ.en r.aQ),.own 182 7 (List.map M.cH.en r.aK6)]
def M.aKl.rs(r:M.aKl):List RC:=[.ro (.str r.Name),.ro (.int .i64 r.aKb),.own 9 1 (List.map enS r.aLG),.ro (.bool r.aLK)]
def M.aC.rs(r:M.aC):List RC:=[.own 75 24 (List.map M.aKe.en r.aKf)]
def M.aD.ra(r:M.aD):List RC:=[.ro (.str r.Name),.any (.sl (List.map M.aKy.en r.aKg)),.ro (.int .i64 r.aK7)]
def M.aD.rs(r:M.aD):List RC:=[.ro (.str r.Name),.own 153 4 (List.map M.aKy.en r.aKg),.ro (.int .i64 r.aK7)]
def M.aK3.rs(r:M.aK3):List RC:=[.ro (.int .i64 r.aO.aKk),.ro (.int .i64 r.aO.aLE),.own 182 7 (List.map M.cH.en r.aO.aKw),.ro (.int .i64 r.aLI),.ro (.int .i64 r.aK8)]
def M.aE.ra(r:M.aE):List RC:=[.ro (.int .i64 r.Now),.ro (.bool r.aK4),.ro (.int .i64 r.aKk),.any (.sl (List.map M.aKe.en r.aC.aKf)),.any (.sl (List.map M.bK.en r.aKq)),.ro (.int .i64 r.aKn),.any (.sl (List.map M.vE.en r.aKu.aKu)),.any (.sl (List.map M.Eb.en r.aKp.aLJ)),.any (.sl (List.map M.aKl.en r.aK0)),.any (.sl (List.map M.aKt.en r.aKr))]
def M.aE.rs(r:M.aE):List RC:=[.ro (.int .i64 r.Now),.ro (.bool r.aK4),.ro (.int .i64 r.aKk),.own 75 24 (List.map M.aKe.en r.aC.aKf),.own 44 11 (List.map M.bK.en r.aKq),.ro (.int .i64 r.aKn),.own 113 4 (List.map M.vE.en r.aKu.aKu),.own 116 3 (List.map M.Eb.en r.aKp.aLJ),.own 120 4 (List.map M.aKl.en r.aK0),.own 125 5 (List.map M.aKt.en r.aKr)]
def M.cH.rs(r:M.cH):List RC:=[.ro (.int .i64 r.aKk),.ro (.int .i64 r.Seq),.ro (.int .i64 r.Key.aKx),.ro (.int .i64 r.Key.N),.ro (.str r.Key.aK5),.ro (.str r.Field),.ro (.int .i64 r.N)]
def WY:E7:=oB 37 [cI 0,cB false,cI 0,.nil,.nil,cI 0,.nil,.nil,.nil,.nil]
def aH3:E7:=oB 42 [.nil,cI 0,.nil,cI 0,cB false,cB false]
def aBc:E7:=oB 44 [cI 0,cS (⟨#[]⟩:ByteArray),cS (⟨#[]⟩:ByteArray),cI 0,.nil,.nil,cI 0,.nil,cI 0,cB false,cB false]
def WT:E7:=oB 56 [cS (⟨#[]⟩:ByteArray),cI 0,.nil,.nil]
def aGK:E7:=oB 58 [cS (⟨#[]⟩:ByteArray),cI 0,.nil,.nil,.nil,cI 0]
def aJv:E7:=oB 71 [cI 0,cI 0,.nil,cI 0,cI 0]
def aJP:E7:=oB 73 [cS (⟨#[]⟩:ByteArray),.nil,cI 0,cI 0,cI 0,cI 0,.nil,cI 0,cI 0]
def aFr:E7:=oB 75 [cS (⟨#[]⟩:ByteArray),cS (⟨#[]⟩:ByteArray),cS (⟨#[]⟩:ByteArray),cI 0,cI 0,cI 0,.nil,cS (⟨#[]⟩:ByteArray),cI 0,.nil,.nil,.nil,cI 0,cS (⟨#[]⟩:ByteArray),.nil,cI 0,cI 0,cI 0,cI 0,.nil,cI 0,cI 0,cI 0,cB false]
def aFE:E7:=oB 101 [cI 0,cS (⟨#[]⟩:ByteArray),cI 0,cI 0,cS (⟨#[]⟩:ByteArray),.nil,cS (⟨#[]⟩:ByteArray)]
def aAF:E7:=oB 125 [cS (⟨#[]⟩:ByteArray),.nil,cI 0,.nil,.nil]
def aE8:E7:=oB 182 [cI 0,cI 0,cI 0,cI 0,cS (⟨#[]⟩:ByteArray),cS (⟨#[]⟩:ByteArray),cI 0]
def aEW:E7:=oB 195 [.nil,.nil,.nil,.nil]
def aFV:E7:=oB 229 [cI 0,cI 0,cI 0,cS (⟨#[]⟩:ByteArray)]
def aF2:E7:=oB 244 [cI 0,cI 0,cI 0,.nil,cB false]
def aDu:E7:=oB 283 [cI 0,cI 0,cI 0,cS (⟨#[]⟩:ByteArray),cI 0]
def aI9:=PLift.up (qI ti3 (qI ti4 (qI ti5 (qI ti9 (qI Ql (qI aJl (qI aKC (qI aBv (qI aJz (qI aKH (qI aJu (qI aJ5 (qI aFp (qI aJ0 (qI JI (qI aKV (qI aKQ (qI aEp (qI aKD (qI Qo (qI aCN (qI aEL (qI X5 (qI aKF (qI aKX (qI ZR (qI Sv (qI aAI (qI WH (qI aJp (qI aJq (qI aKA (qI aDZ (qI Qz (qI aJf (qI aFS (qI aFd (qI QR (qI aFm (qI aFz (qI aEv (qI YN (qI aC2 (qI aFf (qI aFK (qI aFU (qI aFi (qI WM (qI aEx (qI aE2 (qI aE4 (qI aFc (qI Jd (qI aFw (qI aEw (qI Za (qI Uz (qI La (qI TW (qI aE7 (qI aF6 aFL)))))))))))))))))))))))))))))))))))))))))))))))))))))))))))))
theorem TB:type_of% aI9.down:=aI9.down
def aH4:=PLift.up (qI @enI.eq_1 (qI @enB.eq_1 (qI @enS.eq_1 (qI @enT.eq_1 (qI @enL.eq_1 (qI @enI.fl (qI @enB.fl (qI @enS.fl (qI @enT.fl (qI @ZD (qI @KY (qI @I4 (qI @aI.eq_1 (qI @aB.eq_1 (qI @aS.eq_1 (qI @aL.eq_1 (qI @aX.eq_1 (qI @cI.eq_1 (qI @cB.eq_1 (qI @cS.eq_1 (qI @cL.eq_1 (qI @vI.eq_1 (qI @vB.eq_1 (qI @vS.eq_1 (qI @vL.eq_1 (qI @vR.eq_1 (qI @vP.eq_1 (qI @oX.eq_1 (qI @oB.eq_1 (qI @oW.eq_1 (qI @rI.eq_1 (qI @rB.eq_1 (qI @rS.eq_1 (qI @rW.eq_1 (qI @M.Ask.rs.eq_1 (qI @M.aKe.ra.eq_1 (qI @M.aKe.rs.eq_1 (qI @M.aKv.rs.eq_1 (qI @M.aN.rs.eq_1 (qI @M.aKp.rs.eq_1 (qI @M.aKc.ra.eq_1 (qI @M.aKc.rs.eq_1 (qI @M.bJ.rs.eq_1 (qI @M.aY.rs.eq_1 (qI @M.aKy.rs.eq_1 (qI @M.bD.rs.eq_1 (qI @M.aW.rs.eq_1 (qI @M.aKh.rs.eq_1 (qI @M.fA.rs.eq_1 (qI @M.aO.rs.eq_1 (qI @M.bK.ra.eq_1 (qI @M.bK.rs.eq_1 (qI @M.aF.ra.eq_1 (qI @M.aF.rs.eq_1 (qI @M.aH.rs.eq_1 (qI @M.aKo.rs.eq_1 (qI @M.aKt.rs.eq_1 (qI @M.aKl.rs.eq_1 (qI @M.aC.rs.eq_1 (qI @M.aD.ra.eq_1 (qI @M.aD.rs.eq_1 (qI @M.aK3.rs.eq_1 (qI @M.aE.ra.eq_1 (qI @M.aE.rs.eq_1 (qI @M.cH.rs.eq_1 (qI @WY.eq_1 (qI @aH3.eq_1 (qI @aBc.eq_1 (qI @WT.eq_1 (qI @aGK.eq_1 (qI @aJv.eq_1 (qI @aJP.eq_1 (qI @aFr.eq_1 (qI @aFE.eq_1 (qI @aAF.eq_1 (qI @aE8.eq_1 (qI @aEW.eq_1 (qI @aFV.eq_1 (qI @aF2.eq_1 (qI @aDu.eq_1 (qI @M.bN.en.eq_1 (qI @M.aKd.en.eq_1 (qI @M.aKd.en.fl (qI @M.aKo.en.eq_1 (qI @M.aK2.en.eq_1 (qI @M.aKv.en.eq_1 (qI @M.aN.en.eq_1 (qI @M.bD.en.eq_1 (qI @M.bD.en.fl (qI @M.aR.en.eq_1 (qI @M.aR.en.fl (qI @M.aF.en.eq_1 (qI @M.aKy.en.eq_1 (qI @M.aD.en.eq_1 (qI @M.aV.en.eq_1 (qI @M.aV.en.fl (qI @M.aKc.en.eq_1 (qI @M.bJ.en.eq_1 (qI @M.cH.en.eq_1 (qI @M.cH.en.fl (qI @M.aO.en.eq_1 (qI @M.aK3.en.eq_1 (qI @M.aH.en.eq_1 (qI @M.aKe.en.eq_1 (qI @M.aC.en.eq_1 (qI @M.aT.en.eq_1 (qI @M.aT.en.fl (qI @M.aY.en.eq_1 (qI @M.aY.en.fl (qI @M.aKh.en.eq_1 (qI @M.bK.en.eq_1 (qI @M.vE.en.eq_1 (qI @M.vE.en.fl (qI @M.aW.en.eq_1 (qI @M.Eb.en.eq_1 (qI @M.Eb.en.fl (qI @M.aKp.en.eq_1 (qI @M.aKl.en.eq_1 (qI @M.aQ.en.eq_1 (qI @M.aQ.en.fl (qI @M.aKt.en.eq_1 (qI @M.aE.en.eq_1 (qI @M.Ask.en.eq_1 (qI @M.Ask.en.fl (qI @M.fA.en.eq_1 (qI @M.fY.en.eq_1 (qI @M.fY.en.fl (qI @M.tC.en.eq_1 @M.tC.en.fl))))))))))))))))))))))))))))))))))))))))))))))))))))))))))))))))))))))))))))))))))))))))))))))))))))))))))))))))))))))))))))))))
theorem EN:type_of% aH4.down:=aH4.down
