/-
  Helper text. No conditions.
-/
import Derived.Test.YtjlnkcoeghonfaaGreatRunningPagesMod
import Derived.Test.YtjlnkcoeghonfaaGreatProg
import Derived.KernelRfl
set_option linter.all false
namespace Go.Proofs.YtjlnkcoeghonfaaGreat.gen
open Go Go.Sh Tryz
theorem mixed:prog.follows .mixedOrders=true:=by kernel_rfl
theorem ti3:fS prog 3=some { k:=.int .i64,size:=1,bytes:=8,zero:=[.dat (.int .i64 0)] }:=by kernel_rfl
theorem ti4:fS prog 4=some { k:=.bool,size:=1,bytes:=1,zero:=[.dat (.bool false)] }:=by kernel_rfl
theorem ti5:fS prog 5=some { k:=.int .u8,size:=1,bytes:=1,zero:=[.dat (.int .u8 0)] }:=by kernel_rfl
theorem ti9:fS prog 9=some { k:=.str,size:=1,bytes:=16,zero:=[.dat (.str ⟨#[]⟩)] }:=by kernel_rfl
theorem aKd:fS prog 37=some { k:=.slice 84,size:=1,bytes:=24,zero:=[.nil],sl:=[some (84,24)] }:=by kernel_rfl
theorem aLL:fS prog 39=some { k:=.struct [(0,1,false)],size:=1,bytes:=24,zero:=[.nil],sl:=[some (84,24)] }:=by kernel_rfl
theorem aBc:fS prog 40=some { k:=.slice 91,size:=1,bytes:=24,zero:=[.nil],sl:=[some (91,11)] }:=by kernel_rfl
theorem aLH:fS prog 41=some { k:=.slice 144,size:=1,bytes:=24,zero:=[.nil],sl:=[some (144,4)] }:=by kernel_rfl
theorem aK9:fS prog 43=some { k:=.struct [(0,1,false)],size:=1,bytes:=24,zero:=[.nil],sl:=[some (144,4)] }:=by kernel_rfl
theorem aKw:fS prog 44=some { k:=.slice 147,size:=1,bytes:=24,zero:=[.nil],sl:=[some (147,3)] }:=by kernel_rfl
theorem aLP:fS prog 46=some { k:=.struct [(0,1,false)],size:=1,bytes:=24,zero:=[.nil],sl:=[some (147,3)] }:=by kernel_rfl
theorem aFB:fS prog 47=some { k:=.slice 151,size:=1,bytes:=24,zero:=[.nil],sl:=[some (151,4)] }:=by kernel_rfl
theorem aKU:fS prog 48=some { k:=.slice 156,size:=1,bytes:=24,zero:=[.nil],sl:=[some (156,5)] }:=by kernel_rfl
theorem Ir:fS prog 50=some { k:=.struct [(0,1,false),(1,1,false),(2,1,false),(3,1,true),(4,1,false),(5,1,false),(6,1,true),(7,1,true),(8,1,false),(9,1,false)],size:=10,bytes:=176,zero:=[.dat (.int .i64 0),.dat (.bool false),.dat (.int .i64 0),.nil,.nil,.dat (.int .i64 0),.nil,.nil,.nil,.nil],sl:=[none,none,none,some (84,24),some (91,11),none,some (144,4),some (147,3),some (151,4),some (156,5)] }:=by kernel_rfl
theorem QH:fS prog 58=some { k:=.slice 5,size:=1,bytes:=24,zero:=[.nil],sl:=[some (5,1)] }:=by kernel_rfl
theorem aKQ:fS prog 63=some { k:=.struct [(0,1,false),(1,1,false),(2,1,false),(3,1,false)],size:=4,bytes:=40,zero:=[.dat (.str ⟨#[]⟩),.dat (.int .i64 0),.dat (.int .i64 0),.dat (.int .i64 0)],cmp:=[.str,.int,.int,.int] }:=by kernel_rfl
theorem ZF:fS prog 64=some { k:=.slice 277,size:=1,bytes:=24,zero:=[.nil],sl:=[some (277,2)] }:=by kernel_rfl
theorem SN:fS prog 66=some { k:=.struct [(0,1,false)],size:=1,bytes:=24,zero:=[.nil],sl:=[some (277,2)] }:=by kernel_rfl
theorem aCJ:fS prog 67=some { k:=.slice 75,size:=1,bytes:=24,zero:=[.nil],sl:=[some (75,3)] }:=by kernel_rfl
theorem aDo:fS prog 68=some { k:=.slice 382,size:=1,bytes:=24,zero:=[.nil],sl:=[some (382,2)] }:=by kernel_rfl
theorem XS:fS prog 70=some { k:=.struct [(0,1,false),(1,1,false),(2,1,false),(3,1,false)],size:=4,bytes:=72,zero:=[.dat (.str ⟨#[]⟩),.dat (.int .i64 0),.nil,.nil],sl:=[none,none,some (75,3),some (382,2)] }:=by kernel_rfl
theorem aKM:fS prog 72=some { k:=.struct [(0,4,true),(4,1,false),(5,1,false)],size:=6,bytes:=104,zero:=[.dat (.str ⟨#[]⟩),.dat (.int .i64 0),.nil,.nil,.nil,.dat (.int .i64 0)],sl:=[none,none,some (75,3),some (382,2),some (5,1),none] }:=by kernel_rfl
theorem ZN:fS prog 73=some { k:=.slice 320,size:=1,bytes:=24,zero:=[.nil],sl:=[some (320,4)] }:=by kernel_rfl
theorem WW:fS prog 75=some { k:=.struct [(0,1,false),(1,1,false),(2,1,false)],size:=3,bytes:=48,zero:=[.dat (.str ⟨#[]⟩),.nil,.dat (.int .i64 0)],sl:=[none,some (320,4),none] }:=by kernel_rfl
theorem aKx:fS prog 76=some { k:=.slice 269,size:=1,bytes:=24,zero:=[.nil],sl:=[some (269,7)] }:=by kernel_rfl
theorem aKa:fS prog 78=some { k:=.struct [(0,1,false),(1,1,false),(2,1,false)],size:=3,bytes:=40,zero:=[.dat (.int .i64 0),.dat (.int .i64 0),.nil],sl:=[none,none,some (269,7)] }:=by kernel_rfl
theorem aK1:fS prog 80=some { k:=.struct [(0,3,true),(3,1,false),(4,1,false)],size:=5,bytes:=56,zero:=[.dat (.int .i64 0),.dat (.int .i64 0),.nil,.dat (.int .i64 0),.dat (.int .i64 0)],sl:=[none,none,some (269,7),none,none] }:=by kernel_rfl
theorem aDK:fS prog 82=some { k:=.struct [(0,3,true),(3,1,false),(4,5,true)],size:=9,bytes:=112,zero:=[.dat (.str ⟨#[]⟩),.nil,.dat (.int .i64 0),.dat (.int .i64 0),.dat (.int .i64 0),.dat (.int .i64 0),.nil,.dat (.int .i64 0),.dat (.int .i64 0)],sl:=[none,some (320,4),none,none,none,none,some (269,7),none,none] }:=by kernel_rfl
theorem QB:fS prog 84=some { k:=.struct [(0,1,false),(1,1,false),(2,4,true),(6,1,true),(7,6,true),(13,9,true),(22,1,false),(23,1,false)],size:=24,bytes:=328,zero:=[.dat (.str ⟨#[]⟩),.dat (.str ⟨#[]⟩),.dat (.str ⟨#[]⟩),.dat (.int .i64 0),.dat (.int .i64 0),.dat (.int .i64 0),.nil,.dat (.str ⟨#[]⟩),.dat (.int .i64 0),.nil,.nil,.nil,.dat (.int .i64 0),.dat (.str ⟨#[]⟩),.nil,.dat (.int .i64 0),.dat (.int .i64 0),.dat (.int .i64 0),.dat (.int .i64 0),.nil,.dat (.int .i64 0),.dat (.int .i64 0),.dat (.int .i64 0),.dat (.bool false)],sl:=[none,none,none,none,none,none,some (277,2),none,none,some (75,3),some (382,2),some (5,1),none,none,some (320,4),none,none,none,none,some (269,7),none,none,none,none] }:=by kernel_rfl
theorem aKW:fS prog 85=some { k:=.slice 204,size:=1,bytes:=24,zero:=[.nil],sl:=[some (204,2)] }:=by kernel_rfl
theorem aKh:fS prog 86=some { k:=.slice 197,size:=1,bytes:=24,zero:=[.nil],sl:=[some (197,4)] }:=by kernel_rfl
theorem aEf:fS prog 87=some { k:=.slice 3,size:=1,bytes:=24,zero:=[.nil],sl:=[some (3,1)] }:=by kernel_rfl
theorem aKs:fS prog 89=some { k:=.struct [(0,1,false),(1,1,false),(2,1,false),(3,1,false),(4,1,false),(5,1,false)],size:=6,bytes:=72,zero:=[.nil,.dat (.int .i64 0),.nil,.dat (.int .i64 0),.dat (.bool false),.dat (.bool false)],sl:=[some (197,4),none,some (3,1),none,none,none] }:=by kernel_rfl
theorem aBN:fS prog 91=some { k:=.struct [(0,1,false),(1,1,false),(2,1,false),(3,1,false),(4,1,false),(5,6,true)],size:=11,bytes:=144,zero:=[.dat (.int .i64 0),.dat (.str ⟨#[]⟩),.dat (.str ⟨#[]⟩),.dat (.int .i64 0),.nil,.nil,.dat (.int .i64 0),.nil,.dat (.int .i64 0),.dat (.bool false),.dat (.bool false)],sl:=[none,none,none,none,some (204,2),some (197,4),none,some (3,1),none,none,none] }:=by kernel_rfl
theorem aFa:fS prog 102=some { k:=.struct [(0,1,false),(1,1,false),(2,1,false),(3,1,false),(4,1,false)],size:=5,bytes:=48,zero:=[.dat (.int .i64 0),.dat (.int .i64 0),.dat (.int .i64 0),.dat (.str ⟨#[]⟩),.dat (.int .i64 0)],cmp:=[.int,.int,.int,.str,.int] }:=by kernel_rfl
theorem aFo:fS prog 107=some { k:=.struct [(0,1,false),(1,1,false),(2,1,false),(3,1,false),(4,1,false)],size:=5,bytes:=56,zero:=[.dat (.int .i64 0),.dat (.int .i64 0),.dat (.int .i64 0),.nil,.dat (.bool false)],sl:=[none,none,none,some (5,1),none] }:=by kernel_rfl
theorem aFJ:fS prog 144=some { k:=.struct [(0,1,false),(1,1,false),(2,1,false),(3,1,false)],size:=4,bytes:=32,zero:=[.dat (.str ⟨#[]⟩),.dat (.int .i64 0),.dat (.bool false),.dat (.bool false)],cmp:=[.str,.int,.bool,.bool] }:=by kernel_rfl
theorem aEr:fS prog 147=some { k:=.struct [(0,1,false),(1,1,false),(2,1,false)],size:=3,bytes:=24,zero:=[.dat (.int .i64 0),.dat (.int .i64 0),.dat (.int .i64 0)],cmp:=[.int,.int,.int] }:=by kernel_rfl
theorem XF:fS prog 149=some { k:=.slice 9,size:=1,bytes:=24,zero:=[.nil],sl:=[some (9,1)] }:=by kernel_rfl
theorem aCU:fS prog 151=some { k:=.struct [(0,1,false),(1,1,false),(2,1,false),(3,1,false)],size:=4,bytes:=56,zero:=[.dat (.str ⟨#[]⟩),.dat (.int .i64 0),.nil,.dat (.bool false)],sl:=[none,none,some (9,1),none] }:=by kernel_rfl
theorem aEp:fS prog 154=some { k:=.slice 266,size:=1,bytes:=24,zero:=[.nil],sl:=[some (266,2)] }:=by kernel_rfl
theorem aEs:fS prog 156=some { k:=.struct [(0,3,true),(3,1,false),(4,1,false)],size:=5,bytes:=96,zero:=[.dat (.str ⟨#[]⟩),.nil,.dat (.int .i64 0),.nil,.nil],sl:=[none,some (320,4),none,some (266,2),some (269,7)] }:=by kernel_rfl
theorem aFC:fS prog 197=some { k:=.struct [(0,1,false),(1,1,false),(2,1,false),(3,1,false)],size:=4,bytes:=40,zero:=[.dat (.int .i64 0),.dat (.int .i64 0),.dat (.int .i64 0),.dat (.str ⟨#[]⟩)],cmp:=[.int,.int,.int,.str] }:=by kernel_rfl
theorem aEi:fS prog 204=some { k:=.struct [(0,1,false),(1,1,false)],size:=2,bytes:=24,zero:=[.dat (.str ⟨#[]⟩),.dat (.int .i64 0)],cmp:=[.str,.int] }:=by kernel_rfl
theorem aEw:fS prog 205=some { k:=.slice 322,size:=1,bytes:=24,zero:=[.nil],sl:=[some (322,2)] }:=by kernel_rfl
theorem aCL:fS prog 207=some { k:=.struct [(0,1,false)],size:=1,bytes:=24,zero:=[.nil],sl:=[some (322,2)] }:=by kernel_rfl
theorem aCa:fS prog 216=some { k:=.struct [(0,1,false),(1,1,false),(2,1,false)],size:=3,bytes:=32,zero:=[.dat (.int .i64 0),.dat (.int .i64 0),.dat (.str ⟨#[]⟩)],cmp:=[.int,.int,.str] }:=by kernel_rfl
theorem R6:fS prog 219=some { k:=.struct [(0,1,false),(1,1,false),(2,3,true),(5,1,true),(6,1,false)],size:=7,bytes:=96,zero:=[.dat (.int .i64 0),.dat (.str ⟨#[]⟩),.dat (.int .i64 0),.dat (.int .i64 0),.dat (.str ⟨#[]⟩),.nil,.dat (.str ⟨#[]⟩)],sl:=[none,none,none,none,none,some (322,2),none] }:=by kernel_rfl
theorem aE7:fS prog 220=some { k:=.slice 219,size:=1,bytes:=24,zero:=[.nil],sl:=[some (219,7)] }:=by kernel_rfl
theorem aE4:fS prog 256=some { k:=.struct [(0,1,false),(1,1,false),(2,1,false)],size:=3,bytes:=40,zero:=[.nil,.dat (.int .i64 0),.dat (.int .i64 0)],sl:=[some (5,1),none,none] }:=by kernel_rfl
theorem aEj:fS prog 266=some { k:=.struct [(0,1,false),(1,1,false)],size:=2,bytes:=16,zero:=[.dat (.int .i64 0),.dat (.int .i64 0)],cmp:=[.int,.int] }:=by kernel_rfl
theorem aFp:fS prog 269=some { k:=.struct [(0,1,false),(1,1,false),(2,3,true),(5,1,false),(6,1,false)],size:=7,bytes:=72,zero:=[.dat (.int .i64 0),.dat (.int .i64 0),.dat (.int .i64 0),.dat (.int .i64 0),.dat (.str ⟨#[]⟩),.dat (.str ⟨#[]⟩),.dat (.int .i64 0)],cmp:=[.int,.int,.int,.int,.str,.str,.int] }:=by kernel_rfl
theorem Up:fS prog 275=some { k:=.slice 279,size:=1,bytes:=24,zero:=[.nil],sl:=[some (279,7)] }:=by kernel_rfl
theorem Ld:fS prog 277=some { k:=.struct [(0,1,false),(1,1,false)],size:=2,bytes:=32,zero:=[.dat (.int .i64 0),.nil],sl:=[none,some (279,7)] }:=by kernel_rfl
theorem TY:fS prog 279=some { k:=.struct [(0,1,false),(1,1,false),(2,5,true)],size:=7,bytes:=88,zero:=[.dat (.str ⟨#[]⟩),.dat (.str ⟨#[]⟩),.dat (.int .i64 0),.dat (.int .i64 0),.dat (.int .i64 0),.nil,.dat (.bool false)],sl:=[none,none,none,none,none,some (5,1),none] }:=by kernel_rfl
theorem Wn:fS prog 320=some { k:=.struct [(0,3,true),(3,1,true)],size:=4,bytes:=56,zero:=[.dat (.int .i64 0),.dat (.int .i64 0),.dat (.str ⟨#[]⟩),.nil],sl:=[none,none,none,some (322,2)] }:=by kernel_rfl
theorem aFL:fS prog 322=some { k:=.struct [(0,1,false),(1,1,false)],size:=2,bytes:=24,zero:=[.dat (.str ⟨#[]⟩),.dat (.int .i64 0)],cmp:=[.str,.int] }:=by kernel_rfl
theorem aE1:fS prog 351=some { k:=.slice 58,size:=1,bytes:=24,zero:=[.nil],sl:=[some (58,1)] }:=by kernel_rfl
theorem Yx:fS prog 382=some { k:=.struct [(0,1,false),(1,1,false)],size:=2,bytes:=32,zero:=[.dat (.str ⟨#[]⟩),.dat (.str ⟨#[]⟩)],cmp:=[.str,.str] }:=by kernel_rfl
theorem JF:fS prog 434=some { k:=.arr 58 4,size:=4,bytes:=96,zero:=[.nil,.nil,.nil,.nil],sl:=[some (5,1),some (5,1),some (5,1),some (5,1)] }:=by kernel_rfl
theorem aFf:fS prog 550=some { k:=.struct [(0,1,false),(1,1,false),(2,3,true),(5,3,true)],size:=8,bytes:=72,zero:=[.dat (.bool false),.dat (.bool false),.dat (.int .i64 0),.dat (.int .i64 0),.dat (.str ⟨#[]⟩),.dat (.int .i64 0),.dat (.int .i64 0),.dat (.str ⟨#[]⟩)],cmp:=[.bool,.bool,.int,.int,.str,.int,.int,.str] }:=by kernel_rfl
theorem aFU:fS prog 609=some { k:=.struct [(0,1,false),(1,1,false),(2,1,false)],size:=3,bytes:=40,zero:=[.dat (.int .i64 0),.dat (.str ⟨#[]⟩),.dat (.str ⟨#[]⟩)],cmp:=[.int,.str,.str] }:=by kernel_rfl
abbrev Sc:=kU prog
def M.Ask.rs(r:M.Ask):List RC:=[.ro (.int .i64 r.aLn),.ro (.int .i64 r.R),.ro (.int .i64 r.N),.ro (.str r.aLu),.ro (.int .i64 r.Value)]
def M.Bucket.ra(r:M.Bucket):List RC:=[.ro (.str r.aLa),.ro (.str r.Top),.ro (.str r.aLU.aLa),.ro (.int .i64 r.aLU.aL0),.ro (.int .i64 r.aLU.aL6),.ro (.int .i64 r.aLU.aMA),.any (.sl (List.map M.aLi.en r.aLW.aLW)),.ro (.str r.bP.aLq.Name),.ro (.int .i64 r.bP.aLq.aLT),.any (.sl (List.map M.aE.en r.bP.aLq.aLc)),.any (.sl (List.map M.aU.en r.bP.aLq.aLm)),.any (.sl (List.map enB r.bP.Log)),.ro (.int .i64 r.bP.aL5),.ro (.str r.aG.aLq.Name),.any (.sl (List.map M.aLo.en r.aG.aLq.aLV)),.ro (.int .i64 r.aG.aLq.aLx),.ro (.int .i64 r.aG.aMG),.ro (.int .i64 r.aG.aLs.aN.aLZ),.ro (.int .i64 r.aG.aLs.aN.aL2),.any (.sl (List.map M.bR.en r.aG.aLs.aN.aLl)),.ro (.int .i64 r.aG.aLs.aL7),.ro (.int .i64 r.aG.aLs.aLw),.ro (.int .i64 r.aL1),.ro (.bool r.aLy)]
def M.Bucket.rs(r:M.Bucket):List RC:=[.ro (.str r.aLa),.ro (.str r.Top),.ro (.str r.aLU.aLa),.ro (.int .i64 r.aLU.aL0),.ro (.int .i64 r.aLU.aL6),.ro (.int .i64 r.aLU.aMA),.own 277 2 (List.map M.aLi.en r.aLW.aLW),.ro (.str r.bP.aLq.Name),.ro (.int .i64 r.bP.aLq.aLT),.own 75 3 (List.map M.aE.en r.bP.aLq.aLc),.own 382 2 (List.map M.aU.en r.bP.aLq.aLm),.own 5 1 (List.map enB r.bP.Log),.ro (.int .i64 r.bP.aL5),.ro (.str r.aG.aLq.Name),.own 320 4 (List.map M.aLo.en r.aG.aLq.aLV),.ro (.int .i64 r.aG.aLq.aLx),.ro (.int .i64 r.aG.aMG),.ro (.int .i64 r.aG.aLs.aN.aLZ),.ro (.int .i64 r.aG.aLs.aN.aL2),.own 269 7 (List.map M.bR.en r.aG.aLs.aN.aLl),.ro (.int .i64 r.aG.aLs.aL7),.ro (.int .i64 r.aG.aLs.aLw),.ro (.int .i64 r.aL1),.ro (.bool r.aLy)]
def M.aLi.rs(r:M.aLi):List RC:=[.ro (.int .i64 r.aLT),.own 279 7 (List.map M.aLr.en r.aLg)]
def M.aJ.rs(r:M.aJ):List RC:=[.own 277 2 (List.map M.aLi.en r.aLW)]
def M.aLe.rs(r:M.aLe):List RC:=[.own 147 3 (List.map M.Fy.en r.aL8)]
def M.aLS.ra(r:M.aLS):List RC:=[.ro (.str r.Name),.ro (.int .i64 r.aLT),.any (.sl (List.map M.aE.en r.aLc)),.any (.sl (List.map M.aU.en r.aLm))]
def M.aLS.rs(r:M.aLS):List RC:=[.ro (.str r.Name),.ro (.int .i64 r.aLT),.own 75 3 (List.map M.aE.en r.aLc),.own 382 2 (List.map M.aU.en r.aLm)]
def M.bP.rs(r:M.bP):List RC:=[.ro (.str r.aLq.Name),.ro (.int .i64 r.aLq.aLT),.own 75 3 (List.map M.aE.en r.aLq.aLc),.own 382 2 (List.map M.aU.en r.aLq.aLm),.own 5 1 (List.map enB r.Log),.ro (.int .i64 r.aL5)]
def M.aZ.rs(r:M.aZ):List RC:=[.ro (.int .i64 r.aLn),.ro (.int .i64 r.R),.ro (.int .i64 r.N),.ro (.str r.aLu)]
def M.aLo.rs(r:M.aLo):List RC:=[.ro (.int .i64 r.Key.aLn),.ro (.int .i64 r.Key.N),.ro (.str r.Key.aLu),.own 322 2 (List.map M.aR.en r.aF.aLY)]
def M.bD.rs(r:M.bD):List RC:=[.ro (.int .i64 r.aLn),.ro (.int .i64 r.N),.ro (.str r.aLu)]
def M.aT.rs(r:M.aT):List RC:=[.own 144 4 (List.map M.uY.en r.aLk)]
def M.aLX.rs(r:M.aLX):List RC:=[.own 197 4 (List.map M.aZ.en r.aLz),.ro (.int .i64 r.Pc),.own 3 1 (List.map enI r.aMC),.ro (.int .i64 r.aME),.ro (.bool r.aMJ),.ro (.bool r.aMI)]
def M.gN.rs(r:M.gN):List RC:=[.ro (.int .i64 r.aLn),.ro (.str r.aE),.ro (.int .i64 r.Key.aLn),.ro (.int .i64 r.Key.N),.ro (.str r.Key.aLu),.own 322 2 (List.map M.aR.en r.aF.aLY),.ro (.str r.Field)]
def M.aN.rs(r:M.aN):List RC:=[.ro (.int .i64 r.aLZ),.ro (.int .i64 r.aL2),.own 269 7 (List.map M.bR.en r.aLl)]
def M.bO.rs(r:M.bO):List RC:=[.ro (.int .i64 r.Id),.ro (.str r.aLa),.ro (.str r.Top),.ro (.int .i64 r.aLT),.own 204 2 (List.map M.aW.en r.aW),.own 197 4 (List.map M.aZ.en r.aLX.aLz),.ro (.int .i64 r.aLX.Pc),.own 3 1 (List.map enI r.aLX.aMC),.ro (.int .i64 r.aLX.aME),.ro (.bool r.aLX.aMJ),.ro (.bool r.aLX.aMI)]
def M.aF.ra(r:M.aF):List RC:=[.any (.sl (List.map M.aR.en r.aLY))]
def M.aF.rs(r:M.aF):List RC:=[.own 322 2 (List.map M.aR.en r.aLY)]
def M.aG.rs(r:M.aG):List RC:=[.ro (.str r.aLq.Name),.own 320 4 (List.map M.aLo.en r.aLq.aLV),.ro (.int .i64 r.aLq.aLx),.ro (.int .i64 r.aMG),.ro (.int .i64 r.aLs.aN.aLZ),.ro (.int .i64 r.aLs.aN.aL2),.own 269 7 (List.map M.bR.en r.aLs.aN.aLl),.ro (.int .i64 r.aLs.aL7),.ro (.int .i64 r.aLs.aLw)]
def M.aLb.rs(r:M.aLb):List RC:=[.ro (.int .i64 r.aMM),.ro (.int .i64 r.aMD),.ro (.int .i64 r.aLT),.own 5 1 (List.map enB r.aMN),.ro (.bool r.aMP)]
def M.aLj.rs(r:M.aLj):List RC:=[.ro (.str r.aE.Name),.own 320 4 (List.map M.aLo.en r.aE.aLV),.ro (.int .i64 r.aE.aLx),.own 266 2 (List.map M.aQ.en r.aQ),.own 269 7 (List.map M.bR.en r.aLv)]
def M.aLa.ra(r:M.aLa):List RC:=[.ro (.str r.Name),.ro (.int .i64 r.aLT),.any (.sl (List.map enS r.aL4)),.ro (.bool r.aL9)]
def M.aLa.rs(r:M.aLa):List RC:=[.ro (.str r.Name),.ro (.int .i64 r.aLT),.own 9 1 (List.map enS r.aL4),.ro (.bool r.aL9)]
def M.aC.rs(r:M.aC):List RC:=[.own 84 24 (List.map M.Bucket.en r.Buckets)]
def M.aE.ra(r:M.aE):List RC:=[.ro (.str r.Name),.any (.sl (List.map M.aLo.en r.aLV)),.ro (.int .i64 r.aLx)]
def M.aE.rs(r:M.aE):List RC:=[.ro (.str r.Name),.own 320 4 (List.map M.aLo.en r.aLV),.ro (.int .i64 r.aLx)]
def M.aLs.rs(r:M.aLs):List RC:=[.ro (.int .i64 r.aN.aLZ),.ro (.int .i64 r.aN.aL2),.own 269 7 (List.map M.bR.en r.aN.aLl),.ro (.int .i64 r.aL7),.ro (.int .i64 r.aLw)]
def M.aD.rs(r:M.aD):List RC:=[.ro (.int .i64 r.Now),.ro (.bool r.aLt),.ro (.int .i64 r.aLZ),.own 84 24 (List.map M.Bucket.en r.aC.Buckets),.own 91 11 (List.map M.bO.en r.aLf),.ro (.int .i64 r.aLd),.own 144 4 (List.map M.uY.en r.aLk.aLk),.own 147 3 (List.map M.Fy.en r.aLe.aL8),.own 151 4 (List.map M.aLa.en r.aLp),.own 156 5 (List.map M.aLj.en r.aLh)]
def M.bR.rs(r:M.bR):List RC:=[.ro (.int .i64 r.aLZ),.ro (.int .i64 r.Seq),.ro (.int .i64 r.Key.aLn),.ro (.int .i64 r.Key.N),.ro (.str r.Key.aLu),.ro (.str r.Field),.ro (.int .i64 r.N)]
def Vo:FQ:=oB 50 [cI 0,cB false,cI 0,.nil,.nil,cI 0,.nil,.nil,.nil,.nil]
def WI:FQ:=oB 70 [cS (⟨#[]⟩:ByteArray),cI 0,.nil,.nil]
def aKD:FQ:=oB 72 [cS (⟨#[]⟩:ByteArray),cI 0,.nil,.nil,.nil,cI 0]
def aKm:FQ:=oB 80 [cI 0,cI 0,.nil,cI 0,cI 0]
def aF5:FQ:=oB 82 [cS (⟨#[]⟩:ByteArray),.nil,cI 0,cI 0,cI 0,cI 0,.nil,cI 0,cI 0]
def aFG:FQ:=oB 84 [cS (⟨#[]⟩:ByteArray),cS (⟨#[]⟩:ByteArray),cS (⟨#[]⟩:ByteArray),cI 0,cI 0,cI 0,.nil,cS (⟨#[]⟩:ByteArray),cI 0,.nil,.nil,.nil,cI 0,cS (⟨#[]⟩:ByteArray),.nil,cI 0,cI 0,cI 0,cI 0,.nil,cI 0,cI 0,cI 0,cB false]
def aFn:FQ:=oB 89 [.nil,cI 0,.nil,cI 0,cB false,cB false]
def aFA:FQ:=oB 91 [cI 0,cS (⟨#[]⟩:ByteArray),cS (⟨#[]⟩:ByteArray),cI 0,.nil,.nil,cI 0,.nil,cI 0,cB false,cB false]
def aC4:FQ:=oB 102 [cI 0,cI 0,cI 0,cS (⟨#[]⟩:ByteArray),cI 0]
def aEq:FQ:=oB 107 [cI 0,cI 0,cI 0,.nil,cB false]
def Z5:FQ:=oB 156 [cS (⟨#[]⟩:ByteArray),.nil,cI 0,.nil,.nil]
def aFV:FQ:=oB 197 [cI 0,cI 0,cI 0,cS (⟨#[]⟩:ByteArray)]
def aFM:FQ:=oB 219 [cI 0,cS (⟨#[]⟩:ByteArray),cI 0,cI 0,cS (⟨#[]⟩:ByteArray),.nil,cS (⟨#[]⟩:ByteArray)]
def aFO:FQ:=oB 269 [cI 0,cI 0,cI 0,cI 0,cS (⟨#[]⟩:ByteArray),cS (⟨#[]⟩:ByteArray),cI 0]
def aDm:FQ:=oB 434 [.nil,.nil,.nil,.nil]
def aJv:=PLift.up (qI ti3 (qI ti4 (qI ti5 (qI ti9 (qI aKd (qI aLL (qI aBc (qI aLH (qI aK9 (qI aKw (qI aLP (qI aFB (qI aKU (qI Ir (qI QH (qI aKQ (qI ZF (qI SN (qI aCJ (qI aDo (qI XS (qI aKM (qI ZN (qI WW (qI aKx (qI aKa (qI aK1 (qI aDK (qI QB (qI aKW (qI aKh (qI aEf (qI aKs (qI aBN (qI aFa (qI aFo (qI aFJ (qI aEr (qI XF (qI aCU (qI aEp (qI aEs (qI aFC (qI aEi (qI aEw (qI aCL (qI aCa (qI R6 (qI aE7 (qI aE4 (qI aEj (qI aFp (qI Up (qI Ld (qI TY (qI Wn (qI aFL (qI aE1 (qI Yx (qI JF (qI aFf aFU)))))))))))))))))))))))))))))))))))))))))))))))))))))))))))))
theorem TB:type_of% aJv.down:=aJv.down
def aIT:=PLift.up (qI @enI.eq_1 (qI @enB.eq_1 (qI @enS.eq_1 (qI @enT.eq_1 (qI @enL.eq_1 (qI @enI.fl (qI @enB.fl (qI @enS.fl (qI @enT.fl (qI @Zr (qI @Lc (qI @Jm (qI @aI.eq_1 (qI @aB.eq_1 (qI @aS.eq_1 (qI @aL.eq_1 (qI @aX.eq_1 (qI @cI.eq_1 (qI @cB.eq_1 (qI @cS.eq_1 (qI @cL.eq_1 (qI @vI.eq_1 (qI @vB.eq_1 (qI @vS.eq_1 (qI @vL.eq_1 (qI @vR.eq_1 (qI @vP.eq_1 (qI @oX.eq_1 (qI @oB.eq_1 (qI @oW.eq_1 (qI @rI.eq_1 (qI @rB.eq_1 (qI @rS.eq_1 (qI @rW.eq_1 (qI @M.Ask.rs.eq_1 (qI @M.Bucket.ra.eq_1 (qI @M.Bucket.rs.eq_1 (qI @M.aLi.rs.eq_1 (qI @M.aJ.rs.eq_1 (qI @M.aLe.rs.eq_1 (qI @M.aLS.ra.eq_1 (qI @M.aLS.rs.eq_1 (qI @M.bP.rs.eq_1 (qI @M.aZ.rs.eq_1 (qI @M.aLo.rs.eq_1 (qI @M.bD.rs.eq_1 (qI @M.aT.rs.eq_1 (qI @M.aLX.rs.eq_1 (qI @M.gN.rs.eq_1 (qI @M.aN.rs.eq_1 (qI @M.bO.rs.eq_1 (qI @M.aF.ra.eq_1 (qI @M.aF.rs.eq_1 (qI @M.aG.rs.eq_1 (qI @M.aLb.rs.eq_1 (qI @M.aLj.rs.eq_1 (qI @M.aLa.ra.eq_1 (qI @M.aLa.rs.eq_1 (qI @M.aC.rs.eq_1 (qI @M.aE.ra.eq_1 (qI @M.aE.rs.eq_1 (qI @M.aLs.rs.eq_1 (qI @M.aD.rs.eq_1 (qI @M.bR.rs.eq_1 (qI @Vo.eq_1 (qI @WI.eq_1 (qI @aKD.eq_1 (qI @aKm.eq_1 (qI @aF5.eq_1 (qI @aFG.eq_1 (qI @aFn.eq_1 (qI @aFA.eq_1 (qI @aC4.eq_1 (qI @aEq.eq_1 (qI @Z5.eq_1 (qI @aFV.eq_1 (qI @aFM.eq_1 (qI @aFO.eq_1 (qI @aDm.eq_1 (qI @M.bI.en.eq_1 (qI @M.aLU.en.eq_1 (qI @M.aLU.en.fl (qI @M.aLb.en.eq_1 (qI @M.aLr.en.eq_1 (qI @M.aLi.en.eq_1 (qI @M.aJ.en.eq_1 (qI @M.bD.en.eq_1 (qI @M.bD.en.fl (qI @M.aR.en.eq_1 (qI @M.aR.en.fl (qI @M.aF.en.eq_1 (qI @M.aLo.en.eq_1 (qI @M.aE.en.eq_1 (qI @M.aU.en.eq_1 (qI @M.aU.en.fl (qI @M.aLS.en.eq_1 (qI @M.bP.en.eq_1 (qI @M.bR.en.eq_1 (qI @M.bR.en.fl (qI @M.aN.en.eq_1 (qI @M.aLs.en.eq_1 (qI @M.aG.en.eq_1 (qI @M.Bucket.en.eq_1 (qI @M.aC.en.eq_1 (qI @M.aW.en.eq_1 (qI @M.aW.en.fl (qI @M.aZ.en.eq_1 (qI @M.aZ.en.fl (qI @M.aLX.en.eq_1 (qI @M.bO.en.eq_1 (qI @M.uY.en.eq_1 (qI @M.uY.en.fl (qI @M.aT.en.eq_1 (qI @M.Fy.en.eq_1 (qI @M.Fy.en.fl (qI @M.aLe.en.eq_1 (qI @M.aLa.en.eq_1 (qI @M.aQ.en.eq_1 (qI @M.aQ.en.fl (qI @M.aLj.en.eq_1 (qI @M.aD.en.eq_1 (qI @M.Ask.en.eq_1 (qI @M.Ask.en.fl (qI @M.gN.en.eq_1 (qI @M.gE.en.eq_1 (qI @M.gE.en.fl (qI @M.pR.en.eq_1 @M.pR.en.fl)))))))))))))))))))))))))))))))))))))))))))))))))))))))))))))))))))))))))))))))))))))))))))))))))))))))))))))))))))))))))))))))
theorem EN:type_of% aIT.down:=aIT.down
