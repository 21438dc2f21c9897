/-
  Helper text. No conditions.
-/
import Derived.Test.YtidhkhdnjonjfaaGreatBucketsMod
import Derived.Test.YtidhkhdnjonjfaaGreatProg
import Derived.KernelRfl
set_option linter.unusedVariables false
set_option linter.unusedSimpArgs false
namespace Go.Proofs.YtidhkhdnjonjfaaGreat.gen
open Go Go.Sh
theorem mixed:Tryz.prog.follows .mixedOrders=true:=by kernel_rfl
theorem ti3:jF Tryz.prog 3=some { k:=.int .i64,size:=1,bytes:=8,zero:=[.dat (.int .i64 0)] }:=by kernel_rfl
theorem ti4:jF Tryz.prog 4=some { k:=.bool,size:=1,bytes:=1,zero:=[.dat (.bool false)] }:=by kernel_rfl
theorem ti5:jF Tryz.prog 5=some { k:=.int .u8,size:=1,bytes:=1,zero:=[.dat (.int .u8 0)] }:=by kernel_rfl
theorem ti9:jF Tryz.prog 9=some { k:=.str,size:=1,bytes:=16,zero:=[.dat (.str ⟨#[]⟩)] }:=by kernel_rfl
theorem aPm:jF Tryz.prog 22=some { k:=.slice 5,size:=1,bytes:=24,zero:=[.nil],sl:=[some (5,1)] }:=by kernel_rfl
theorem aTp:jF Tryz.prog 25=some { k:=.struct [(0,1,false),(1,1,false),(2,1,false),(3,1,false)],size:=4,bytes:=40,zero:=[.dat (.str ⟨#[]⟩),.dat (.int .i64 0),.dat (.int .i64 0),.dat (.int .i64 0)],cmp:=[.str,.int,.int,.int] }:=by kernel_rfl
theorem aI8:jF Tryz.prog 26=some { k:=.slice 212,size:=1,bytes:=24,zero:=[.nil],sl:=[some (212,2)] }:=by kernel_rfl
theorem uP:jF Tryz.prog 28=some { k:=.struct [(0,1,false)],size:=1,bytes:=24,zero:=[.nil],sl:=[some (212,2)] }:=by kernel_rfl
theorem aOi:jF Tryz.prog 29=some { k:=.slice 37,size:=1,bytes:=24,zero:=[.nil],sl:=[some (37,3)] }:=by kernel_rfl
theorem aPa:jF Tryz.prog 30=some { k:=.slice 239,size:=1,bytes:=24,zero:=[.nil],sl:=[some (239,2)] }:=by kernel_rfl
theorem aLa:jF Tryz.prog 32=some { k:=.struct [(0,1,false),(1,1,false),(2,1,false),(3,1,false)],size:=4,bytes:=72,zero:=[.dat (.str ⟨#[]⟩),.dat (.int .i64 0),.nil,.nil],sl:=[none,none,some (37,3),some (239,2)] }:=by kernel_rfl
theorem aTl:jF Tryz.prog 34=some { k:=.struct [(0,4,true),(4,1,false),(5,1,false)],size:=6,bytes:=104,zero:=[.dat (.str ⟨#[]⟩),.dat (.int .i64 0),.nil,.nil,.nil,.dat (.int .i64 0)],sl:=[none,none,some (37,3),some (239,2),some (5,1),none] }:=by kernel_rfl
theorem aTh:jF Tryz.prog 35=some { k:=.slice 227,size:=1,bytes:=24,zero:=[.nil],sl:=[some (227,4)] }:=by kernel_rfl
theorem aOC:jF Tryz.prog 37=some { k:=.struct [(0,1,false),(1,1,false),(2,1,false)],size:=3,bytes:=48,zero:=[.dat (.str ⟨#[]⟩),.nil,.dat (.int .i64 0)],sl:=[none,some (227,4),none] }:=by kernel_rfl
theorem aTr:jF Tryz.prog 38=some { k:=.slice 359,size:=1,bytes:=24,zero:=[.nil],sl:=[some (359,7)] }:=by kernel_rfl
theorem aTj:jF Tryz.prog 40=some { k:=.struct [(0,1,false),(1,1,false),(2,1,false)],size:=3,bytes:=40,zero:=[.dat (.int .i64 0),.dat (.int .i64 0),.nil],sl:=[none,none,some (359,7)] }:=by kernel_rfl
theorem aTk:jF Tryz.prog 42=some { k:=.struct [(0,3,true),(3,1,false),(4,1,false)],size:=5,bytes:=56,zero:=[.dat (.int .i64 0),.dat (.int .i64 0),.nil,.dat (.int .i64 0),.dat (.int .i64 0)],sl:=[none,none,some (359,7),none,none] }:=by kernel_rfl
theorem aO1:jF Tryz.prog 44=some { k:=.struct [(0,3,true),(3,1,false),(4,5,true)],size:=9,bytes:=112,zero:=[.dat (.str ⟨#[]⟩),.nil,.dat (.int .i64 0),.dat (.int .i64 0),.dat (.int .i64 0),.dat (.int .i64 0),.nil,.dat (.int .i64 0),.dat (.int .i64 0)],sl:=[none,some (227,4),none,none,none,none,some (359,7),none,none] }:=by kernel_rfl
theorem aAO:jF Tryz.prog 46=some { k:=.struct [(0,1,false),(1,1,false),(2,4,true),(6,1,true),(7,6,true),(13,9,true),(22,1,false),(23,1,false)],size:=24,bytes:=328,zero:=[.dat (.str ⟨#[]⟩),.dat (.str ⟨#[]⟩),.dat (.str ⟨#[]⟩),.dat (.int .i64 0),.dat (.int .i64 0),.dat (.int .i64 0),.nil,.dat (.str ⟨#[]⟩),.dat (.int .i64 0),.nil,.nil,.nil,.dat (.int .i64 0),.dat (.str ⟨#[]⟩),.nil,.dat (.int .i64 0),.dat (.int .i64 0),.dat (.int .i64 0),.dat (.int .i64 0),.nil,.dat (.int .i64 0),.dat (.int .i64 0),.dat (.int .i64 0),.dat (.bool false)],sl:=[none,none,none,none,none,none,some (212,2),none,none,some (37,3),some (239,2),some (5,1),none,none,some (227,4),none,none,none,none,some (359,7),none,none,none,none] }:=by kernel_rfl
theorem aPq:jF Tryz.prog 75=some { k:=.slice 3,size:=1,bytes:=24,zero:=[.nil],sl:=[some (3,1)] }:=by kernel_rfl
theorem aQh:jF Tryz.prog 146=some { k:=.slice 267,size:=1,bytes:=24,zero:=[.nil],sl:=[some (267,2)] }:=by kernel_rfl
theorem aQz:jF Tryz.prog 148=some { k:=.struct [(0,1,false)],size:=1,bytes:=24,zero:=[.nil],sl:=[some (267,2)] }:=by kernel_rfl
theorem aLk:jF Tryz.prog 178=some { k:=.slice 9,size:=1,bytes:=24,zero:=[.nil],sl:=[some (9,1)] }:=by kernel_rfl
theorem aQD:jF Tryz.prog 199=some { k:=.struct [(0,1,false),(1,1,false),(2,1,false)],size:=3,bytes:=40,zero:=[.nil,.dat (.int .i64 0),.dat (.int .i64 0)],sl:=[some (5,1),none,none] }:=by kernel_rfl
theorem aGg:jF Tryz.prog 210=some { k:=.slice 221,size:=1,bytes:=24,zero:=[.nil],sl:=[some (221,7)] }:=by kernel_rfl
theorem aA0:jF Tryz.prog 212=some { k:=.struct [(0,1,false),(1,1,false)],size:=2,bytes:=32,zero:=[.dat (.int .i64 0),.nil],sl:=[none,some (221,7)] }:=by kernel_rfl
theorem aOx:jF Tryz.prog 219=some { k:=.struct [(0,1,false),(1,1,false),(2,1,false),(3,1,false),(4,1,false)],size:=5,bytes:=56,zero:=[.dat (.int .i64 0),.dat (.int .i64 0),.dat (.int .i64 0),.nil,.dat (.bool false)],sl:=[none,none,none,some (5,1),none] }:=by kernel_rfl
theorem aE6:jF Tryz.prog 221=some { k:=.struct [(0,1,false),(1,1,false),(2,5,true)],size:=7,bytes:=88,zero:=[.dat (.str ⟨#[]⟩),.dat (.str ⟨#[]⟩),.dat (.int .i64 0),.dat (.int .i64 0),.dat (.int .i64 0),.nil,.dat (.bool false)],sl:=[none,none,none,none,none,some (5,1),none] }:=by kernel_rfl
theorem aP6:jF Tryz.prog 225=some { k:=.struct [(0,1,false),(1,1,false),(2,1,false)],size:=3,bytes:=32,zero:=[.dat (.int .i64 0),.dat (.int .i64 0),.dat (.str ⟨#[]⟩)],cmp:=[.int,.int,.str] }:=by kernel_rfl
theorem aQ0:jF Tryz.prog 227=some { k:=.struct [(0,3,true),(3,1,true)],size:=4,bytes:=56,zero:=[.dat (.int .i64 0),.dat (.int .i64 0),.dat (.str ⟨#[]⟩),.nil],sl:=[none,none,none,some (267,2)] }:=by kernel_rfl
theorem aLu:jF Tryz.prog 239=some { k:=.struct [(0,1,false),(1,1,false)],size:=2,bytes:=32,zero:=[.dat (.str ⟨#[]⟩),.dat (.str ⟨#[]⟩)],cmp:=[.str,.str] }:=by kernel_rfl
theorem aQW:jF Tryz.prog 267=some { k:=.struct [(0,1,false),(1,1,false)],size:=2,bytes:=24,zero:=[.dat (.str ⟨#[]⟩),.dat (.int .i64 0)],cmp:=[.str,.int] }:=by kernel_rfl
theorem aQo:jF Tryz.prog 272=some { k:=.slice 431,size:=1,bytes:=24,zero:=[.nil],sl:=[some (431,2)] }:=by kernel_rfl
theorem aP0:jF Tryz.prog 274=some { k:=.struct [(0,3,true),(3,1,false),(4,1,false)],size:=5,bytes:=96,zero:=[.dat (.str ⟨#[]⟩),.nil,.dat (.int .i64 0),.nil,.nil],sl:=[none,some (227,4),none,some (431,2),some (359,7)] }:=by kernel_rfl
theorem aQn:jF Tryz.prog 280=some { k:=.slice 22,size:=1,bytes:=24,zero:=[.nil],sl:=[some (22,1)] }:=by kernel_rfl
theorem aQA:jF Tryz.prog 283=some { k:=.slice 332,size:=1,bytes:=24,zero:=[.nil],sl:=[some (332,7)] }:=by kernel_rfl
theorem aP4:jF Tryz.prog 332=some { k:=.struct [(0,1,false),(1,1,false),(2,3,true),(5,1,true),(6,1,false)],size:=7,bytes:=96,zero:=[.dat (.int .i64 0),.dat (.str ⟨#[]⟩),.dat (.int .i64 0),.dat (.int .i64 0),.dat (.str ⟨#[]⟩),.nil,.dat (.str ⟨#[]⟩)],sl:=[none,none,none,none,none,some (267,2),none] }:=by kernel_rfl
theorem aQK:jF Tryz.prog 359=some { k:=.struct [(0,1,false),(1,1,false),(2,3,true),(5,1,false),(6,1,false)],size:=7,bytes:=72,zero:=[.dat (.int .i64 0),.dat (.int .i64 0),.dat (.int .i64 0),.dat (.int .i64 0),.dat (.str ⟨#[]⟩),.dat (.str ⟨#[]⟩),.dat (.int .i64 0)],cmp:=[.int,.int,.int,.int,.str,.str,.int] }:=by kernel_rfl
theorem aP5:jF Tryz.prog 431=some { k:=.struct [(0,1,false),(1,1,false)],size:=2,bytes:=16,zero:=[.dat (.int .i64 0),.dat (.int .i64 0)],cmp:=[.int,.int] }:=by kernel_rfl
theorem aPw:jF Tryz.prog 469=some { k:=.struct [(0,1,false),(1,1,false),(2,1,false)],size:=3,bytes:=40,zero:=[.dat (.int .i64 0),.dat (.str ⟨#[]⟩),.dat (.str ⟨#[]⟩)],cmp:=[.int,.str,.str] }:=by kernel_rfl
theorem aQk:jF Tryz.prog 547=some { k:=.struct [(0,1,false),(1,1,false),(2,3,true),(5,3,true)],size:=8,bytes:=72,zero:=[.dat (.bool false),.dat (.bool false),.dat (.int .i64 0),.dat (.int .i64 0),.dat (.str ⟨#[]⟩),.dat (.int .i64 0),.dat (.int .i64 0),.dat (.str ⟨#[]⟩)],cmp:=[.bool,.bool,.int,.int,.str,.int,.int,.str] }:=by kernel_rfl
abbrev Sc:=jJ Tryz.prog
def M.Bucket.rs (r:M.Bucket):List RC:=[.ro (.str r.Site),.ro (.str r.Top),.ro (.str r.Registration.Site),.ro (.int .i64 r.Registration.Installing),.ro (.int .i64 r.Registration.Waiting),.ro (.int .i64 r.Registration.Active),.own 212 2 (List.map M.Cache.en r.Caches.Caches),.ro (.str r.bF.Base.Name),.ro (.int .i64 r.bF.Base.Version),.own 37 3 (List.map M.aA.en r.bF.Base.Stores),.own 239 2 (List.map M.aH.en r.bF.Base.Unique),.own 5 1 (List.map enB r.bF.Log),.ro (.int .i64 r.bF.Count),.ro (.str r.aD.Base.Name),.own 227 4 (List.map M.Item.en r.aD.Base.Items),.ro (.int .i64 r.aD.Base.Auto),.ro (.int .i64 r.aD.Seen),.ro (.int .i64 r.aD.Sync.aG.Device),.ro (.int .i64 r.aD.Sync.aG.Next),.own 359 7 (List.map M.aT.en r.aD.Sync.aG.Writes),.ro (.int .i64 r.aD.Sync.Tries),.ro (.int .i64 r.aD.Sync.WaitUntil),.ro (.int .i64 r.LastUsed),.ro (.bool r.Persistent)]
def M.Cache.rs (r:M.Cache):List RC:=[.ro (.int .i64 r.Version),.own 221 7 (List.map M.Cached.en r.Entries)]
def M.aE.rs (r:M.aE):List RC:=[.own 212 2 (List.map M.Cache.en r.Caches)]
def M.Database.rs (r:M.Database):List RC:=[.ro (.str r.Name),.ro (.int .i64 r.Version),.own 37 3 (List.map M.aA.en r.Stores),.own 239 2 (List.map M.aH.en r.Unique)]
def M.bF.rs (r:M.bF):List RC:=[.ro (.str r.Base.Name),.ro (.int .i64 r.Base.Version),.own 37 3 (List.map M.aA.en r.Base.Stores),.own 239 2 (List.map M.aH.en r.Base.Unique),.own 5 1 (List.map enB r.Log),.ro (.int .i64 r.Count)]
def M.Item.rs (r:M.Item):List RC:=[.ro (.int .i64 r.Key.Kind),.ro (.int .i64 r.Key.N),.ro (.str r.Key.Text),.own 267 2 (List.map M.Field.en r.aC.Fields)]
def M.Key.rs (r:M.Key):List RC:=[.ro (.int .i64 r.Kind),.ro (.int .i64 r.N),.ro (.str r.Text)]
def M.Op.rs (r:M.Op):List RC:=[.ro (.int .i64 r.Kind),.ro (.str r.aA),.ro (.int .i64 r.Key.Kind),.ro (.int .i64 r.Key.N),.ro (.str r.Key.Text),.own 267 2 (List.map M.Field.en r.aC.Fields),.ro (.str r.Field)]
def M.aG.rs (r:M.aG):List RC:=[.ro (.int .i64 r.Device),.ro (.int .i64 r.Next),.own 359 7 (List.map M.aT.en r.Writes)]
def M.aC.rs (r:M.aC):List RC:=[.own 267 2 (List.map M.Field.en r.Fields)]
def M.Registration.rs (r:M.Registration):List RC:=[.ro (.str r.Site),.ro (.int .i64 r.Installing),.ro (.int .i64 r.Waiting),.ro (.int .i64 r.Active)]
def M.aD.rs (r:M.aD):List RC:=[.ro (.str r.Base.Name),.own 227 4 (List.map M.Item.en r.Base.Items),.ro (.int .i64 r.Base.Auto),.ro (.int .i64 r.Seen),.ro (.int .i64 r.Sync.aG.Device),.ro (.int .i64 r.Sync.aG.Next),.own 359 7 (List.map M.aT.en r.Sync.aG.Writes),.ro (.int .i64 r.Sync.Tries),.ro (.int .i64 r.Sync.WaitUntil)]
def M.Response.rs (r:M.Response):List RC:=[.ro (.int .i64 r.Type_),.ro (.int .i64 r.Status),.ro (.int .i64 r.Version),.own 5 1 (List.map enB r.Body),.ro (.bool r.Shares)]
def M.Server.rs (r:M.Server):List RC:=[.ro (.str r.aA.Name),.own 227 4 (List.map M.Item.en r.aA.Items),.ro (.int .i64 r.aA.Auto),.own 431 2 (List.map M.aP.en r.aP),.own 359 7 (List.map M.aT.en r.Changes)]
def M.aA.rs (r:M.aA):List RC:=[.ro (.str r.Name),.own 227 4 (List.map M.Item.en r.Items),.ro (.int .i64 r.Auto)]
def M.Sync.rs (r:M.Sync):List RC:=[.ro (.int .i64 r.aG.Device),.ro (.int .i64 r.aG.Next),.own 359 7 (List.map M.aT.en r.aG.Writes),.ro (.int .i64 r.Tries),.ro (.int .i64 r.WaitUntil)]
def M.aT.rs (r:M.aT):List RC:=[.ro (.int .i64 r.Device),.ro (.int .i64 r.Seq),.ro (.int .i64 r.Key.Kind),.ro (.int .i64 r.Key.N),.ro (.str r.Key.Text),.ro (.str r.Field),.ro (.int .i64 r.N)]
def aJw:yK:=oB 25 [cS (⟨#[]⟩:ByteArray),cI 0,cI 0,cI 0]
def aEy:yK:=oB 32 [cS (⟨#[]⟩:ByteArray),cI 0,.nil,.nil]
def aRv:yK:=oB 34 [cS (⟨#[]⟩:ByteArray),cI 0,.nil,.nil,.nil,cI 0]
def aTi:yK:=oB 42 [cI 0,cI 0,.nil,cI 0,cI 0]
def aRH:yK:=oB 44 [cS (⟨#[]⟩:ByteArray),.nil,cI 0,cI 0,cI 0,cI 0,.nil,cI 0,cI 0]
def aHk:yK:=oB 46 [cS (⟨#[]⟩:ByteArray),cS (⟨#[]⟩:ByteArray),cS (⟨#[]⟩:ByteArray),cI 0,cI 0,cI 0,.nil,cS (⟨#[]⟩:ByteArray),cI 0,.nil,.nil,.nil,cI 0,cS (⟨#[]⟩:ByteArray),.nil,cI 0,cI 0,cI 0,cI 0,.nil,cI 0,cI 0,cI 0,cB false]
def aQR:yK:=oB 219 [cI 0,cI 0,cI 0,.nil,cB false]
def aOf:yK:=oB 274 [cS (⟨#[]⟩:ByteArray),.nil,cI 0,.nil,.nil]
def aQa:yK:=oB 332 [cI 0,cS (⟨#[]⟩:ByteArray),cI 0,cI 0,cS (⟨#[]⟩:ByteArray),.nil,cS (⟨#[]⟩:ByteArray)]
def aTS:=PLift.up (qI ti3 (qI ti4 (qI ti5 (qI ti9 (qI aPm (qI aTp (qI aI8 (qI uP (qI aOi (qI aPa (qI aLa (qI aTl (qI aTh (qI aOC (qI aTr (qI aTj (qI aTk (qI aO1 (qI aAO (qI aPq (qI aQh (qI aQz (qI aLk (qI aQD (qI aGg (qI aA0 (qI aOx (qI aE6 (qI aP6 (qI aQ0 (qI aLu (qI aQW (qI aQo (qI aP0 (qI aQn (qI aQA (qI aP4 (qI aQK (qI aP5 (qI aPw aQk))))))))))))))))))))))))))))))))))))))))
theorem TB:type_of% aTS.down:=aTS.down
def aSS:=PLift.up (qI @enI.eq_1 (qI @enB.eq_1 (qI @enS.eq_1 (qI @enT.eq_1 (qI @enL.eq_1 (qI @enI.fl (qI @enB.fl (qI @enS.fl (qI @enT.fl (qI @aL1 (qI @aMO (qI @aKp (qI @aI.eq_1 (qI @aB.eq_1 (qI @aS.eq_1 (qI @aL.eq_1 (qI @aX.eq_1 (qI @cI.eq_1 (qI @cB.eq_1 (qI @cS.eq_1 (qI @cL.eq_1 (qI @vI.eq_1 (qI @vB.eq_1 (qI @vS.eq_1 (qI @vL.eq_1 (qI @vR.eq_1 (qI @vP.eq_1 (qI @oX.eq_1 (qI @oB.eq_1 (qI @oW.eq_1 (qI @rI.eq_1 (qI @rB.eq_1 (qI @rS.eq_1 (qI @rW.eq_1 (qI @M.Bucket.rs.eq_1 (qI @M.Cache.rs.eq_1 (qI @M.aE.rs.eq_1 (qI @M.Database.rs.eq_1 (qI @M.bF.rs.eq_1 (qI @M.Item.rs.eq_1 (qI @M.Key.rs.eq_1 (qI @M.Op.rs.eq_1 (qI @M.aG.rs.eq_1 (qI @M.aC.rs.eq_1 (qI @M.Registration.rs.eq_1 (qI @M.aD.rs.eq_1 (qI @M.Response.rs.eq_1 (qI @M.Server.rs.eq_1 (qI @M.aA.rs.eq_1 (qI @M.Sync.rs.eq_1 (qI @M.aT.rs.eq_1 (qI @aJw.eq_1 (qI @aEy.eq_1 (qI @aRv.eq_1 (qI @aTi.eq_1 (qI @aRH.eq_1 (qI @aHk.eq_1 (qI @aQR.eq_1 (qI @aOf.eq_1 (qI @aQa.eq_1 (qI @M.aK.en.eq_1 (qI @M.Key.en.eq_1 (qI @M.Key.en.fl (qI @M.aT.en.eq_1 (qI @M.aT.en.fl (qI @M.aG.en.eq_1 (qI @M.Registration.en.eq_1 (qI @M.Registration.en.fl (qI @M.Response.en.eq_1 (qI @M.Cached.en.eq_1 (qI @M.Cache.en.eq_1 (qI @M.aE.en.eq_1 (qI @M.Field.en.eq_1 (qI @M.Field.en.fl (qI @M.aC.en.eq_1 (qI @M.Item.en.eq_1 (qI @M.aA.en.eq_1 (qI @M.aH.en.eq_1 (qI @M.aH.en.fl (qI @M.Database.en.eq_1 (qI @M.Sync.en.eq_1 (qI @M.aD.en.eq_1 (qI @M.bF.en.eq_1 (qI @M.Bucket.en.eq_1 (qI @M.Op.en.eq_1 (qI @M.eG.en.eq_1 (qI @M.eG.en.fl (qI @M.gK.en.eq_1 (qI @M.gK.en.fl (qI @M.aP.en.eq_1 (qI @M.aP.en.fl @M.Server.en.eq_1)))))))))))))))))))))))))))))))))))))))))))))))))))))))))))))))))))))))))))))))))))))))))))
theorem EN:type_of% aSS.down:=aSS.down
end Go.Proofs.YtidhkhdnjonjfaaGreat.gen
