/-
  Helper text. No conditions.
-/
import Derived.Test.YtidhkhdnjonjfaaGreatBucketsTi
import Derived.Test.YtidhkhdnjonjfaaGreatBucketsWimpl1
import Derived.Test.YtidhkhdnjonjfaaGreatBucketsWimpl2
set_option linter.unusedVariables false
set_option linter.unusedSimpArgs false
namespace Go.Proofs.YtidhkhdnjonjfaaGreat.gen
open Go Go.Sh
set_option maxRecDepth 20000
set_option maxHeartbeats 4000000
theorem c49 (p0 r) (h:dO p0=some r):Sc 49 [aS p0] [rB r]:=by
 unfold dO at h
 exact sgo 5 [.tmp 2] Tryz.func49
instance:bP 49 (type_of% @c49):=⟨@c49⟩
theorem aRe (p0 p1 r) (h:kL p0 p1=some r):Sc 298 [aX (M.Key.en p0),aX (M.Key.en p1)] [rI r]:=by
 unfold kL at h
 exact sgo 36 [.tmp 4] Tryz.func298
instance:bP 298 (type_of% @aRe):=⟨@aRe⟩
theorem c85 (p0 p1 r) (h:iM p0 p1=some r):Sc 85 [aX (M.aC.en p0),aS p1] [rI r.1,rB r.2]:=by
 unfold iM at h
 exact sgo 18 [.tmp 4,.tmp 5] Tryz.func85
instance:bP 85 (type_of% @c85):=⟨@c85⟩
theorem aTG (p0 r) (h:pO p0=some r):Sc 143 [aX (M.Key.en p0)] [rW 5 1 enB r]:=by
 have i1:=inv fun m s=>∃v4:Int,∃r12:List Int,∃u12:Nat,(s.t 1=vP 1 1 0∧s.t 3=vR 100012 u12∧s.t 4=vI v4∧s.h 1=(1,oX 225 (M.Key.en p0))∧s.h 100012=(u12,oW 5 1 enB r12))∧dY p0 m v4 r12=some r
 have e1:=@dY.eq_2
 unfold pO at h
 exact sgo 34 [.tmp 2] Tryz.func143
instance:bP 143 (type_of% @aTG):=⟨@aTG⟩
theorem aR1 (p0 p1 r) (h:nH p0 p1=some r):Sc 291 [aL enB p0,aL enB p1] [rW 5 1 enB r]:=by
 unfold nH at h
 exact sgo 11 [.tmp 4] Tryz.func291
instance:bP 291 (type_of% @aR1):=⟨@aR1⟩
theorem aS5 (p0 r) (h:mH p0=some r):Sc 233 [aX (M.aE.en p0)] [(true,M.aE.rs r)]:=by
 have i1:=aBx [.b 3 0 7050100 212 2] fun m s=>∃v13:Int,∃r50100:List M.Cache,∃u50100:Nat,(s.t 2=vP 2 1 0∧s.t 3=vP 3 1 0∧s.t 11=vL M.Cache.en p0.Caches∧s.t 12=vI (List.length p0.Caches:Int)∧s.t 13=vI v13∧s.h 2=(1,oB 28 [.nil])∧s.h 3=(1,oB 28 [.row 7050100 u50100])∧s.h 7050100=(u50100,oW 212 2 M.Cache.en r50100))∧dC p0 m v13 r50100=some r
 have e1:=@dC.eq_2
 have i2:=fun (v13:Int) (r50100:List M.Cache) (x11:M.Cache) (k17:Int→List M.Cached→Option M.aE) (s1:St) (u50100:Nat)=>aBx [.b 6 1 7050000 221 7] fun m s=>∃v23_L2:Int,∃r50000_L2:List M.Cached,∃u50000_L2:Nat,(s.t 2=vP 2 1 0∧s.t 3=vP 3 1 0∧s.t 6=vP 6 ((s1.h 6).1+1) 0∧s.t 11=vL M.Cache.en p0.Caches∧s.t 12=vI (List.length p0.Caches:Int)∧s.t 13=vI v13∧s.t 21=vL M.Cached.en x11.Entries∧s.t 22=vI (List.length x11.Entries:Int)∧s.t 23=vI v23_L2∧s.h 2=(1,oB 28 [.nil])∧s.h 3=(1,oB 28 [.row 7050100 u50100])∧s.h 6=(((s1.h 6).1+1),oB 212 [cI x11.Version,.row 7050000 u50000_L2])∧s.h 7050000=(u50000_L2,oW 221 7 M.Cached.en r50000_L2)∧s.h 7050100=(u50100,oW 212 2 M.Cache.en r50100))∧eK x11 k17 m v23_L2 r50000_L2=some r
 have e2:=@eK.eq_2
 unfold mH at h
 exact sgo 46 [.cell 2 28] Tryz.func233
instance:bP 233 (type_of% @aS5):=⟨@aS5⟩
theorem aQ7 (p0 r) (h:mY p0=some r):Sc 333 [aX (M.aA.en p0)] [(true,M.aA.rs r)]:=by
 have i1:=aBx [.b 3 1 7050000 227 4] fun m s=>∃v14:Int,∃r50000:List M.Item,∃u50000:Nat,(s.t 2=vP 2 1 0∧s.t 3=vP 3 1 0∧s.t 12=vL M.Item.en p0.Items∧s.t 13=vI (List.length p0.Items:Int)∧s.t 14=vI v14∧s.h 2=(1,oB 37 [cS (⟨#[]⟩:ByteArray),.nil,cI 0])∧s.h 3=(1,oB 37 [cS p0.Name,.row 7050000 u50000,cI p0.Auto])∧s.h 7050000=(u50000,oW 227 4 M.Item.en r50000))∧gN p0 m v14 r50000=some r
 have e1:=@gN.eq_2
 unfold mY at h
 exact sgo 27 [.cell 2 37] Tryz.func333
instance:bP 333 (type_of% @aQ7):=⟨@aQ7⟩
theorem aSW (p0 p1 r) (h:kG p0 p1=some r):Sc 407 [aX (M.Response.en p0),aX (M.Response.en p1)] [rB r]:=by
 unfold kG at h
 exact sgo 38 [.tmp 4] Tryz.func407
instance:bP 407 (type_of% @aSW):=⟨@aSW⟩
theorem aPz (p0 p1 r) (h:lY p0 p1=some r):Sc 286 [aX (M.Item.en p0),aX (M.Item.en p1)] [rB r]:=by
 unfold lY at h
 exact sgo 17 [.tmp 4] Tryz.func286
instance:bP 286 (type_of% @aPz):=⟨@aPz⟩
theorem aRD (p0 p1 r) (h:oV p0 p1=some r):Sc 140 [aX (M.Sync.en p0),aX (M.Sync.en p1)] [rB r]:=by
 unfold oV at h
 exact sgo 24 [.tmp 4] Tryz.func140
instance:bP 140 (type_of% @aRD):=⟨@aRD⟩
end Go.Proofs.YtidhkhdnjonjfaaGreat.gen
