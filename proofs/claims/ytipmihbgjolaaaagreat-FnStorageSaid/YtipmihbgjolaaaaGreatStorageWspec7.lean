/-
  Helper text. No conditions.
-/
import Derived.Test.YtipmihbgjolaaaaGreatStorageTi
import Derived.Test.YtipmihbgjolaaaaGreatStorageWspec0
import Derived.Test.YtipmihbgjolaaaaGreatStorageWspec1
import Derived.Test.YtipmihbgjolaaaaGreatStorageWspec2
import Derived.Test.YtipmihbgjolaaaaGreatStorageWspec3
import Derived.Test.YtipmihbgjolaaaaGreatStorageWspec4
import Derived.Test.YtipmihbgjolaaaaGreatStorageWspec5
import Derived.Test.YtipmihbgjolaaaaGreatStorageWspec6
set_option linter.unusedVariables false
set_option linter.unusedSimpArgs false
namespace Go.Proofs.YtipmihbgjolaaaaGreat.gen
open Go Go.Sh
set_option maxRecDepth 20000
set_option maxHeartbeats 4000000
instance:bR 136 (∀p0 r (h:sJ p0=some r),Sc 136 [aX (M.aK.en p0)] [rB r]):=⟨λp0 r h=>by unfold sJ at h;exact sgo 50 [.tmp 2] Tryz.func136⟩
theorem YV(p0 p1 p2 r)(h:pE p0 p1 p2=some r):Sc 206 [aS p0,aS p1,aI p2] [(true,M.aK.rs r.1),rB r.2]:=by unfold pE at h;exact sgo 42 [.cell 6 49,.tmp 7] Tryz.func206
instance:bR 279 (∀p0 p1 r (h:tC p0 p1=some r),Sc 279 [aX (M.YY.en p0),aL M.Op.en p1] [(true,M.YY.rs r.1),rW 3 1 enI r.2.1,rB r.2.2]):=⟨λp0 p1 r h=>by
 have i1:=CO [.b 7 2 7050000 40 3,.b 7 3 7050001 282 2] λm s=>∃v9:Int,∃ai:ByteArray,∃aj:Int,∃ak:List Int,∃aa:List M.aA,∃ae:List M.aM,∃al:Nat,∃af:Nat,∃ah:Nat,(s.t 1=vL M.Op.en p1/\s.t 2=vP 2 1 0/\s.t 4=vP 4 1 0/\s.t 7=vP 7 1 0/\s.t 8=vR 100015 al/\s.t 9=vI v9/\s.h 2=(1,oX 35 (M.YY.en p0))/\s.h 4=(1,Hs)/\s.h 7=(1,oB 35 [cS ai,cI aj,.row 7050000 af,.row 7050001 ah])/\s.h 100015=(al,oW 3 1 enI ak)/\s.h 7050000=(af,oW 40 3 M.aA.en aa)/\s.h 7050001=(ah,oW 282 2 M.aM.en ae))/\pJ p0 p1 m v9 ai aj ak aa ae=some r
 have e1:=@pJ.eq_2
 unfold tC at h
 exact sgo 54 [.cell 4 35,.tmp 5,.tmp 6] Tryz.func279⟩
instance:bR 278 (∀p0 r (h:uP p0=some r),Sc 278 [aX (M.bG.en p0)] [(true,M.YY.rs r.1),rI r.2]):=⟨λp0 r h=>by
 have i1:=λ(x3:((List (List Int))×Int))=>CO [.b 4 2 7050000 40 3,.b 4 3 7050001 282 2] λm s=>∃v7:Int,∃ai:ByteArray,∃aj:Int,∃aa:List M.aA,∃ae:List M.aM,∃af:Nat,∃ah:Nat,(s.t 2=vP 2 1 0/\s.t 4=vP 4 1 0/\s.t 5=vR 100019 1/\s.t 7=vI v7/\s.h 2=(1,Hs)/\s.h 4=(1,oB 35 [cS ai,cI aj,.row 7050000 af,.row 7050001 ah])/\s.h 100019=(1,oW 22 1 (enL enB) x3.1)/\s.h 7050000=(af,oW 40 3 M.aA.en aa)/\s.h 7050001=(ah,oW 282 2 M.aM.en ae))/\mS x3 m v7 ai aj aa ae=some r
 have e1:=@mS.eq_2
 unfold uP at h
 exact sgo 51 [.cell 2 35,.tmp 3] Tryz.func278⟩
instance Up:bR 210 (∀p0 p1 p2 p3 r (h:jH p0 p1 p2 p3=some r),Sc 210 [aX (M.aD.en p0),aX (M.Key.en p1),aS p2,aI p3] [(true,M.aD.rs r.1),rB r.2]):=⟨λp0 p1 p2 p3 r h=>by unfold jH at h;exact sgo 53 [.cell 8 47,.tmp 9] Tryz.func210⟩
instance:bR 56 (∀p0 r (h:cC p0=some r),Sc 56 [aX (M.aH.en p0)] [rB r]):=⟨λp0 r h=>by
 have i1:=inv λm s=>∃v3:Int,(s.t 1=vP 1 1 0/\s.t 3=vI v3/\s.h 1=(1,oX 26 (M.aH.en p0)))/\eU p0 m v3=some r
 have e1:=@eU.eq_2
 unfold cC at h
 exact sgo 48 [.tmp 2] Tryz.func56⟩
instance:bR 286 (∀p0 r (h:xP p0=some r),Sc 286 [(false,[.ptr [.sl (List.map enB p0.b),.int .i64 p0.i,.int .i64 p0.h]])] [(false,[.edit (.lend 182 [.int .i64 r.1,.int .i64 r.2.1])]),(true,M.YY.rs r.2.2)]):=⟨λp0 r h=>by
 unfold xP at h
 simp only[EN]
 refine sgB 34 [.cell 2 35] Tryz.func286 λbase wd B0 u0 hw0=> ?_
 refine gK (J:=λs=>s.t 0=vP 7059000 1 0/\s.h 7059000=(1,oB 182 [.old B0 (.sl (List.map enB p0.b)) (some u0),cI p0.i,cI p0.h])/\True) ?_ ?_
 ·and_intros<;>(try simp only[LN,List.map_cons,List.map_nil])<;>rfl
 rintro s1 f2
 exact sgX⟩
instance:bR 218 (∀p0 r (h:wM p0=some r),Sc 218 [(false,[.ptr [.sl (List.map enB p0.b),.int .i64 p0.i,.int .i64 p0.h]])] [(false,[.edit (.lend 182 [.int .i64 r.1,.int .i64 r.2.1])]),(true,M.aD.rs r.2.2.1),(true,M.Zk.rs r.2.2.2)]):=⟨λp0 r h=>by
 unfold wM at h
 simp only[EN]
 refine sgB 89 [.cell 2 47,.cell 3 137] Tryz.func218 λbase wd B0 u0 hw0=> ?_
 refine gK (J:=λs=>s.t 0=vP 7059000 1 0/\s.h 7059000=(1,oB 182 [.old B0 (.sl (List.map enB p0.b)) (some u0),cI p0.i,cI p0.h])/\True) ?_ ?_
 ·and_intros<;>(try simp only[LN,List.map_cons,List.map_nil])<;>rfl
 rintro s1 f2
 have i1:=λ(s6:St)=>CO [.b 5 1 7050000 284 4,.b 5 6 7050001 211 7,.b 4 1 7050002 284 4,.b 4 3 7050003 207 2,.b 4 4 7050004 211 7] λm s=>∃v7:Int,∃aw:ByteArray,∃ax:Int,∃ay:Int,∃az:Int,∃ba:Int,∃bd:Int,∃bf:Int,∃aa:Int,∃ae:Int,∃bg:ByteArray,∃bh:Int,∃af:List M.Zd,∃ah:List M.aV,∃ai:List M.Zd,∃aj:List M.aT,∃ak:List M.aV,∃al:Nat,∃ao:Nat,∃aq:Nat,∃ar:Nat,∃av:Nat,(s.t 0=vP 7059000 1 0/\s.t 2=vP 2 ((s1.h 2).1+1) 0/\s.t 3=vP 3 ((s1.h 3).1+1) 0/\s.t 4=vP 4 ((s1.h 4).1+1) 0/\s.t 5=vP 5 ((s6.h 5).1+1) 0/\s.t 7=vI v7/\s.h 2=((s1.h 2).1+1,U3)/\s.h 3=((s1.h 3).1+1,RO)/\s.h 4=((s1.h 4).1+1,oB 137 [cS bg,.row 7050002 al,cI bh,.row 7050003 ao,.row 7050004 aq])/\s.h 5=((s6.h 5).1+1,oB 47 [cS aw,.row 7050000 ar,cI ax,cI ay,cI az,cI ba,.row 7050001 av,cI bd,cI bf])/\s.h 7050000=(ar,oW 284 4 M.Zd.en af)/\s.h 7050001=(av,oW 211 7 M.aV.en ah)/\s.h 7050002=(al,oW 284 4 M.Zd.en ai)/\s.h 7050003=(ao,oW 207 2 M.aT.en aj)/\s.h 7050004=(aq,oW 211 7 M.aV.en ak)/\s.h 7059000=(1,oB 182 [.old B0 (.sl (List.map enB p0.b)) (some u0),cI aa,cI ae]))/\eD p0 m v7 aw ax ay az ba bd bf aa ae bg bh af ah ai aj ak=some r
 have e1:=@eD.eq_2
 exact sgX⟩
end Go.Proofs.YtipmihbgjolaaaaGreat.gen
