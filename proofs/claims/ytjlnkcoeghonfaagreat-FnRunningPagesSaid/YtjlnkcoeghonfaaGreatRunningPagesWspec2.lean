/-
  Helper text. No conditions.
-/
import Derived.Test.YtjlnkcoeghonfaaGreatRunningPagesTi
set_option linter.all false
namespace Go.Proofs.YtjlnkcoeghonfaaGreat.gen
open Go Go.Sh Tryz
open Go.IntKind (i64)
set_option maxRecDepth 20000
set_option maxHeartbeats 4000000
instance:bK 74 (∀p0 r (h:G4 p0=some r),Sc 74 [aL enB p0] [(false,[.edit (.newb 256 [.sl (List.map enB r.b),.int .i64 r.i,.int .i64 r.h])])]):=⟨λp0 r h=>by
 unfold G4 at h
 simp only[EN]
 refine sgN 32 [.tmp 2] func74 λbase wd => ?_
 refine sq (rn ?_)
 refine an (sq (rn ?_))
 refine an (sq (sq (rn ?_)))
 refine an (bk ?_)
 refine Hn (λm s=>∃v3:Int,∃v4:Int,s.t 0=vL enB p0/\s.t 3=vI v3/\s.t 4=vI v4/\rC p0 m v3 v4=some r) aH ?_ ?_
 ·exact⟨i64.wrap (193017+(List.length p0:Int)),0,zM⟩
 rintro mL1 s1 ⟨v3,v4,f2,f3,f4,h⟩
 rcases mL1 with _ | mL1
 ·exact absurd h (by simp[rC])
 simp only[rC]at h
 refine sq (sq ?_)
 rcases Dz (decide (v4<(List.length p0:Int)))with b5 | b5
 ·replace h:=bM b5 h;refine rn ?_;refine an (cf (xt (Da (CW (GI (an (sq (rn ?_))))))));refine an (rt ?_);cases h;exact⟨31,(s1.h 31).1+1,ji,by simp +decide only[F,reduceIte,EN, *]<;>rfl⟩
 replace h:=bN b5 h
 refine rn ?_
 refine an ?_
 rcases Dz (decide (v4<4000))with b6 | b6
 ·replace h:=bM b6 h;refine cf (xt (Da (CW (GI (an (sq (rn ?_)))))));refine an (rt ?_);cases h;exact⟨31,(s1.h 31).1+1,ji,by simp +decide only[F,reduceIte,EN, *]<;>rfl⟩
 replace h:=bN b6 h
 refine ct (sk (an (sq (bk ?_))))
 obtain⟨x7,h8,h⟩:=aA h
 obtain⟨q9,aa,ae⟩:=nJ h8
 refine rn ?_
 refine ab (an (rn ?_))
 exact cZ ⟨mL1,wi,i64.wrap (BitVec.ofInt (IntKind.i64.bits) (i64.wrap ((i64.wrap ((i64.wrap (v3*137))+(i64.wrap x7)))+11))&&&BitVec.ofInt (IntKind.i64.bits) 1073741823).toNat,i64.wrap (v4+1),zM⟩⟩
instance:bK 195 (∀p0 r (h:yB p0=some r),Sc 195 [(false,[.ptr [.sl (List.map enB p0.b),.int .i64 p0.i,.int .i64 p0.h]])] [(false,[.edit (.lend 256 [.int .i64 r.1,.int .i64 r.2.1])]),rI r.2.2]):=⟨λp0 r h=>by
 unfold yB at h
 simp only[EN]
 refine sgB 58 [.tmp 2] func195 λbase wd B0 u0 hw0=> ?_
 refine cY (J:=λs=>s.t 0=vP 7059000 1 0/\s.h 7059000=(1,oB 256 [.old B0 (.sl (List.map enB p0.b)) (some u0),cI p0.i,cI p0.h])/\True) ?_ ?_
 ·and_intros<;>(try simp only[LN,jI,jJ])<;>rfl
 rintro s1 f2
 exact sgX⟩
instance c77:bK 77 (∀p0 p1 r (h:aK p0 p1=some r),Sc 77 [(false,[.ptr [.sl (List.map enB p0.b),.int .i64 p0.i,.int .i64 p0.h]]),aI p1] [(false,[.edit (.lend 256 [.int .i64 r.1,.int .i64 r.2.1])]),rI r.2.2]):=⟨λp0 p1 r h=>by
 unfold aK at h
 simp only[EN]
 refine sgB 31 [.tmp 4] func77 λbase wd B0 u0 hw0=> ?_
 refine cY (J:=λs=>s.t 0=vP 7059000 1 0/\s.t 1=vI p1/\s.h 7059000=(1,oB 256 [.old B0 (.sl (List.map enB p0.b)) (some u0),cI p0.i,cI p0.h])/\True) ?_ ?_
 ·and_intros<;>(try simp only[LN,jI,jJ])<;>rfl
 rintro s1 f2
 exact sgX⟩
instance:bK 231 (∀p0 r (h:cO p0=some r),Sc 231 [aX (M.aF.en p0)] [(true,M.aF.rs r)]):=⟨λp0 r h=>by unfold cO at h;exact sgo 8 [.cell 2 207] func231⟩
instance:bK 335 (∀p0 r (h:B3 p0=some r),Sc 335 [aX (M.aLo.en p0)] [(true,M.aLo.rs r)]):=⟨λp0 r h=>by unfold B3 at h;exact sgo 9 [.cell 2 320] func335⟩
instance:bK 118 (∀p0 p1 r (h:lC p0 p1=some r),Sc 118 [aX (M.aF.en p0),aS p1] [rI r.1,rB r.2]):=⟨λp0 p1 r h=>by
 have i1:=inv λm s=>∃v6:Int,(s.t 1=vS p1/\s.t 2=vP 2 1 0/\s.t 6=vI v6/\s.h 2=(1,oX 207 (M.aF.en p0)))/\vH p0 p1 m v6=some r
 have e1:=@vH.eq_2
 unfold lC at h
 exact sgo 28 [.tmp 4,.tmp 5] func118⟩
instance:bK 208 (∀p0 p1 p2 r (h:Cx p0 p1 p2=some r),Sc 208 [aX (M.Bucket.en p0),aS p1,aS p2] [rB r]):=⟨λp0 p1 p2 r h=>by unfold Cx at h;exact sgo 23 [.tmp 6] func208⟩
instance:bK 503 (∀p0 r (h:B5 p0=some r),Sc 503 [aX (M.aD.en p0)] [rI r]):=⟨λp0 r h=>by unfold B5 at h;exact sgo 9 [.tmp 2] func503⟩
instance:bK 37 (∀p0 p1 r (h:AA p0 p1=some r),Sc 37 [aI p0,aI p1] [rI r]):=⟨λp0 p1 r h=>by unfold AA at h;exact sgo 10 [.tmp 4] func37⟩
instance:bK 119 (∀p0 p1 r (h:fN p0 p1=some r),Sc 119 [aI p0,aI p1] [rI r]):=⟨λp0 p1 r h=>by unfold fN at h;exact sgo 10 [.tmp 4] func119⟩
instance:bK 112 (∀p0 r (h:xF p0=some r),Sc 112 [aI p0] [rI r]):=⟨λp0 r h=>by unfold xF at h;exact sgo 6 [.tmp 2] func112⟩
instance:bK 212 (∀p0 p1 r (h:tB p0 p1=some r),Sc 212 [aL enB p0,aL enB p1] [rB r]):=⟨λp0 p1 r h=>by unfold tB at h;exact sgo 10 [.tmp 4] func212⟩
instance:bK 230 (∀p0 p1 r (h:kY p0 p1=some r),Sc 230 [aX (M.aE.en p0),aX (M.bD.en p1)] [rI r]):=⟨λp0 p1 r h=>by
 have i1:=inv λm s=>∃v5:Int,(s.t 2=vP 2 1 0/\s.t 3=vP 3 1 0/\s.t 5=vI v5/\s.h 2=(1,oX 75 (M.aE.en p0))/\s.h 3=(1,oX 216 (M.bD.en p1)))/\rG p0 p1 m v5=some r
 have e1:=@rG.eq_2
 unfold kY at h
 exact sgo 22 [.tmp 4] func230⟩
instance:bK 598 (∀p0 p1 r (h:DS p0 p1=some r),Sc 598 [(false,[.ptr [.sl (List.map enB p0.b),.int .i64 p0.i,.int .i64 p0.h]]),aI p1] [(false,[.edit (.lend 256 [.int .i64 r.1,.int .i64 r.2.1])]),rW 5 1 enB r.2.2]):=⟨λp0 p1 r h=>by
 unfold DS at h
 simp only[EN]
 refine sgB 20 [.tmp 4] func598 λbase wd B0 u0 hw0=> ?_
 refine cY (J:=λs=>s.t 0=vP 7059000 1 0/\s.t 1=vI p1/\s.h 7059000=(1,oB 256 [.old B0 (.sl (List.map enB p0.b)) (some u0),cI p0.i,cI p0.h])/\True) ?_ ?_
 ·and_intros<;>(try simp only[LN,jI,jJ])<;>rfl
 rintro s1 f2
 have i1:=inv λm s=>∃v6:Int,∃r7:List Int,∃aa:Int,∃ae:Int,∃u7:Nat,(s.t 0=vP 7059000 1 0/\s.t 1=vI p1/\s.t 5=vR 100007 u7/\s.t 6=vI v6/\s.h 100007=(u7,oW 5 1 enB r7)/\s.h 7059000=(1,oB 256 [.old B0 (.sl (List.map enB p0.b)) (some u0),cI aa,cI ae]))/\tU p0 p1 m v6 r7 aa ae=some r
 have e1:=@tU.eq_2
 exact sgX⟩
instance:bK 518 (∀p0 p1 r (h:Be p0 p1=some r),Sc 518 [aX (M.aLj.en p0),aI p1] [rI r]):=⟨λp0 p1 r h=>by
 have i1:=inv λm s=>∃v5:Int,(s.t 1=vI p1/\s.t 2=vP 2 1 0/\s.t 5=vI v5/\s.h 2=(1,oX 156 (M.aLj.en p0)))/\yN p0 p1 m v5=some r
 have e1:=@yN.eq_2
 unfold Be at h
 exact sgo 27 [.tmp 4] func518⟩
instance:bK 617 (∀p0 r (h:lN p0=some r),Sc 617 [aI p0] [rI r]):=⟨λp0 r h=>by
 have i1:=inv λm s=>∃v3:Int,∃v4:Int,(s.t 0=vI p0/\s.t 3=vI v3/\s.t 4=vI v4)/\tM p0 m v3 v4=some r
 have e1:=@tM.eq_2
 unfold lN at h
 exact sgo 17 [.tmp 2] func617⟩
instance:bK 210 (∀p0 p1 r (h:uF p0 p1=some r),Sc 210 [aX (M.aLb.en p0),aX (M.aLb.en p1)] [rB r]):=⟨λp0 p1 r h=>by unfold uF at h;exact sgo 38 [.tmp 4] func210⟩
instance:bK 323 (∀p0 p1 r (h:zJ p0 p1=some r),Sc 323 [aX (M.aF.en p0),aX (M.aF.en p1)] [rB r]):=⟨λp0 p1 r h=>by
 have i1:=inv λm s=>∃v5:Int,(s.t 2=vP 2 1 0/\s.t 3=vP 3 1 0/\s.t 5=vI v5/\s.h 2=(1,oX 207 (M.aF.en p0))/\s.h 3=(1,oX 207 (M.aF.en p1)))/\mS p0 p1 m v5=some r
 have e1:=@mS.eq_2
 unfold zJ at h
 exact sgo 31 [.tmp 4] func323⟩
instance:bK 213 (∀p0 p1 r (h:vO p0 p1=some r),Sc 213 [aX (M.aE.en p0),aX (M.aE.en p1)] [rB r]):=⟨λp0 p1 r h=>by
 have i1:=inv λm s=>∃v5:Int,(s.t 2=vP 2 1 0/\s.t 3=vP 3 1 0/\s.t 5=vI v5/\s.h 2=(1,oX 75 (M.aE.en p0))/\s.h 3=(1,oX 75 (M.aE.en p1)))/\oM p0 p1 m v5=some r
 have e1:=@oM.eq_2
 unfold vO at h
 exact sgo 63 [.tmp 4] func213⟩
