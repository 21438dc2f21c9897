/-
  Helper text. No conditions.
-/
import Derived.Test.YtjlnkcoeghonfaaGreatRunningPagesWimpl3
import Derived.Test.YtjlnkcoeghonfaaGreatRunningPagesWimpl4
set_option linter.all false
namespace Go.Proofs.YtjlnkcoeghonfaaGreat.gen
open Go Go.Sh Tryz
set_option maxRecDepth 20000
set_option maxHeartbeats 4000000
instance aFl:bK 254 (∀p0 r (h:bH p0=some r),Sc 254 [aX (M.aE.en p0)] [(true,M.aE.rs r)]):=⟨λp0 r h=>by
 have i1:=G8 [.b 3 1 7050000 320 4] λm s=>∃af:Int,∃aa:List M.aLo,∃ae:Nat,(s.t 2=vP 2 1 0/\s.t 3=vP 3 1 0/\s.t 12=vL M.aLo.en p0.aLV/\s.t 13=vI (List.length p0.aLV:Int)/\s.t 14=vI af/\s.h 2=(1,oB 75 [cS (⟨#[]⟩:ByteArray),.nil,cI 0])/\s.h 3=(1,oB 75 [cS p0.Name,.row 7050000 ae,cI p0.aLx])/\s.h 7050000=(ae,oW 320 4 M.aLo.en aa))/\nR p0 m af aa=some r
 have e1:=@nR.eq_2
 unfold bH at h
 exact sgo 27 [.cell 2 75] func254⟩
instance aBi:bK 266 (∀p0 r (h:eG p0=some r),Sc 266 [aX (M.aLS.en p0)] [(true,M.aLS.rs r)]):=⟨λp0 r h=>by
 have i1:=G8 [.b 3 2 7050000 75 3] λm s=>∃af:Int,∃aa:List M.aE,∃ae:Nat,(s.t 2=vP 2 1 0/\s.t 3=vP 3 1 0/\s.t 16=vL M.aE.en p0.aLc/\s.t 17=vI (List.length p0.aLc:Int)/\s.t 18=vI af/\s.h 2=(1,WI)/\s.h 3=(1,oB 70 [cS p0.Name,cI p0.aLT,.row 7050000 ae,.row 100010 2])/\s.h 100010=(2,oW 382 2 M.aU.en p0.aLm)/\s.h 7050000=(ae,oW 75 3 M.aE.en aa))/\kG p0 m af aa=some r
 have e1:=@kG.eq_2
 unfold eG at h
 exact sgo 31 [.cell 2 70] func266⟩
instance:bK 281 (∀p0 r (h:vN p0=some r),Sc 281 [aX (M.aG.en p0)] [(true,M.aG.rs r)]):=⟨λp0 r h=>by unfold vN at h;exact sgo 12 [.cell 2 82] func281⟩
instance:bK 134 (∀p0 r (h:Cc p0=some r),Sc 134 [aL M.bO.en p0] [rW 91 11 M.bO.en r]):=⟨λp0 r h=>by
 have i1:=inv λm s=>∃v9:Int,∃r6:List M.bO,∃u6:Nat,(s.t 3=vR 100006 u6/\s.t 7=vL M.bO.en p0/\s.t 8=vI (List.length p0:Int)/\s.t 9=vI v9/\s.h 100006=(u6,oW 91 11 M.bO.en r6))/\oA p0 m v9 r6=some r
 have e1:=@oA.eq_2
 unfold Cc at h
 exact sgo 20 [.tmp 2] func134⟩
instance:bK 138 (∀p0 r (h:BH p0=some r),Sc 138 [aX (M.aLj.en p0)] [(true,M.aLj.rs r)]):=⟨λp0 r h=>by unfold BH at h;exact sgo 15 [.cell 2 156] func138⟩
instance:bK 375 (∀p0 p1 r (h:fC p0 p1=some r),Sc 375 [aX (M.bD.en p0),aX (M.bD.en p1)] [rI r]):=⟨λp0 p1 r h=>by unfold fC at h;exact sgo 36 [.tmp 4] func375⟩
instance aES:bK 158 (∀p0 p1 r (h:iO p0 p1=some r),Sc 158 [aX (M.aF.en p0),aS p1] [rI r.1,rB r.2]):=⟨λp0 p1 r h=>by unfold iO at h;exact sgo 18 [.tmp 4,.tmp 5] func158⟩
instance:bK 586 (∀p0 p1 p2 r (h:AR p0 p1 p2=some r),Sc 586 [aX (M.aLo.en p0),aX (M.aLo.en p1),aS p2] [rB r]):=⟨λp0 p1 p2 r h=>by unfold AR at h;exact sgo 41 [.tmp 6] func586⟩
instance aE9:bK 400 (∀p0 r (h:lO p0=some r),Sc 400 [aX (M.bD.en p0)] [rW 5 1 enB r]):=⟨λp0 r h=>by
 have i1:=inv λm s=>∃v4:Int,∃aa:List Int,∃ae:Nat,(s.t 1=vP 1 1 0/\s.t 3=vR 100012 ae/\s.t 4=vI v4/\s.h 1=(1,oX 216 (M.bD.en p0))/\s.h 100012=(ae,oW 5 1 enB aa))/\cN p0 m v4 aa=some r
 have e1:=@cN.eq_2
 unfold lO at h
 exact sgo 34 [.tmp 2] func400⟩
instance aFh:bK 402 (∀p0 p1 r (h:kM p0 p1=some r),Sc 402 [aL enB p0,aL enB p1] [rW 5 1 enB r]):=⟨λp0 p1 r h=>by unfold kM at h;exact sgo 11 [.tmp 4] func402⟩
instance:bK 257 (∀p0 r (h:Bq p0=some r),Sc 257 [aS p0] [rB r]):=⟨λp0 r h=>by unfold Bq at h;exact sgo 5 [.tmp 2] func257⟩
instance:bK 143 (∀p0 r (h:AL p0=some r),Sc 143 [aX (M.aT.en p0)] [rB r]):=⟨λp0 r h=>by
 have i1:=inv λm s=>∃v10:Int,(s.t 1=vP 1 1 0/\s.t 8=vL M.uY.en p0.aLk/\s.t 9=vI (List.length p0.aLk:Int)/\s.t 10=vI v10/\s.h 1=(1,oX 43 (M.aT.en p0)))/\hU p0 m v10=some r
 have e1:=@hU.eq_2
 have i2:=λ(v10:Int) (x8:M.uY) (ae:Int->Option Bool) (s1:St)=>inv λm s=>∃aa:Int,(s.t 1=vP 1 1 0/\s.t 4=vP 4 ((s1.h 4).1+1) 0/\s.t 8=vL M.uY.en p0.aLk/\s.t 9=vI (List.length p0.aLk:Int)/\s.t 10=vI v10/\s.t 28=vL M.uY.en (List.take v10.toNat p0.aLk)/\s.t 29=vI (List.length (List.take v10.toNat p0.aLk):Int)/\s.t 30=vI aa/\s.h 1=(1,oX 43 (M.aT.en p0))/\s.h 4=((s1.h 4).1+1,oX 144 (M.uY.en x8)))/\dL p0 v10 x8 ae m aa=some r
 have e2:=@dL.eq_2
 unfold AL at h
 exact sgo 64 [.tmp 2] func143⟩
instance:bK 152 (∀p0 p1 p2 r (h:mX p0 p1 p2=some r),Sc 152 [aX (M.aD.en p0),aS p1,aS p2] [(true,M.Bucket.ra r.1),rB r.2]):=⟨λp0 p1 p2 r h=>by unfold mX at h;exact sgo 23 [.cell 6 84,.tmp 7] func152⟩
instance:bK 155 (∀p0 p1 r (h:Gk p0 p1=some r),Sc 155 [aX (M.aD.en p0),aS p1] [(true,M.aLa.ra r)]):=⟨λp0 p1 r h=>by unfold Gk at h;exact sgo 23 [.cell 4 151] func155⟩
instance:bK 485 (∀p0 r (h:Fh p0=some r),Sc 485 [aL enI p0] [rI r]):=⟨λp0 r h=>by
 have i1:=inv λm s=>∃v3:Int,∃v8:Int,(s.t 3=vI v3/\s.t 6=vL enI p0/\s.t 7=vI (List.length p0:Int)/\s.t 8=vI v8)/\Bg p0 m v3 v8=some r
 have e1:=@Bg.eq_2
 unfold Fh at h
 exact sgo 21 [.tmp 2] func485⟩
instance:bK 483 (∀p0 p1 r (h:Ar p0 p1=some r),Sc 483 [aI p0,aL enI p1] [rI r]):=⟨λp0 p1 r h=>by unfold Ar at h;exact sgo 13 [.tmp 4] func483⟩
instance:bK 384 (∀p0 p1 r (h:BP p0 p1=some r),Sc 384 [aI p0,aL enB p1] [rI r]):=⟨λp0 p1 r h=>by unfold BP at h;exact sgo 11 [.tmp 4] func384⟩
theorem aLG(p0 r)(h:AD p0=some r):Sc 385 [aL enB p0] [(true,M.bD.rs r.1),rB r.2]:=by
 have i1:=λ(x2:Int)=>inv λm s=>∃j:Int,∃v30:Int,(s.t 0=vL enB p0/\s.t 2=vP 2 1 0/\s.t 4=vP 4 1 0/\s.t 5=vL enB (List.drop (1:Int).toNat p0)/\s.t 6=vI j/\s.t 28=vL enB (List.take (6:Int).toNat (List.drop (1:Int).toNat p0))/\s.t 29=vI (List.length (List.take (6:Int).toNat (List.drop (1:Int).toNat p0)):Int)/\s.t 30=vI v30/\s.h 2=(1,oB 216 [cI 0,cI 0,cS (⟨#[]⟩:ByteArray)])/\s.h 4=(1,oB 216 [cI (IntKind.i64.wrap x2),cI 0,cS (⟨#[]⟩:ByteArray)]))/\nT p0 x2 m j v30=some r
 have e1:=@nT.eq_2
 unfold AD at h
 exact sgo 55 [.cell 2 216,.tmp 3] func385
instance:bK 590 (∀p0 p1 r (h:Cg p0 p1=some r),Sc 590 [aX (M.bD.en p0),aX (M.gE.en p1)] [rB r]):=⟨λp0 p1 r h=>by unfold Cg at h;exact sgo 50 [.tmp 4] func590⟩
theorem aLN(p0 p1 r)(h:yO p0 p1=some r):Sc 316 [aX (M.aLo.en p0),aX (M.aLo.en p1)] [rB r]:=by unfold yO at h;exact sgo 17 [.tmp 4] func316
instance aEO:bK 201 (∀p0 p1 r (h:kJ p0 p1=some r),Sc 201 [aX (M.aE.en p0),aX (M.aE.en p1)] [rB r]):=⟨λp0 p1 r h=>by
 unfold kJ at h
 simp only[EN]
 refine sgn 24 [.tmp 4] func201 λbase wd=> ?_
 refine sq (rn ?_)
 refine an (sq ?_)
 rcases Dz (p0.Name.toList==p1.Name.toList)with b1|b1
 ·replace h:=bM b1 h;refine rn ?_;exact an (rt zR)
 replace h:=bN b1 h
 rcases Dz (p0.aLx==p1.aLx)with b2|b2
 ·replace h:=bM b2 h;refine rn ?_;exact an (rt zR)
 replace h:=bN b2 h
 obtain⟨x3,h4,h⟩:=aA h
 refine rn1 (aLD p0.aLV p1.aLV (λz0 z1=>yO z0 z1) 316 [] (λz0 z1 r hr=>aLN z0 z1 r hr) x3 h4) ?_
 exact an (rt zR)⟩
theorem c80(p0 p1 r)(h:iQ p0 p1=some r):Sc 80 [aX (M.bO.en p0),aX (M.bO.en p1)] [rB r]:=by unfold iQ at h;exact sgo 45 [.tmp 4] func80
