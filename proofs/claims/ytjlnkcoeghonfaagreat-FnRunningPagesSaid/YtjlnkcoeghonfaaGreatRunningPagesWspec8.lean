/-
  Helper text. No conditions.
-/
import Derived.Test.YtjlnkcoeghonfaaGreatRunningPagesWspec5
import Derived.Test.YtjlnkcoeghonfaaGreatRunningPagesWspec6
import Derived.Test.YtjlnkcoeghonfaaGreatRunningPagesWspec7
set_option linter.all false
namespace Go.Proofs.YtjlnkcoeghonfaaGreat.gen
open Go Go.Sh Tryz
set_option maxRecDepth 20000
set_option maxHeartbeats 4000000
instance aBM:bK 223 (∀p0 r (h:gU p0=some r),Sc 223 [aX (M.Bucket.en p0)] [(true,M.Bucket.rs r)]):=⟨λp0 r h=>by unfold gU at h;exact sgo 18 [.cell 2 84] func223⟩
instance:bK 442 (∀p0 p1 r (h:AK p0 p1=some r),Sc 442 [aX (M.aE.en p0),aS p1] [(true,M.bD.rs r.1),(true,M.bD.rs r.2.1),rB r.2.2]):=⟨λp0 p1 r h=>by
 have i1:=λ(x1:(List M.aLo))=>inv λm s=>∃v8:Int,(s.t 1=vS p1/\s.t 4=vP 4 1 0/\s.t 5=vP 5 1 0/\s.t 7=vR 100015 1/\s.t 8=vI v8/\s.h 4=(1,oB 216 [cI 0,cI 0,cS (⟨#[]⟩:ByteArray)])/\s.h 5=(1,oB 216 [cI 0,cI 0,cS (⟨#[]⟩:ByteArray)])/\s.h 100015=(1,oW 320 4 M.aLo.en x1))/\oZ p1 x1 m v8=some r
 have e1:=@oZ.eq_2
 unfold AK at h
 exact sgo 59 [.cell 4 216,.cell 5 216,.tmp 6] func442⟩
instance:bK 531 (∀p0 r (h:zO p0=some r),Sc 531 [aX (M.aLS.en p0)] [rI r]):=⟨λp0 r h=>by
 have i1:=inv λm s=>∃v3:Int,∃v4:Int,(s.t 1=vP 1 1 0/\s.t 3=vI v3/\s.t 4=vI v4/\s.h 1=(1,oX 70 (M.aLS.en p0)))/\kI p0 m v3 v4=some r
 have e1:=@kI.eq_2
 unfold zO at h
 exact sgo 21 [.tmp 2] func531⟩
instance aE8:bK 426 (∀p0 r (h:xG p0=some r),Sc 426 [(false,[.ptr [.sl (List.map enB p0.b),.int .i64 p0.i,.int .i64 p0.h]])] [(false,[.edit (.lend 256 [.int .i64 r.1,.int .i64 r.2.1])]),rW 197 4 M.aZ.en r.2.2]):=⟨λp0 r h=>by
 unfold xG at h
 simp only[EN]
 refine sgB 21 [.tmp 2] func426 λbase wd B0 u0 hw0=> ?_
 refine cY (J:=λs=>s.t 0=vP 7059000 1 0/\s.h 7059000=(1,oB 256 [.old B0 (.sl (List.map enB p0.b)) (some u0),cI p0.i,cI p0.h])/\True) ?_ ?_
 ·and_intros<;>(try simp only[LN,jI,jJ])<;>rfl
 rintro s1 f2
 have i1:=λ(x4:(Int×Int×Int))=>inv λm s=>∃v5:Int,∃r8:List M.aZ,∃aa:Int,∃ae:Int,∃u8:Nat,(s.t 0=vP 7059000 1 0/\s.t 3=vI x4.2.2/\s.t 4=vR 100008 u8/\s.t 5=vI v5/\s.h 100008=(u8,oW 197 4 M.aZ.en r8)/\s.h 7059000=(1,oB 256 [.old B0 (.sl (List.map enB p0.b)) (some u0),cI aa,cI ae]))/\nO p0 x4 m v5 r8 aa ae=some r
 have e1:=@nO.eq_2
 exact sgX⟩
instance aFN:bK 504 (∀p0 p1 p2 p3 p4 r (h:nI p0 p1 p2 p3 p4=some r),Sc 504 [aI p0,aS p1,aS p2,aI p3,aL M.aZ.en p4] [(true,M.bO.rs r.1),rB r.2]):=⟨λp0 p1 p2 p3 p4 r h=>by unfold nI at h;exact sgo 25 [.cell 10 91,.tmp 11] func504⟩
instance:bK 341 (∀p0 p1 p2 r (h:Ez p0 p1 p2=some r),Sc 341 [aX (M.aLa.en p0),aS p1,aI p2] [rW 5 1 enB r]):=⟨λp0 p1 p2 r h=>by
 have i1:=λ(x5:Int)=>inv λm s=>∃v9:Int,∃aa:List Int,∃ae:Nat,(s.t 7=vI x5/\s.t 8=vR 100019 ae/\s.t 9=vI v9/\s.h 100019=(ae,oW 5 1 enB aa))/\Al x5 m v9 aa=some r
 have e1:=@Al.eq_2
 unfold Ez at h
 exact sgo 34 [.tmp 6] func341⟩
instance:bK 458 (∀p0 p1 r (h:El p0 p1=some r),Sc 458 [aL enB p0,aI p1] [(true,M.gN.rs r.1),rI r.2.1,rB r.2.2]):=⟨λp0 p1 r h=>by unfold El at h;exact sgo 103 [.cell 4 219,.tmp 5,.tmp 6] func458⟩
instance:bK 539 (∀p0 p1 p2 r (h:Cy p0 p1 p2=some r),Sc 539 [aX (M.aE.en p0),aX (M.bD.en p1),aX (M.aF.en p2)] [(true,M.aE.rs r.1),rB r.2]):=⟨λp0 p1 p2 r h=>by unfold Cy at h;exact sgo 20 [.cell 6 75,.tmp 7] func539⟩
instance:bK 541 (∀p0 p1 p2 r (h:FD p0 p1 p2=some r),Sc 541 [aX (M.aE.en p0),aX (M.bD.en p1),aS p2] [(true,M.aE.rs r.1),rI r.2.1,rB r.2.2]):=⟨λp0 p1 p2 r h=>by unfold FD at h;exact sgo 57 [.cell 6 75,.tmp 7,.tmp 8] func541⟩
instance:bK 241 (∀p0 p1 r (h:nL p0 p1=some r),Sc 241 [aX (M.aE.en p0),aX (M.bR.en p1)] [(true,M.aE.rs r.1),rB r.2]):=⟨λp0 p1 r h=>by unfold nL at h;exact sgo 43 [.cell 4 75,.tmp 5] func241⟩
theorem aKN(p0 r)(h:F8 p0=some r):Sc 568 [(false,[.ptr [.sl (List.map enB p0.b),.int .i64 p0.i,.int .i64 p0.h]])] [(false,[.edit (.lend 256 [.int .i64 r.1,.int .i64 r.2.1])]),(true,M.aJ.rs r.2.2)]:=by
 unfold F8 at h
 simp only[EN]
 refine sgB 42 [.cell 2 66] func568 λbase wd j C hw0=> ?_
 refine cY (J:=λs=>s.t 0=vP 7059000 1 0/\s.h 7059000=(1,oB 256 [.old j (.sl (List.map enB p0.b)) (some C),cI p0.i,cI p0.h])/\True) ?_ ?_
 ·and_intros<;>(try simp only[LN,jI,jJ])<;>rfl
 rintro s1 f2
 have i1:=G8 [.b 3 0 7050000 277 2] λm s=>∃v4:Int,∃af:Int,∃ah:Int,∃ak:List M.aLi,∃al:Nat,(s.t 0=vP 7059000 1 0/\s.t 2=vP 2 ((s1.h 2).1+1) 0/\s.t 3=vP 3 ((s1.h 3).1+1) 0/\s.t 4=vI v4/\s.h 2=((s1.h 2).1+1,oB 66 [.nil])/\s.h 3=((s1.h 3).1+1,oB 66 [.row 7050000 al])/\s.h 7050000=(al,oW 277 2 M.aLi.en ak)/\s.h 7059000=(1,oB 256 [.old j (.sl (List.map enB p0.b)) (some C),cI af,cI ah]))/\Ai p0 m v4 af ah ak=some r
 have e1:=@Ai.eq_2
 have i2:=G8 [.b 3 0 7050100 277 2] λm s=>∃ao:Int,∃I:Int,∃U:Int,∃ai:List M.aLi,∃aj:Nat,(s.t 0=vP 7059000 1 0/\s.t 2=vP 2 ((s1.h 2).1+1) 0/\s.t 3=vP 3 ((s1.h 3).1+1) 0/\s.t 5=vI ao/\s.h 2=((s1.h 2).1+1,oB 66 [.nil])/\s.h 3=((s1.h 3).1+1,oB 66 [.row 7050100 aj])/\s.h 7050100=(aj,oW 277 2 M.aLi.en ai)/\s.h 7059000=(1,oB 256 [.old j (.sl (List.map enB p0.b)) (some C),cI I,cI U]))/\xH p0 m ao I U ai=some r
 have e2:=@xH.eq_2
 exact sgX
instance:bK 516 (∀p0 p1 r (h:yF p0 p1=some r),Sc 516 [(false,[.ptr [.sl (List.map enB p0.b),.int .i64 p0.i,.int .i64 p0.h]]),aS p1] [(false,[.edit (.lend 256 [.int .i64 r.1,.int .i64 r.2.1])]),(true,M.aE.rs r.2.2)]):=⟨λp0 p1 r h=>by
 unfold yF at h
 simp only[EN]
 refine sgB 37 [.cell 4 75] func516 λbase wd B0 u0 hw0=> ?_
 refine cY (J:=λs=>s.t 0=vP 7059000 1 0/\s.t 1=vS p1/\s.h 7059000=(1,oB 256 [.old B0 (.sl (List.map enB p0.b)) (some u0),cI p0.i,cI p0.h])/\True) ?_ ?_
 ·and_intros<;>(try simp only[LN,jI,jJ])<;>rfl
 rintro s1 f2
 have i1:=G8 [.b 5 1 7050000 320 4] λm s=>∃v6:Int,∃ai:ByteArray,∃aj:Int,∃aa:Int,∃ae:Int,∃af:List M.aLo,∃ah:Nat,(s.t 0=vP 7059000 1 0/\s.t 4=vP 4 ((s1.h 4).1+1) 0/\s.t 5=vP 5 ((s1.h 5).1+1) 0/\s.t 6=vI v6/\s.h 4=((s1.h 4).1+1,oB 75 [cS (⟨#[]⟩:ByteArray),.nil,cI 0])/\s.h 5=((s1.h 5).1+1,oB 75 [cS ai,.row 7050000 ah,cI aj])/\s.h 7050000=(ah,oW 320 4 M.aLo.en af)/\s.h 7059000=(1,oB 256 [.old B0 (.sl (List.map enB p0.b)) (some u0),cI aa,cI ae]))/\yL p0 m v6 ai aj aa ae af=some r
 have e1:=@yL.eq_2
 exact sgX⟩
instance:bK 614 (∀p0 r (h:GC p0=some r),Sc 614 [(false,[.ptr [.sl (List.map enB p0.b),.int .i64 p0.i,.int .i64 p0.h]])] [(false,[.edit (.lend 256 [.int .i64 r.1,.int .i64 r.2.1])]),(true,M.gN.rs r.2.2)]):=⟨λp0 r h=>by
 unfold GC at h
 simp only[EN]
 refine sgB 37 [.cell 2 219] func614 λbase wd B0 u0 hw0=> ?_
 refine cY (J:=λs=>s.t 0=vP 7059000 1 0/\s.h 7059000=(1,oB 256 [.old B0 (.sl (List.map enB p0.b)) (some u0),cI p0.i,cI p0.h])/\True) ?_ ?_
 ·and_intros<;>(try simp only[LN,jI,jJ])<;>rfl
 rintro s1 f2
 exact sgX⟩
instance:bK 601 (∀p0 p1 r (h:BC p0 p1=some r),Sc 601 [aX (M.aLj.en p0),aI p1] [(true,M.aG.rs r.1),rB r.2]):=⟨λp0 p1 r h=>by unfold BC at h;exact sgo 37 [.cell 4 82,.tmp 5] func601⟩
instance:bK 519 (∀p0 r (h:Eh p0=some r),Sc 519 [(false,[.ptr [.sl (List.map enB p0.b),.int .i64 p0.i,.int .i64 p0.h]])] [(false,[.edit (.lend 256 [.int .i64 r.1,.int .i64 r.2.1])]),(true,M.bD.rs r.2.2)]):=⟨λp0 r h=>by
 unfold Eh at h
 simp only[EN]
 refine sgB 26 [.cell 2 216] func519 λbase wd B0 u0 hw0=> ?_
 refine cY (J:=λs=>s.t 0=vP 7059000 1 0/\s.h 7059000=(1,oB 256 [.old B0 (.sl (List.map enB p0.b)) (some u0),cI p0.i,cI p0.h])/\True) ?_ ?_
 ·and_intros<;>(try simp only[LN,jI,jJ])<;>rfl
 rintro s1 f2
 exact sgX⟩
instance:bK 520 (∀p0 r (h:Hh p0=some r),Sc 520 [(false,[.ptr [.sl (List.map enB p0.b),.int .i64 p0.i,.int .i64 p0.h]])] [(false,[.edit (.lend 256 [.int .i64 r.1,.int .i64 r.2.1])]),(true,M.aF.rs r.2.2)]):=⟨λp0 r h=>by
 unfold Hh at h
 simp only[EN]
 refine sgB 40 [.cell 2 207] func520 λbase wd B0 u0 hw0 => ?_
 refine cY (J:=λs=>s.t 0=vP 7059000 1 0/\s.h 7059000=(1,oB 256 [.old B0 (.sl (List.map enB p0.b)) (some u0),cI p0.i,cI p0.h])/\True) ?_ ?_
 ·and_intros<;>(try simp only[LN,jI,jJ])<;>rfl
 rintro s1 f2
 refine sq (rn ?_)
 refine an (sq ?_)
 obtain⟨x4,h5,h⟩:=aA h
 refine rn1 (aEc.1 _ _ h5) ?_
 refine an (sq (sq ?_))
 obtain⟨V1,eV1⟩:=nmH (((s1.h 3).1+1,oB 207 [.row 100007 ((s1.h 100007).1+1)]))
 obtain⟨V2,eV2⟩:=nmH (((s1.h 100007).1+1,oW 322 2 M.aR.en x4.2.2.aLY))
 obtain⟨V3,eV3⟩:=nmH (((s1.h 2).1+1,oB 207 [.nil]))
 obtain⟨V4,eV4⟩:=nmT (vP 2 ((s1.h 2).1+1) 0)
 obtain⟨V5,eV5⟩:=nmT (vP 3 ((s1.h 3).1+1) 0)
 refine cu (λs=>s.t 0=vP 7059000 1 0/\s.t 2=V4/\s.t 3=V5/\s.h 2=V3/\s.h 3=V1/\s.h 100007=V2/\s.h 7059000=(1,oB 256 [.old B0 (.sl (List.map enB p0.b)) (some u0),cI x4.1,cI x4.2.1])/\True) ?_
 rintro s6 f7
 obtain⟨af,ao,h⟩:=aA h
 refine rn1 (c77.1 _ _ _ ao) ?_
 refine an (bk (sq ?_))
 refine cu (λs=>s.t 0=vP 7059000 1 0/\s.t 2=V4/\s.t 3=V5/\s.t 9=vI af.2.2/\s.h 2=V3/\s.h 3=V1/\s.h 100007=V2/\s.h 7059000=(1,oB 256 [.old B0 (.sl (List.map enB p0.b)) (some u0),cI af.1,cI af.2.1])/\True) ?_
 rintro s16 f17
 refine rn ?_
 refine an ?_
 rcases dX (af.2.2==0)with ai | ai
 ·replace h:=bN ai h;refine ct ?_;obtain⟨bd,aq,h⟩:=aA h;obtain⟨bf,ar,h⟩:=aA h;obtain⟨bg,av,h⟩:=aA h;refine rd3 mixed (aEX.1 _ _ _ aq) (aDL.1 _ _ _ ar) av ?_;refine ab (an (sq (rn ?_)));refine an (rt ?_);cases h;simp[Mi,Ret,TB,EN, *]
 replace h:=bM ai h
 refine cf (sq (rn ?_))
 refine an ?_
 rcases Dz (af.2.2==1)with aj | aj
 ·replace h:=bM aj h;refine cf (sk (ab (an (sq (rn ?_)))));refine an (rt ?_);cases h;simp[Mi,Ret,TB,EN, *]
 replace h:=bN aj h
 refine ct (sq (rn ?_))
 refine an (bk ?_)
 refine cu (λs=>s.h 7059000=s16.h 7059000/\s.t 0=vP 7059000 1 0/\s.t 2=V4/\s.t 3=V5/\s.t 26=vR 100026 ((s16.h 100026).1+1)/\s.t 27=vI ((6:Nat):Int)/\s.t 28=vI 0/\s.h 2=V3/\s.h 3=V1/\s.h 100007=V2/\s.h 100026=((s16.h 100026).1+1,oW 9 1 enS ([(⟨#[100]⟩:ByteArray),(⟨#[101]⟩:ByteArray),(⟨#[102]⟩:ByteArray),(⟨#[103]⟩:ByteArray),(⟨#[104]⟩:ByteArray),(⟨#[105]⟩:ByteArray)]))/\True) ?_
 rintro ak ⟨f44,f34⟩
 replace f44:=f44.trans f17.2.2.2.2.2.2.2.1
 refine Ey (ghB 3 0 7050000 100007) ?_
 refine Hg (λm s=>∃ah:Int,∃ae:List M.aR,∃aa:Nat,s.h 100026=ak.h 100026/\s.h 7059000=ak.h 7059000/\s.t 0=vP 7059000 1 0/\s.t 2=V4/\s.t 3=V5/\s.t 26=vR 100026 ((s16.h 100026).1+1)/\s.t 27=vI ((6:Nat):Int)/\s.t 28=vI ah/\s.h 2=V3/\s.h 3=((s1.h 3).1+1,oB 207 [.row 7050000 aa])/\s.h 7050000=(aa,oW 322 2 M.aR.en ae)/\yV af m ah ae=some r) aH ?_ ?_
 ·exact⟨0,x4.2.2.aLY,(ak.h 7050000).1+1,zM⟩
 rintro mL1 bh ⟨ah,ae,aa,f54,f56,f46,f47,f48,f49,f50,f51,f52,f53,f55,h⟩
 replace f54:=f54.trans f34.2.2.2.2.2.2.2.2.2.1
 replace f56:=f56.trans f44
 rcases mL1 with _ | mL1
 ·exact absurd h (by simp[yV])
 simp only[yV]at h
 refine sq (rn ?_)
 refine an (sq ?_)
 rcases Dz (decide (ah<((6:Nat):Int)))with al | al
 ·replace h:=bM al h;refine cf (xt (Da (CW (GI (ab (an (sq (rn ?_))))))));refine an (rt ?_);cases h;simp[Mi,Ret,TB,EN, *]
 replace h:=bN al h
 refine ct (sk (an (sq (bk (sq ?_)))))
 obtain⟨aw,ax,h⟩:=aA h
 obtain⟨bj,bl,ay⟩:=nJ ax
 have q60m:=congrArg (Option.map enS) (show([(⟨#[100]⟩:ByteArray),(⟨#[101]⟩:ByteArray),(⟨#[102]⟩:ByteArray),(⟨#[103]⟩:ByteArray),(⟨#[104]⟩:ByteArray),(⟨#[105]⟩:ByteArray)])[ah.toNat]? = some aw by assumption)
 simp only[<-List.getElem?_map,jI,jJ,Option.map_some,EN]at q60m
 simp only[qJ,qK,Nat.reduceAdd]at ay
 refine rn ?_
 refine an ?_
 obtain⟨az,ba,h⟩:=aA h
 refine rn1 (aEx.1 _ _ _ _ ba) ?_
 refine ab (an (rn ?_))
 exact cZ ⟨_,ghB 3 0 7050000 100035,mL1,wi,IntKind.i64.wrap (ah+1),az.1.aLY,aa+1,zM⟩⟩
instance:bK 604 (∀p0 p1 r (h:Cs p0 p1=some r),Sc 604 [(false,[.ptr [.sl (List.map enB p0.b),.int .i64 p0.i,.int .i64 p0.h]]),aI p1] [(false,[.edit (.lend 256 [.int .i64 r.1,.int .i64 r.2.1])]),(true,M.aN.rs r.2.2)]):=⟨λp0 p1 r h=>by
 unfold Cs at h
 simp only[EN]
 refine sgB 41 [.cell 4 78] func604 λbase wd B0 u0 hw0=> ?_
 refine cY (J:=λs=>s.t 0=vP 7059000 1 0/\s.t 1=vI p1/\s.h 7059000=(1,oB 256 [.old B0 (.sl (List.map enB p0.b)) (some u0),cI p0.i,cI p0.h])/\True) ?_ ?_
 ·and_intros<;>(try simp only[LN,jI,jJ])<;>rfl
 rintro s1 f2
 have i1:=G8 [.b 5 2 7050000 269 7] λm s=>∃v7:Int,∃ai:Int,∃aj:Int,∃aa:Int,∃ae:Int,∃af:List M.bR,∃ah:Nat,(s.t 0=vP 7059000 1 0/\s.t 4=vP 4 ((s1.h 4).1+1) 0/\s.t 5=vP 5 ((s1.h 5).1+1) 0/\s.t 7=vI v7/\s.h 4=((s1.h 4).1+1,oB 78 [cI 0,cI 0,.nil])/\s.h 5=((s1.h 5).1+1,oB 78 [cI ai,cI aj,.row 7050000 ah])/\s.h 7050000=(ah,oW 269 7 M.bR.en af)/\s.h 7059000=(1,oB 256 [.old B0 (.sl (List.map enB p0.b)) (some u0),cI aa,cI ae]))/\nS p0 m v7 ai aj aa ae af=some r
 have e1:=@nS.eq_2
 exact sgX⟩
