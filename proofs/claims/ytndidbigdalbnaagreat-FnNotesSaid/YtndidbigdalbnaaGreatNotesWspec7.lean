/-
  Helper text. No conditions.
-/
import Derived.Test.YtndidbigdalbnaaGreatNotesWspec5
set_option linter.all false
namespace Go.Proofs.YtndidbigdalbnaaGreat.gen
open Go Go.Sh Tryz
set_option maxRecDepth 20000
set_option maxHeartbeats 4000000
instance c91:bU 91 (∀p0 r (h:gL p0=some r),Sc 91 [aX (M.aKe.en p0)] [(true,M.aKe.rs r)]):=⟨λp0 r h=>by unfold gL at h;exact sgo 18 [.cell 2 75] func91⟩
instance:bU 76 (∀p0 r (h:gM p0=some r),Sc 76 [aX (M.aC.en p0)] [(true,M.aC.rs r)]):=⟨λp0 r h=>by
 have i1:=He [.b 3 0 7050000 75 24] λm s=>∃v4:Int,∃aa:List M.aKe,∃ae:Nat,(s.t 1=vP 1 1 0/\s.t 2=vP 2 1 0/\s.t 3=vP 3 1 0/\s.t 4=vI v4/\s.h 1=(1,oX 26 (M.aC.en p0))/\s.h 2=(1,oB 26 [.nil])/\s.h 3=(1,oB 26 [.row 7050000 ae])/\s.h 7050000=(ae,oW 75 24 M.aKe.en aa))/\rT p0 m v4 aa=some r
 have e1:=@rT.eq_2
 unfold gM at h
 exact sgo 25 [.cell 2 26] func76⟩
instance:bU 205 (∀p0 p1 r (h:zX p0 p1=some r),Sc 205 [aX (M.aD.en p0),aS p1] [(true,M.bD.rs r.1),(true,M.bD.rs r.2.1),rB r.2.2]):=⟨λp0 p1 r h=>by
 have i1:=λ(x1:(List M.aKy))=>inv λm s=>∃v8:Int,(s.t 1=vS p1/\s.t 4=vP 4 1 0/\s.t 5=vP 5 1 0/\s.t 7=vR 100015 1/\s.t 8=vI v8/\s.h 4=(1,oB 98 [cI 0,cI 0,cS (⟨#[]⟩:ByteArray)])/\s.h 5=(1,oB 98 [cI 0,cI 0,cS (⟨#[]⟩:ByteArray)])/\s.h 100015=(1,oW 153 4 M.aKy.en x1))/\oF p1 x1 m v8=some r
 have e1:=@oF.eq_2
 unfold zX at h
 exact sgo 59 [.cell 4 98,.cell 5 98,.tmp 6] func205⟩
instance VP:bU 149 (∀p0 r (h:cX p0=some r),Sc 149 [aX (M.aKc.en p0)] [rB r]):=⟨λp0 r h=>by
 have i1:=inv λm s=>∃v3:Int,(s.t 1=vP 1 1 0/\s.t 3=vI v3/\s.h 1=(1,oX 56 (M.aKc.en p0)))/\fW p0 m v3=some r
 have e1:=@fW.eq_2
 have i2:=inv λm s=>∃v4:Int,(s.t 1=vP 1 1 0/\s.t 4=vI v4/\s.h 1=(1,oX 56 (M.aKc.en p0)))/\fX p0 m v4=some r
 have e2:=@fX.eq_2
 have i3:=λ(v4:Int) (ae:M.aV) (af:Int->Option Bool)=>inv λm s=>∃aa:Int,(s.t 1=vP 1 1 0/\s.t 4=vI v4/\s.t 9=vI aa/\s.h 1=(1,oX 56 (M.aKc.en p0)))/\iK p0 v4 ae af m aa=some r
 have e3:=@iK.eq_2
 unfold cX at h
 exact sgo 124 [.tmp 2] func149⟩
instance:bU 328 (∀p0 r (h:Br p0=some r),Sc 328 [aX (M.aKc.en p0)] [rI r]):=⟨λp0 r h=>by
 have i1:=inv λm s=>∃v3:Int,∃v4:Int,(s.t 1=vP 1 1 0/\s.t 3=vI v3/\s.t 4=vI v4/\s.h 1=(1,oX 56 (M.aKc.en p0)))/\iX p0 m v3 v4=some r
 have e1:=@iX.eq_2
 unfold Br at h
 exact sgo 21 [.tmp 2] func328⟩
instance:bU 270 (∀p0 r (h:D0 p0=some r),Sc 270 [aX (M.bJ.en p0)] [rI r]):=⟨λp0 r h=>by unfold D0 at h;exact sgo 10 [.tmp 2] func270⟩
instance aFM:bU 177 (∀p0 r (h:uY p0=some r),Sc 177 [(false,[.ptr [.sl (List.map enB p0.b),.int .i64 p0.i,.int .i64 p0.h]])] [(false,[.edit (.lend 138 [.int .i64 r.1,.int .i64 r.2.1])]),rW 229 4 M.aY.en r.2.2]):=⟨λp0 r h=>by
 unfold uY at h
 simp only[EN]
 refine sgB 21 [.tmp 2] func177 λbase wd B0 u0 hw0=> ?_
 refine bY (J:=λs=>s.t 0=vP 7059000 1 0/\s.h 7059000=(1,oB 138 [.old B0 (.sl (List.map enB p0.b)) (some u0),cI p0.i,cI p0.h])/\True) ?_ ?_
 ·and_intros<;>(try simp only[LN,jJ,jK])<;>rfl
 rintro s1 f2
 have i1:=λ(x4:(Int×Int×Int))=>inv λm s=>∃v5:Int,∃r8:List M.aY,∃aa:Int,∃ae:Int,∃u8:Nat,(s.t 0=vP 7059000 1 0/\s.t 3=vI x4.2.2/\s.t 4=vR 100008 u8/\s.t 5=vI v5/\s.h 100008=(u8,oW 229 4 M.aY.en r8)/\s.h 7059000=(1,oB 138 [.old B0 (.sl (List.map enB p0.b)) (some u0),cI aa,cI ae]))/\nC p0 x4 m v5 r8 aa ae=some r
 have e1:=@nC.eq_2
 exact sgX⟩
instance aFt:bU 176 (∀p0 p1 p2 p3 p4 r (h:mU p0 p1 p2 p3 p4=some r),Sc 176 [aI p0,aS p1,aS p2,aI p3,aL M.aY.en p4] [(true,M.bK.rs r.1),rB r.2]):=⟨λp0 p1 p2 p3 p4 r h=>by unfold mU at h;exact sgo 25 [.cell 10 44,.tmp 11] func176⟩
instance:bU 354 (∀p0 p1 p2 r (h:DS p0 p1 p2=some r),Sc 354 [aX (M.aKl.en p0),aS p1,aI p2] [rW 5 1 enB r]):=⟨λp0 p1 p2 r h=>by
 have i1:=λ(x5:Int)=>inv λm s=>∃v9:Int,∃aa:List Int,∃ae:Nat,(s.t 7=vI x5/\s.t 8=vR 100019 ae/\s.t 9=vI v9/\s.h 100019=(ae,oW 5 1 enB aa))/\zA x5 m v9 aa=some r
 have e1:=@zA.eq_2
 unfold DS at h
 exact sgo 34 [.tmp 6] func354⟩
instance:bU 334 (∀p0 p1 p2 r (h:BN p0 p1 p2=some r),Sc 334 [aX (M.aKl.en p0),aS p1,aI p2] [(true,M.aKo.rs r)]):=⟨λp0 p1 p2 r h=>by unfold BN at h;exact sgo 32 [.cell 6 244] func334⟩
instance:bU 305 (∀p0 r (h:Dx p0=some r),Sc 305 [(false,[.ptr [.sl (List.map enB p0.b),.int .i64 p0.i,.int .i64 p0.h]])] [(false,[.edit (.lend 138 [.int .i64 r.1,.int .i64 r.2.1])]),(true,M.bD.rs r.2.2)]):=⟨λp0 r h=>by
 unfold Dx at h
 simp only[EN]
 refine sgB 26 [.cell 2 98] func305 λbase wd B0 u0 hw0=> ?_
 refine bY (J:=λs=>s.t 0=vP 7059000 1 0/\s.h 7059000=(1,oB 138 [.old B0 (.sl (List.map enB p0.b)) (some u0),cI p0.i,cI p0.h])/\True) ?_ ?_
 ·and_intros<;>(try simp only[LN,jJ,jK])<;>rfl
 rintro s1 f2
 exact sgX⟩
instance:bU 306 (∀p0 r (h:GH p0=some r),Sc 306 [(false,[.ptr [.sl (List.map enB p0.b),.int .i64 p0.i,.int .i64 p0.h]])] [(false,[.edit (.lend 138 [.int .i64 r.1,.int .i64 r.2.1])]),(true,M.aF.rs r.2.2)]):=⟨λp0 r h=>by
 unfold GH at h
 simp only[EN]
 refine sgB 40 [.cell 2 90] func306 λbase wd B0 u0 hw0 => ?_
 refine bY (J:=λs=>s.t 0=vP 7059000 1 0/\s.h 7059000=(1,oB 138 [.old B0 (.sl (List.map enB p0.b)) (some u0),cI p0.i,cI p0.h])/\True) ?_ ?_
 ·and_intros<;>(try simp only[LN,jJ,jK])<;>rfl
 rintro s1 f2
 refine sq (rn ?_)
 refine an (sq ?_)
 obtain⟨x4,h5,h⟩:=aA h
 refine rn1 (aEs.1 _ _ h5) ?_
 refine an (sq (sq ?_))
 obtain⟨V1,eV1⟩:=nmH (((s1.h 3).1+1,oB 90 [.row 100007 ((s1.h 100007).1+1)]))
 obtain⟨V2,eV2⟩:=nmH (((s1.h 100007).1+1,oW 157 2 M.aR.en x4.2.2.aKj))
 obtain⟨V3,eV3⟩:=nmH (((s1.h 2).1+1,oB 90 [.nil]))
 obtain⟨V4,eV4⟩:=nmT (vP 2 ((s1.h 2).1+1) 0)
 obtain⟨V5,eV5⟩:=nmT (vP 3 ((s1.h 3).1+1) 0)
 refine cu (λs=>s.t 0=vP 7059000 1 0/\s.t 2=V4/\s.t 3=V5/\s.h 2=V3/\s.h 3=V1/\s.h 100007=V2/\s.h 7059000=(1,oB 138 [.old B0 (.sl (List.map enB p0.b)) (some u0),cI x4.1,cI x4.2.1])/\True) ?_
 rintro s6 f7
 obtain⟨af,ao,h⟩:=aA h
 refine rn1 (c48.1 _ _ _ ao) ?_
 refine an (bk (sq ?_))
 refine cu (λs=>s.t 0=vP 7059000 1 0/\s.t 2=V4/\s.t 3=V5/\s.t 9=vI af.2.2/\s.h 2=V3/\s.h 3=V1/\s.h 100007=V2/\s.h 7059000=(1,oB 138 [.old B0 (.sl (List.map enB p0.b)) (some u0),cI af.1,cI af.2.1])/\True) ?_
 rintro s16 f17
 refine rn ?_
 refine an ?_
 rcases gK (af.2.2==0)with ai | ai
 ·replace h:=bQ ai h;refine ct ?_;obtain⟨bd,aq,h⟩:=aA h;obtain⟨bf,ar,h⟩:=aA h;obtain⟨bg,av,h⟩:=aA h;refine rd3 mixed (aEk.1 _ _ _ aq) (c17.1 _ _ _ ar) av ?_;refine ab (an (sq (rn ?_)));refine an (rt ?_);cases h;simp[Ma,Ret,TB,EN, *]
 replace h:=bP ai h
 refine cf (sq (rn ?_))
 refine an ?_
 rcases CP (af.2.2==1)with aj | aj
 ·replace h:=bP aj h;refine cf (sk (ab (an (sq (rn ?_)))));refine an (rt ?_);cases h;simp[Ma,Ret,TB,EN, *]
 replace h:=bQ aj h
 refine ct (sq (rn ?_))
 refine an (bk ?_)
 refine cu (λs=>s.h 7059000=s16.h 7059000/\s.t 0=vP 7059000 1 0/\s.t 2=V4/\s.t 3=V5/\s.t 26=vR 100026 ((s16.h 100026).1+1)/\s.t 27=vI ((6:Nat):Int)/\s.t 28=vI 0/\s.h 2=V3/\s.h 3=V1/\s.h 100007=V2/\s.h 100026=((s16.h 100026).1+1,oW 9 1 enS ([(⟨#[100]⟩:ByteArray),(⟨#[101]⟩:ByteArray),(⟨#[102]⟩:ByteArray),(⟨#[103]⟩:ByteArray),(⟨#[104]⟩:ByteArray),(⟨#[105]⟩:ByteArray)]))/\True) ?_
 rintro ak ⟨f44,f34⟩
 replace f44:=f44.trans f17.2.2.2.2.2.2.2.1
 refine Cj (ghB 3 0 7050000 100007) ?_
 refine GF (λm s=>∃ah:Int,∃ae:List M.aR,∃aa:Nat,s.h 100026=ak.h 100026/\s.h 7059000=ak.h 7059000/\s.t 0=vP 7059000 1 0/\s.t 2=V4/\s.t 3=V5/\s.t 26=vR 100026 ((s16.h 100026).1+1)/\s.t 27=vI ((6:Nat):Int)/\s.t 28=vI ah/\s.h 2=V3/\s.h 3=((s1.h 3).1+1,oB 90 [.row 7050000 aa])/\s.h 7050000=(aa,oW 157 2 M.aR.en ae)/\xQ af m ah ae=some r) aJ ?_ ?_
 ·exact⟨0,x4.2.2.aKj,(ak.h 7050000).1+1,zM⟩
 rintro mL1 bh ⟨ah,ae,aa,f54,f56,f46,f47,f48,f49,f50,f51,f52,f53,f55,h⟩
 replace f54:=f54.trans f34.2.2.2.2.2.2.2.2.2.1
 replace f56:=f56.trans f44
 rcases mL1 with _ | mL1
 ·exact absurd h (by simp[xQ])
 simp only[xQ]at h
 refine sq (rn ?_)
 refine an (sq ?_)
 rcases CP (decide (ah<((6:Nat):Int)))with al | al
 ·replace h:=bP al h;refine cf (xt (CO (CL (Gs (ab (an (sq (rn ?_))))))));refine an (rt ?_);cases h;simp[Ma,Ret,TB,EN, *]
 replace h:=bQ al h
 refine ct (sk (an (sq (bk (sq ?_)))))
 obtain⟨aw,ax,h⟩:=aA h
 obtain⟨bj,bl,ay⟩:=pK ax
 have q60m:=congrArg (Option.map enS) (show([(⟨#[100]⟩:ByteArray),(⟨#[101]⟩:ByteArray),(⟨#[102]⟩:ByteArray),(⟨#[103]⟩:ByteArray),(⟨#[104]⟩:ByteArray),(⟨#[105]⟩:ByteArray)])[ah.toNat]? = some aw by assumption)
 simp only[<-List.getElem?_map,jJ,jK,Option.map_some,EN]at q60m
 simp only[qJ,qK,Nat.reduceAdd]at ay
 refine rn ?_
 refine an ?_
 obtain⟨az,ba,h⟩:=aA h
 refine rn1 (c29.1 _ _ _ _ ba) ?_
 refine ab (an (rn ?_))
 exact fB ⟨_,ghB 3 0 7050000 100035,mL1,wg,IntKind.i64.wrap (ah+1),az.1.aKj,aa+1,zM⟩⟩
instance:bU 363 (∀p0 p1 r (h:Dm p0 p1=some r),Sc 363 [(false,[.ptr [.sl (List.map enB p0.b),.int .i64 p0.i,.int .i64 p0.h]]),aI p1] [(false,[.edit (.lend 138 [.int .i64 r.1,.int .i64 r.2.1])]),(true,M.aO.rs r.2.2)]):=⟨λp0 p1 r h=>by
 unfold Dm at h
 simp only[EN]
 refine sgB 41 [.cell 4 69] func363 λbase wd B0 u0 hw0=> ?_
 refine bY (J:=λs=>s.t 0=vP 7059000 1 0/\s.t 1=vI p1/\s.h 7059000=(1,oB 138 [.old B0 (.sl (List.map enB p0.b)) (some u0),cI p0.i,cI p0.h])/\True) ?_ ?_
 ·and_intros<;>(try simp only[LN,jJ,jK])<;>rfl
 rintro s1 f2
 have i1:=He [.b 5 2 7050000 182 7] λm s=>∃v7:Int,∃ai:Int,∃aj:Int,∃aa:Int,∃ae:Int,∃af:List M.cH,∃ah:Nat,(s.t 0=vP 7059000 1 0/\s.t 4=vP 4 ((s1.h 4).1+1) 0/\s.t 5=vP 5 ((s1.h 5).1+1) 0/\s.t 7=vI v7/\s.h 4=((s1.h 4).1+1,oB 69 [cI 0,cI 0,.nil])/\s.h 5=((s1.h 5).1+1,oB 69 [cI ai,cI aj,.row 7050000 ah])/\s.h 7050000=(ah,oW 182 7 M.cH.en af)/\s.h 7059000=(1,oB 138 [.old B0 (.sl (List.map enB p0.b)) (some u0),cI aa,cI ae]))/\rY p0 m v7 ai aj aa ae af=some r
 have e1:=@rY.eq_2
 exact sgX⟩
instance:bU 343 (∀p0 r (h:Fu p0=some r),Sc 343 [(false,[.ptr [.sl (List.map enB p0.b),.int .i64 p0.i,.int .i64 p0.h]])] [(false,[.edit (.lend 138 [.int .i64 r.1,.int .i64 r.2.1])]),(true,M.aO.rs r.2.2)]):=⟨λp0 r h=>by
 unfold Fu at h
 simp only[EN]
 refine sgB 58 [.cell 2 69] func343 λbase wd B0 u0 hw0=> ?_
 refine bY (J:=λs=>s.t 0=vP 7059000 1 0/\s.h 7059000=(1,oB 138 [.old B0 (.sl (List.map enB p0.b)) (some u0),cI p0.i,cI p0.h])/\True) ?_ ?_
 ·and_intros<;>(try simp only[LN,jJ,jK])<;>rfl
 rintro s1 f2
 have i1:=He [.b 3 2 7050000 182 7] λm s=>∃ai:Int,∃aj:Int,∃aa:Int,∃ae:Int,∃af:List M.cH,∃ah:Nat,(s.t 0=vP 7059000 1 0/\s.t 2=vP 2 ((s1.h 2).1+1) 0/\s.t 3=vP 3 ((s1.h 3).1+1) 0/\s.h 2=((s1.h 2).1+1,oB 69 [cI 0,cI 0,.nil])/\s.h 3=((s1.h 3).1+1,oB 69 [cI ai,cI aj,.row 7050000 ah])/\s.h 7050000=(ah,oW 182 7 M.cH.en af)/\s.h 7059000=(1,oB 138 [.old B0 (.sl (List.map enB p0.b)) (some u0),cI aa,cI ae]))/\zP p0 m ai aj aa ae af=some r
 have e1:=@zP.eq_2
 exact sgX⟩
instance aEl:bU 107 (∀p0 r (h:Az p0=some r),Sc 107 [(false,[.ptr [.sl (List.map enB p0.b),.int .i64 p0.i,.int .i64 p0.h]])] [(false,[.edit (.lend 138 [.int .i64 r.1,.int .i64 r.2.1])]),(true,M.bK.rs r.2.2)]):=⟨λp0 r h=>by
 unfold Az at h
 simp only[EN]
 refine sgB 46 [.cell 2 44] func107 λbase wd B0 u0 hw0 => ?_
 refine bY (J:=λs=>s.t 0=vP 7059000 1 0/\s.h 7059000=(1,oB 138 [.old B0 (.sl (List.map enB p0.b)) (some u0),cI p0.i,cI p0.h])/\True) ?_ ?_
 ·and_intros<;>(try simp only[LN,jJ,jK])<;>rfl
 rintro s1 f2
 refine sq (rn ?_)
 refine an (sq ?_)
 obtain⟨x4,h5,h⟩:=aA h
 refine rn1 (aDa.1 _ _ h5) ?_
 refine an (sq ?_)
 obtain⟨V4,eV4⟩:=nmH (((s1.h 2).1+1,aBc))
 obtain⟨V6,eV6⟩:=nmT (vP 2 ((s1.h 2).1+1) 0)
 obtain⟨V7,eV7⟩:=nmT (vP 7059000 1 0)
 refine cu (λs=>s.t 0=V7/\s.t 2=V6/\s.t 3=vS x4.2.2/\s.h 2=V4/\s.h 7059000=(1,oB 138 [.old B0 (.sl (List.map enB p0.b)) (some u0),cI x4.1,cI x4.2.1])/\True) ?_
 rintro s6 f7
 refine rn ?_
 refine an ?_
 obtain⟨bm,bn,h⟩:=aA h
 refine yN (λs=>s.t 0=V7/\s.t 2=V6/\s.t 3=vS x4.2.2/\s.t 4=vS bm.1/\s.h 2=V4/\s.h 7059000=(1,oB 138 [.old B0 (.sl (List.map enB p0.b)) (some u0),cI bm.2.1,cI bm.2.2])/\True) ?_ ?_
 ·replace h:=bn;clear bn;refine sq ?_;obtain⟨bj,bw,h⟩:=aA h;refine rn1 (c49.1 _ _ _ bw) ?_;refine an ?_;refine cu (λs=>s.t 0=V7/\s.t 2=V6/\s.t 3=vS x4.2.2/\s.t 4=vS x4.2.2/\s.t 12=vB bj.2.2/\s.h 2=V4/\s.h 7059000=(1,oB 138 [.old B0 (.sl (List.map enB p0.b)) (some u0),cI bj.1,cI bj.2.1])/\True) ?_;rintro cn f24;rcases CP bj.2.2 with bo | bo;(replace h:=bP bo h;refine cf (sk ?_);cases h;exact fB zM);replace h:=bQ bo h;refine ct ?_;obtain⟨cp,bx,h⟩:=aA h;refine rn1 (aDa.1 _ _ bx) ?_;cases h;exact fB zM
 clear bn
 rintro av f15
 refine sq ?_
 obtain⟨cq,bz,h⟩:=aA h
 obtain⟨cr,ca,h⟩:=aA h
 obtain⟨bu,cc,h⟩:=aA h
 obtain⟨af,cd,h⟩:=aA h
 refine rn4 (c48.1 _ _ _ bz) (c48.1 _ _ _ ca) (aFM.1 _ _ cc) (aFt.1 _ _ _ _ _ _ cd) ?_
 refine an (sq (sq ?_))
 obtain⟨V1,eV1⟩:=nmH (((av.h 600026).1+1,oW 229 4 M.aY.en af.1.aKh.aLA))
 obtain⟨V2,eV2⟩:=nmH (((av.h 500026).1+1,oW 173 2 M.aT.en af.1.aT))
 obtain⟨V3,eV3⟩:=nmH (((av.h 800026).1+1,oW 3 1 enI af.1.aKh.aLN))
 obtain⟨V5,eV5⟩:=nmT (vP 5 ((av.h 5).1+1) 0)
 refine cu (λs=>s.t 0=V7/\s.t 2=V6/\s.t 5=V5/\s.h 2=V4/\s.h 5=((av.h 5).1+1,oB 44 [cI af.1.Id,cS af.1.aKl,cS af.1.Top,cI af.1.aKb,.row 500026 ((av.h 500026).1+1),.row 600026 ((av.h 600026).1+1),cI af.1.aKh.Pc,.row 800026 ((av.h 800026).1+1),cI af.1.aKh.aLM,cB af.1.aKh.aLU,cB af.1.aKh.aLR])/\s.h 500026=V2/\s.h 600026=V1/\s.h 800026=V3/\s.h 7059000=(1,oB 138 [.old B0 (.sl (List.map enB p0.b)) (some u0),cI bu.1,cI bu.2.1])/\True) ?_
 rintro cg f43
 obtain⟨bg,cj,h⟩:=aA h
 refine rn1 (c48.1 _ _ _ cj) ?_
 refine an (bk ?_)
 refine cu (λs=>s.h 5=cg.h 5/\s.t 0=V7/\s.t 2=V6/\s.t 5=V5/\s.t 7=vI bg.2.2/\s.h 2=V4/\s.h 500026=V2/\s.h 600026=V1/\s.h 800026=V3/\s.h 7059000=(1,oB 138 [.old B0 (.sl (List.map enB p0.b)) (some u0),cI bg.1,cI bg.2.1])/\True) ?_
 rintro bq ⟨f60,f55⟩
 replace f60:=f60.trans f43.2.2.2.2.1
 refine Cj (Gho.trans (Gho.trans (ghB 5 4 7050000 500026) (ghB 5 5 7050001 600026)) (ghB 5 7 7050002 800026)) ?_
 refine GF (λm s=>∃v7:Int,∃aw:Int,∃ax:ByteArray,∃ay:ByteArray,∃az:Int,∃ba:Int,∃bd:Int,∃bf:Bool,∃ar:Bool,∃aa:Int,∃ae:Int,∃ai:List M.aT,∃aj:List M.aY,∃ak:List Int,∃al:Nat,∃ao:Nat,∃aq:Nat,s.t 0=V7/\s.t 2=V6/\s.t 5=V5/\s.t 7=vI v7/\s.h 2=V4/\s.h 5=((av.h 5).1+1,oB 44 [cI aw,cS ax,cS ay,cI az,.row 7050000 al,.row 7050001 ao,cI ba,.row 7050002 aq,cI bd,cB bf,cB ar])/\s.h 7050000=(al,oW 173 2 M.aT.en ai)/\s.h 7050001=(ao,oW 229 4 M.aY.en aj)/\s.h 7050002=(aq,oW 3 1 enI ak)/\s.h 7059000=(1,oB 138 [.old B0 (.sl (List.map enB p0.b)) (some u0),cI aa,cI ae])/\sK p0 m v7 aw ax ay az ba bd bf ar aa ae ai aj ak=some r) aJ ?_ ?_
 ·exact⟨bg.2.2,af.1.Id,af.1.aKl,af.1.Top,af.1.aKb,af.1.aKh.Pc,af.1.aKh.aLM,af.1.aKh.aLU,af.1.aKh.aLR,bg.1,bg.2.1,af.1.aT,af.1.aKh.aLA,af.1.aKh.aLN,(bq.h 7050000).1+1,(bq.h 7050001).1+1,(bq.h 7050002).1+1,zM⟩
 rintro mL1 bh ⟨v7,aw,ax,ay,az,ba,bd,bf,ar,aa,ae,ai,aj,ak,al,ao,aq,f66,f67,f68,f69,f70,f71,f72,f73,f74,f75,h⟩
 rcases mL1 with _ | mL1
 ·exact absurd h (by simp[sK])
 simp only[sK]at h
 refine sq (sq (rn ?_))
 refine an ?_
 rcases CP (decide (v7>0))with br | br
 ·replace h:=bP br h;refine cf (xt (CO (CL (Gs (an (sq (rn ?_)))))));refine an (rt ?_);cases h;simp[Ma,Ret,TB,EN, *]
 replace h:=bQ br h
 refine ct (sk (an (sq (bk ?_))))
 obtain⟨bl,ck,h⟩:=aA h
 obtain⟨ah,cl,h⟩:=aA h
 refine rd2 mixed (aFD.1 _ _ ck) (aFq.1 _ _ _ _ cl) ?_
 refine ab (an ?_)
 refine cu (λs=>s.t 0=V7/\s.t 2=V6/\s.t 5=V5/\s.t 7=vI v7/\s.h 2=V4/\s.h 5=((av.h 5).1+1,oB 44 [cI ah.1.Id,cS ah.1.aKl,cS ah.1.Top,cI ah.1.aKb,.row 500042 ((bh.h 500042).1+1),.row 600042 ((bh.h 600042).1+1),cI ah.1.aKh.Pc,.row 800042 ((bh.h 800042).1+1),cI ah.1.aKh.aLM,cB ah.1.aKh.aLU,cB ah.1.aKh.aLR])/\s.h 500042=((bh.h 500042).1+1,oW 173 2 M.aT.en ah.1.aT)/\s.h 600042=((bh.h 600042).1+1,oW 229 4 M.aY.en ah.1.aKh.aLA)/\s.h 800042=((bh.h 800042).1+1,oW 3 1 enI ah.1.aKh.aLN)/\s.h 7059000=(1,oB 138 [.old B0 (.sl (List.map enB p0.b)) (some u0),cI bl.1,cI bl.2.1])/\True) ?_
 rintro bt f82
 refine rn ?_
 exact fB ⟨_,Gho.trans (Gho.trans (ghB 5 4 7050000 500042) (ghB 5 5 7050001 600042)) (ghB 5 7 7050002 800042),mL1,wg,IntKind.i64.wrap (v7-1),ah.1.Id,ah.1.aKl,ah.1.Top,ah.1.aKb,ah.1.aKh.Pc,ah.1.aKh.aLM,ah.1.aKh.aLU,ah.1.aKh.aLR,bl.1,bl.2.1,ah.1.aT,ah.1.aKh.aLA,ah.1.aKh.aLN,(bt.h 7050000).1+1,(bt.h 7050001).1+1,(bt.h 7050002).1+1,zM⟩⟩
instance:bU 235 (∀p0 r (h:DI p0=some r),Sc 235 [(false,[.ptr [.sl (List.map enB p0.b),.int .i64 p0.i,.int .i64 p0.h]])] [(false,[.edit (.lend 138 [.int .i64 r.1,.int .i64 r.2.1])]),(true,M.cH.rs r.2.2)]):=⟨λp0 r h=>by
 unfold DI at h
 simp only[EN]
 refine sgB 46 [.cell 2 182] func235 λbase wd B0 u0 hw0=> ?_
 refine bY (J:=λs=>s.t 0=vP 7059000 1 0/\s.h 7059000=(1,oB 138 [.old B0 (.sl (List.map enB p0.b)) (some u0),cI p0.i,cI p0.h])/\True) ?_ ?_
 ·and_intros<;>(try simp only[LN,jJ,jK])<;>rfl
 rintro s1 f2
 exact sgX⟩
