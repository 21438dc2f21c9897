/-
  Helper text. No conditions.
-/
import Derived.Test.YtjlnkcoeghonfaaGreatRunningPagesWimpl3
import Derived.Test.YtjlnkcoeghonfaaGreatRunningPagesWimpl4
set_option linter.all false
namespace Go.Proofs.YtjlnkcoeghonfaaGreat.gen
open Go Go.Sh Tryz
set_option maxRecDepth 20000
set_option maxHeartbeats 4000000
instance:bK 367 (∀p0 r (h:zI p0=some r),Sc 367 [aX (M.aJ.en p0)] [(true,M.aJ.rs r)]):=⟨λp0 r h=>by
 have i1:=G8 [.b 3 0 7050100 277 2] λm s=>∃aj:Int,∃ah:List M.aLi,∃aa:Nat,(s.t 2=vP 2 1 0/\s.t 3=vP 3 1 0/\s.t 11=vL M.aLi.en p0.aLW/\s.t 12=vI (List.length p0.aLW:Int)/\s.t 13=vI aj/\s.h 2=(1,oB 66 [.nil])/\s.h 3=(1,oB 66 [.row 7050100 aa])/\s.h 7050100=(aa,oW 277 2 M.aLi.en ah))/\fU p0 m aj ah=some r
 have e1:=@fU.eq_2
 have i2:=λ(aj:Int) (ah:List M.aLi) (ak:M.aLi) (al:Int->List M.aLr->Option M.aJ) (s1:St) (aa:Nat)=>G8 [.b 6 1 7050000 279 7] λm s=>∃ai:Int,∃ae:List M.aLr,∃af:Nat,(s.t 2=vP 2 1 0/\s.t 3=vP 3 1 0/\s.t 6=vP 6 ((s1.h 6).1+1) 0/\s.t 11=vL M.aLi.en p0.aLW/\s.t 12=vI (List.length p0.aLW:Int)/\s.t 13=vI aj/\s.t 21=vL M.aLr.en ak.aLg/\s.t 22=vI (List.length ak.aLg:Int)/\s.t 23=vI ai/\s.h 2=(1,oB 66 [.nil])/\s.h 3=(1,oB 66 [.row 7050100 aa])/\s.h 6=((s1.h 6).1+1,oB 277 [cI ak.aLT,.row 7050000 af])/\s.h 7050000=(af,oW 279 7 M.aLr.en ae)/\s.h 7050100=(aa,oW 277 2 M.aLi.en ah))/\kE ak al m ai ae=some r
 have e2:=@kE.eq_2
 unfold zI at h
 exact sgo 46 [.cell 2 66] func367⟩
instance aDe:bK 258 (∀p0 r (h:cE p0=some r),Sc 258 [aS p0] [rB r]):=⟨λp0 r h=>by unfold cE at h;exact sgo 5 [.tmp 2] func258⟩
instance:bK 369 (∀p0 r (h:A6 p0=some r),Sc 369 [aX (M.aLU.en p0)] [rB r]):=⟨λp0 r h=>by
 unfold A6 at h
 simp only[EN]
 refine sgn 37 [.tmp 2] func369 λbase wd=> ?_
 refine sq (rn ?_)
 refine an (sq (rn ?_))
 refine an (sq (sq (rn ?_)))
 refine an (bk ?_)
 obtain⟨V1,eV1⟩:=nmH ((1,oW 3 1 enI ([p0.aMA,p0.aL6,p0.aL0])))
 refine cu (λs=>s.t 1=vP 1 1 0/\s.t 3=vI 0/\s.t 12=vR 100012 1/\s.t 13=vI ((3:Nat):Int)/\s.t 14=vI 0/\s.h 1=(1,oX 63 (M.aLU.en p0))/\s.h 100012=V1/\True) ?_
 rintro s1 f2
 refine Hn (λm s=>∃v3:Int,∃aa:Int,s.t 1=vP 1 1 0/\s.t 3=vI v3/\s.t 12=vR 100012 1/\s.t 13=vI ((3:Nat):Int)/\s.t 14=vI aa/\s.h 1=(1,oX 63 (M.aLU.en p0))/\s.h 100012=V1/\eO p0 m v3 aa=some r) aH ?_ ?_
 ·exact⟨0,0,zM⟩
 rintro mL1 s9 ⟨v3,aa,f10,f11,f12,f13,f14,f15,f16,h⟩
 rcases mL1 with _|mL1
 ·exact absurd h (by simp[eO])
 simp only[eO]at h
 refine sq (rn ?_)
 refine an (sq ?_)
 rcases Dz (decide (aa<((3:Nat):Int)))with af|af
 ·replace h:=bM af h;refine cf (xt (Da (CW (GI (an (sq ?_))))));obtain⟨av,al,h⟩:=aA h;refine rn1 (aDe.1 _ _ al) ?_;exact an (rt zR)
 replace h:=bN af h
 refine ct (sk (an (sq (bk (sq ?_)))))
 obtain⟨ae,ao,h⟩:=aA h
 obtain⟨aw,ax,aq⟩:=nJ ao
 have q20m:=congrArg (Option.map enI) (show([p0.aMA,p0.aL6,p0.aL0])[aa.toNat]? =some ae by assumption)
 simp only[<-List.getElem?_map,jI,jJ,Option.map_some,EN]at q20m
 simp only[qJ,qK,Nat.reduceAdd]at aq
 refine rn ?_
 refine an (sq (sq ?_))
 obtain⟨ar,ah,h⟩:=aA h
 rcases dX (!ar)with ai|ai
 ·replace h:=bN ai h;refine rn1 (R9.1 _ _ _ _ ah) ?_;refine an (ct (sq (rn ?_)));exact an (rt zR)
 replace h:=bM ai h
 rcases Dz (ae !=0)with aj|aj
 ·replace h:=bM aj h;refine rn1 (R9.1 _ _ _ _ ah) ?_;refine an (cf (sk (an (rn ?_))));refine ab (an (rn ?_));exact cZ ⟨mL1,wi,if ae>v3 then ae else v3,IntKind.i64.wrap (aa+1),zM⟩
 replace h:=bN aj h
 refine rn1 (R9.1 _ _ _ _ ah) ?_
 refine an ?_
 rcases dX (decide (ae<=v3))with ak|ak
 ·replace h:=bN ak h;refine ct (sq (rn ?_));exact an (rt zR)
 replace h:=bM ak h
 refine cf (sk (an (rn ?_)))
 refine ab (an (rn ?_))
 exact cZ ⟨mL1,wi,if ae>v3 then ae else v3,IntKind.i64.wrap (aa+1),zM⟩⟩
instance:bK 370 (∀p0 r (h:Bp p0=some r),Sc 370 [aX (M.aJ.en p0)] [rB r]):=⟨λp0 r h=>by
 have i1:=inv λm s=>∃v10:Int,(s.t 1=vP 1 1 0/\s.t 8=vL M.aLi.en p0.aLW/\s.t 9=vI (List.length p0.aLW:Int)/\s.t 10=vI v10/\s.h 1=(1,oX 66 (M.aJ.en p0)))/\gH p0 m v10=some r
 have e1:=@gH.eq_2
 have i2:=λ(v10:Int) (x8:M.aLi) (af:Int->Option Bool) (s1:St)=>inv λm s=>∃aa:Int,(s.t 1=vP 1 1 0/\s.t 4=vP 4 ((s1.h 4).1+1) 0/\s.t 8=vL M.aLi.en p0.aLW/\s.t 9=vI (List.length p0.aLW:Int)/\s.t 10=vI v10/\s.t 42=vL M.aLr.en x8.aLg/\s.t 43=vI (List.length x8.aLg:Int)/\s.t 44=vI aa/\s.h 1=(1,oX 66 (M.aJ.en p0))/\s.h 4=((s1.h 4).1+1,oX 277 (M.aLi.en x8)))/\gI x8 af m aa=some r
 have e2:=@gI.eq_2
 have i3:=λ(v10:Int) (x8:M.aLi) (ah:Int->Option Bool) (s1:St)=>inv λm s=>∃ae:Int,(s.t 1=vP 1 1 0/\s.t 4=vP 4 ((s1.h 4).1+1) 0/\s.t 8=vL M.aLi.en p0.aLW/\s.t 9=vI (List.length p0.aLW:Int)/\s.t 10=vI v10/\s.t 42=vL M.aLr.en x8.aLg/\s.t 43=vI (List.length x8.aLg:Int)/\s.t 44=vI ae/\s.h 1=(1,oX 66 (M.aJ.en p0))/\s.h 4=((s1.h 4).1+1,oX 277 (M.aLi.en x8)))/\fW x8 ah m ae=some r
 have e3:=@fW.eq_2
 unfold Bp at h
 exact sgo 81 [.tmp 2] func370⟩
instance:bK 275 (∀p0 r (h:cW p0=some r),Sc 275 [aX (M.aF.en p0)] [rB r]):=⟨λp0 r h=>by
 have i1:=inv λm s=>∃v8:Int,(s.t 1=vP 1 1 0/\s.t 6=vL M.aR.en p0.aLY/\s.t 7=vI (List.length p0.aLY:Int)/\s.t 8=vI v8/\s.h 1=(1,oX 207 (M.aF.en p0)))/\kO p0 m v8=some r
 have e1:=@kO.eq_2
 unfold cW at h
 exact sgo 44 [.tmp 2] func275⟩
instance:bK 262 (∀p0 r (h:rJ p0=some r),Sc 262 [aX (M.bR.en p0)] [rB r]):=⟨λp0 r h=>by unfold rJ at h;exact sgo 26 [.tmp 2] func262⟩
instance:bK 144 (∀p0 r (h:B9 p0=some r),Sc 144 [aX (M.bO.en p0)] [rB r]):=⟨λp0 r h=>by
 have i1:=inv λm s=>∃v8:Int,(s.t 1=vP 1 1 0/\s.t 6=vL M.aW.en p0.aW/\s.t 7=vI (List.length p0.aW:Int)/\s.t 8=vI v8/\s.h 1=(1,oX 91 (M.bO.en p0)))/\xK p0 m v8=some r
 have e1:=@xK.eq_2
 unfold B9 at h
 exact sgo 48 [.tmp 2] func144⟩
instance:bK 146 (∀p0 r (h:B4 p0=some r),Sc 146 [aX (M.aLa.en p0)] [rB r]):=⟨λp0 r h=>by
 have i1:=inv λm s=>∃v8:Int,(s.t 1=vP 1 1 0/\s.t 6=vL enS p0.aL4/\s.t 7=vI (List.length p0.aL4:Int)/\s.t 8=vI v8/\s.h 1=(1,oX 151 (M.aLa.en p0)))/\nH p0 m v8=some r
 have e1:=@nH.eq_2
 unfold B4 at h
 exact sgo 45 [.tmp 2] func146⟩
instance:bK 150 (∀p0 p1 r (h:yC p0 p1=some r),Sc 150 [aX (M.aZ.en p0),aI p1] [rB r]):=⟨λp0 p1 r h=>by
 unfold yC at h
 simp only[EN]
 refine sgn 94 [.tmp 4] func150 λbase wd=> ?_
 refine sq (rn ?_)
 refine an (sq ?_)
 obtain⟨x1,h2,h⟩:=aA h
 refine tV (λs=>s.t 1=vI p1/\s.t 2=vP 2 1 0/\s.t 30=vB x1/\s.h 2=(1,oX 197 (M.aZ.en p0))/\True) ?_ ?_
 ·replace h:=h2;clear h2;obtain⟨x8,h9,h⟩:=aA h;rcases dX (!x8)with ae|ae;(replace h:=bN ae h;refine rn1 (R9.1 _ _ _ _ h9) ?_;cases h;exact cZ zM);replace h:=bM ae h;obtain⟨bt,aa,h⟩:=aA h;rcases dX (!bt)with af|af;(replace h:=bN af h;refine rn2 (R9.1 _ _ _ _ h9) (R9.1 _ _ _ _ aa) ?_;cases h;exact cZ zM);replace h:=bM af h;rcases dX (p0.aLn==4)with ah|ah;(replace h:=bN ah h;refine rn2 (R9.1 _ _ _ _ h9) (R9.1 _ _ _ _ aa) ?_;cases h;exact cZ zM);replace h:=bM ah h;rcases dX (p0.aLn==9)with ai|ai;(replace h:=bN ai h;refine rn2 (R9.1 _ _ _ _ h9) (R9.1 _ _ _ _ aa) ?_;cases h;exact cZ zM);replace h:=bM ai h;refine rn2 (R9.1 _ _ _ _ h9) (R9.1 _ _ _ _ aa) ?_;cases h;exact cZ zM
 clear h2
 rintro s3 f4
 rcases dX x1 with aj|aj
 ·replace h:=bN aj h;refine ct (sq (rn ?_));exact an (rt zR)
 replace h:=bM aj h
 refine cf (sk (an ?_))
 obtain⟨bm,ak,h⟩:=aA h
 refine tV (λs=>s.t 1=vI p1/\s.t 2=vP 2 1 0/\s.t 5=vB bm/\s.h 2=(1,oX 197 (M.aZ.en p0))/\True) ?_ ?_
 ·replace h:=ak;clear ak;rcases dX (p0.aLn==5)with al|al;(replace h:=bN al h;refine rn ?_;cases h;exact cZ zM);replace h:=bM al h;rcases dX (p0.aLn==6)with ao|ao;(replace h:=bN ao h;refine rn ?_;cases h;exact cZ zM);replace h:=bM ao h;rcases dX (p0.aLn==7)with aq|aq;(replace h:=bN aq h;refine rn ?_;cases h;exact cZ zM);replace h:=bM aq h;refine rn ?_;cases h;exact cZ zM
 clear ak
 rintro cc f20
 refine sq ?_
 obtain⟨bn,ar,h⟩:=aA h
 refine tV (λs=>s.t 1=vI p1/\s.t 2=vP 2 1 0/\s.t 64=vB bn/\s.h 2=(1,oX 197 (M.aZ.en p0))/\True) ?_ ?_
 ·replace h:=ar;clear ar;rcases Dz bm with av|av;(replace h:=bM av h;refine rn ?_;cases h;exact cZ zM);replace h:=bN av h;obtain⟨bu,bo,h⟩:=aA h;rcases dX (!bu)with aw|aw;(replace h:=bN aw h;refine rn1 (aDe.1 _ _ bo) ?_;cases h;exact cZ zM);replace h:=bM aw h;refine rn1 (aDe.1 _ _ bo) ?_;cases h;exact cZ zM
 clear ar
 rintro cd f30
 rcases dX bn with ax|ax
 ·replace h:=bN ax h;refine ct (sq (rn ?_));exact an (rt zR)
 replace h:=bM ax h
 refine cf (sk (an (sq (sq (rn ?_)))))
 refine an (bk (sq (rn ?_)))
 refine an ?_
 rcases dX (p0.aLn==1)with ay|ay
 ·replace h:=bN ay h;refine ct (sq ?_);obtain⟨cg,bw,h⟩:=aA h;refine rn1 (R9.1 _ _ _ _ bw) ?_;exact an (rt zR)
 replace h:=bM ay h
 refine cf (sq (rn ?_))
 refine an ?_
 rcases dX (p0.aLn==2)with az|az
 ·replace h:=bN az h;refine ct (sq ?_);obtain⟨cj,bx,h⟩:=aA h;refine rn1 (R9.1 _ _ _ _ bx) ?_;exact an (rt zR)
 replace h:=bM az h
 refine cf ?_
 obtain⟨bq,ba,h⟩:=aA h
 refine tV (λs=>s.t 1=vI p1/\s.t 2=vP 2 1 0/\s.t 66=vI p0.aLn/\s.t 77=vB bq/\s.h 2=(1,oX 197 (M.aZ.en p0))/\True) ?_ ?_
 ·replace h:=ba;clear ba;refine sq (rn ?_);refine an ?_;rcases dX (p0.aLn==3)with bd|bd;(replace h:=bN bd h;refine ct (sk ?_);cases h;exact cZ zM);replace h:=bM bd h;refine cf (rn ?_);cases h;exact cZ zM
 clear ba
 rintro ck f48
 rcases dX bq with bf|bf
 ·replace h:=bN bf h;refine ct (sq ?_);obtain⟨cl,bz,h⟩:=aA h;refine rn1 (R9.1 _ _ _ _ bz) ?_;exact an (rt zR)
 replace h:=bM bf h
 refine cf ?_
 obtain⟨br,bg,h⟩:=aA h
 refine tV (λs=>s.t 2=vP 2 1 0/\s.t 84=vB br/\s.h 2=(1,oX 197 (M.aZ.en p0))/\True) ?_ ?_
 ·replace h:=bg;clear bg;refine sq (rn ?_);refine an ?_;rcases dX (p0.aLn==6)with bh|bh;(replace h:=bN bh h;refine ct (sk ?_);cases h;exact cZ zM);replace h:=bM bh h;refine cf (sq (rn ?_));refine an ?_;rcases dX (p0.aLn==7)with bj|bj;(replace h:=bN bj h;refine ct (sk ?_);cases h;exact cZ zM);replace h:=bM bj h;refine cf (rn ?_);cases h;exact cZ zM
 clear bg
 rintro cn f60
 rcases Dz br with bl|bl
 ·replace h:=bM bl h;refine cf (sk (ab (an (sq (rn ?_)))));exact an (rt zR)
 replace h:=bN bl h
 refine ct (sq ?_)
 obtain⟨cp,ca,h⟩:=aA h
 refine rn1 (R9.1 _ _ _ _ ca) ?_
 exact an (rt zR)⟩
instance:bK 264 (∀p0 p1 p2 p3 r (h:BR p0 p1 p2 p3=some r),Sc 264 [aX (M.aJ.en p0),aI p1,aS p2,aS p3] [(true,M.aLb.rs r.1),rB r.2]):=⟨λp0 p1 p2 p3 r h=>by unfold BR at h;exact sgo 40 [.cell 8 107,.tmp 9] func264⟩
instance:bK 380 (∀p0 p1 r (h:DI p0 p1=some r),Sc 380 [aX (M.aLa.en p0),aS p1] [rB r]):=⟨λp0 p1 r h=>by unfold DI at h;exact sgo 9 [.tmp 4] func380⟩
instance:bK 157 (∀p0 p1 r (h:Dn p0 p1=some r),Sc 157 [aX (M.aLS.en p0),aI p1] [(true,M.aF.ra r.1),rB r.2.1,rB r.2.2]):=⟨λp0 p1 r h=>by unfold Dn at h;exact sgo 35 [.cell 4 207,.tmp 5,.tmp 6] func157⟩
instance:bK 576 (∀p0 p1 r (h:uR p0 p1=some r),Sc 576 [aX (M.aLb.en p0),aX (M.aLb.en p1)] [rB r]):=⟨λp0 p1 r h=>by unfold uR at h;exact sgo 38 [.tmp 4] func576⟩
theorem aKZ(p0 p1 r)(h:vF p0 p1=some r):Sc 523 [aX (M.aLr.en p0),aX (M.aLr.en p1)] [rB r]:=by unfold vF at h;exact sgo 24 [.tmp 4] func523
instance:bK 437 (∀p0 p1 r (h:BQ p0 p1=some r),Sc 437 [aX (M.aLs.en p0),aX (M.aLs.en p1)] [rB r]):=⟨λp0 p1 r h=>by unfold BQ at h;exact sgo 24 [.tmp 4] func437⟩
theorem c21(p0 p1 r)(h:tJ p0 p1=some r):Sc 21 [aX (M.aD.en p0),aI p1] [rB r]:=by unfold tJ at h;exact sgo 20 [.tmp 4] func21
