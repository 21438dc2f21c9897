/-
  Helper text. No conditions.
-/
import Derived.Test.YtjlnkcoeghonfaaGreatRunPageWspec0
import Derived.Test.YtjlnkcoeghonfaaGreatRunPageWspec1
set_option linter.all false
namespace Go.Proofs.YtjlnkcoeghonfaaGreat.gen
open Go Go.Sh
set_option maxRecDepth 20000
set_option maxHeartbeats 4000000
instance:aW 334 (∀p0 r (h:CT p0=some r),Sc 334 [aX (M.aO.en p0)] [(true,M.aO.rs r)]):=⟨λp0 r h=>by
 have i1:=Mt [.b 3 0 7050000 277 2] λm s=>∃v4:Int,∃aa:List M.aJ0,∃ae:Nat,(s.t 1=vP 1 1 0/\s.t 2=vP 2 1 0/\s.t 3=vP 3 1 0/\s.t 4=vI v4/\s.h 1=(1,oX 66 (M.aO.en p0))/\s.h 2=(1,oB 66 [.nil])/\s.h 3=(1,oB 66 [.row 7050000 ae])/\s.h 7050000=(ae,oW 277 2 M.aJ0.en aa))/\oQ p0 m v4 aa=some r
 have e1:=@oQ.eq_2
 unfold CT at h
 exact sgo 25 [.cell 2 66] Tryz.func334⟩
instance:aW 224 (∀p0 r (h:dE p0=some r),Sc 224 [aX (M.aD.en p0)] [(true,M.aD.rs r)]):=⟨λp0 r h=>by
 have i1:=Mt [.b 3 1 7050000 320 4] λm s=>∃v4:Int,∃aa:List M.aJt,∃ae:Nat,(s.t 1=vP 1 1 0/\s.t 2=vP 2 1 0/\s.t 3=vP 3 1 0/\s.t 4=vI v4/\s.h 1=(1,oX 75 (M.aD.en p0))/\s.h 2=(1,oB 75 [cS (⟨#[]⟩:ByteArray),.nil,cI 0])/\s.h 3=(1,oB 75 [cS p0.Name,.row 7050000 ae,cI p0.aKG])/\s.h 7050000=(ae,oW 320 4 M.aJt.en aa))/\rF p0 m v4 aa=some r
 have e1:=@rF.eq_2
 unfold dE at h
 exact sgo 29 [.cell 2 75] Tryz.func224⟩
instance:aW 342 (∀p0 r (h:mM p0=some r),Sc 342 [aX (M.aJj.en p0)] [(true,M.aJj.rs r)]):=⟨λp0 r h=>by
 have i1:=Mt [.b 3 2 7050000 75 3] λm s=>∃v4:Int,∃aa:List M.aD,∃ae:Nat,(s.t 1=vP 1 1 0/\s.t 2=vP 2 1 0/\s.t 3=vP 3 1 0/\s.t 4=vI v4/\s.h 1=(1,oX 70 (M.aJj.en p0))/\s.h 2=(1,Xe)/\s.h 3=(1,oB 70 [cS p0.Name,cI p0.aJl,.row 7050000 ae,.row 100009 2])/\s.h 100009=(2,oW 382 2 M.aG.en p0.aJ5)/\s.h 7050000=(ae,oW 75 3 M.aD.en aa))/\rG p0 m v4 aa=some r
 have e1:=@rG.eq_2
 unfold mM at h
 exact sgo 33 [.cell 2 70] Tryz.func342⟩
instance aB2:aW 239 (∀p0 r (h:wG p0=some r),Sc 239 [aX (M.aE.en p0)] [(true,M.aE.rs r)]):=⟨λp0 r h=>by unfold wG at h;exact sgo 12 [.cell 2 82] Tryz.func239⟩
instance:aW 31 (∀p0 r (h:kK p0=some r),Sc 31 [aX (M.bD.en p0)] [(true,M.bD.rs r)]):=⟨λp0 r h=>by unfold kK at h;exact sgo 15 [.cell 2 91] Tryz.func31⟩
instance:aW 109 (∀p0 r (h:CE p0=some r),Sc 109 [aX (M.aJv.en p0)] [(true,M.aJv.rs r)]):=⟨λp0 r h=>by unfold CE at h;exact sgo 15 [.cell 2 156] Tryz.func109⟩
instance:aW 88 (∀p0 r (h:zF p0=some r),Sc 88 [aX (M.aJr.en p0)] [rB r]):=⟨λp0 r h=>by
 have i1:=inv λm s=>∃v3:Int,(s.t 1=vP 1 1 0/\s.t 3=vI v3/\s.h 1=(1,oX 151 (M.aJr.en p0)))/\kQ p0 m v3=some r
 have e1:=@kQ.eq_2
 unfold zF at h
 exact sgo 50 [.tmp 2] Tryz.func88⟩
instance:aW 205 (∀p0 r (h:nF p0=some r),Sc 205 [aX (M.aY.en p0)] [rB r]):=⟨λp0 r h=>by unfold nF at h;exact sgo 26 [.tmp 2] Tryz.func205⟩
instance:aW 232 (∀p0 r (h:bS p0=some r),Sc 232 [aX (M.aC.en p0)] [rB r]):=⟨λp0 r h=>by
 have i1:=inv λm s=>∃v3:Int,(s.t 1=vP 1 1 0/\s.t 3=vI v3/\s.h 1=(1,oX 207 (M.aC.en p0)))/\gN p0 m v3=some r
 have e1:=@gN.eq_2
 unfold bS at h
 exact sgo 53 [.tmp 2] Tryz.func232⟩
instance:aW 318 (∀p0 p1 r (h:bO p0 p1=some r),Sc 318 [aX (M.Key.en p0),aX (M.Key.en p1)] [rI r]):=⟨λp0 p1 r h=>by unfold bO at h;exact sgo 46 [.tmp 4] Tryz.func318⟩
instance:aW 206 (∀p0 r (h:oV p0=some r),Sc 206 [aX (M.aD.en p0)] [rB r]):=⟨λp0 r h=>by
 have i1:=inv λm s=>∃v3:Int,(s.t 1=vP 1 1 0/\s.t 3=vI v3/\s.h 1=(1,oX 75 (M.aD.en p0)))/\iQ p0 m v3=some r
 have e1:=@iQ.eq_2
 unfold oV at h
 exact sgo 64 [.tmp 2] Tryz.func206⟩
instance:aW 91 (∀p0 r (h:zL p0=some r),Sc 91 [aX (M.bD.en p0)] [rB r]):=⟨λp0 r h=>by
 have i1:=inv λm s=>∃v3:Int,(s.t 1=vP 1 1 0/\s.t 3=vI v3/\s.h 1=(1,oX 91 (M.bD.en p0)))/\rC p0 m v3=some r
 have e1:=@rC.eq_2
 unfold zL at h
 exact sgo 54 [.tmp 2] Tryz.func91⟩
instance:aW 319 (∀p0 r (h:lZ p0=some r),Sc 319 [aX (M.aJk.en p0)] [rB r]):=⟨λp0 r h=>by
 unfold lZ at h
 simp only[EN]
 refine sgn 52 [.tmp 2] Tryz.func319 λbase wd => ?_
 refine sq (rn ?_)
 refine an (sq (rn ?_))
 refine an (sq (rn ?_))
 refine an (sq (sq ?_))
 refine cu (λs=>s.t 1=vP 1 1 0/\s.t 3=vI 0/\s.t 4=vR 100012 1/\s.h 1=(1,oX 63 (M.aJk.en p0))/\s.h 100012=(1,oW 3 1 enI ([p0.aKT,p0.aKN,p0.aKI]))/\True) ?_
 rintro s1 f2
 refine rn ?_
 refine an (bk ?_)
 refine GJ (λm s=>∃v3:Int,∃v5:Int,s.t 1=vP 1 1 0/\s.t 3=vI v3/\s.t 4=vR 100012 1/\s.t 5=vI v5/\s.h 1=(1,oX 63 (M.aJk.en p0))/\s.h 100012=(1,oW 3 1 enI ([p0.aKT,p0.aKN,p0.aKI]))/\cJ p0 m v3 v5=some r) fuel ?_ ?_
 ·refine⟨0,0,?_,?_,?_,?_,?_,?_,h⟩;all_goals simp +decide only[F,reduceIte,Nat.reduceAdd,qB,qC,EN, *,-h]
 rintro mL1 s7 ⟨v3,v5,f8,f9,f10,f11,f12,f13,h⟩
 rcases mL1 with _ | mL1
 ·exact absurd h (by simp[cJ])
 simp only[cJ]at h
 refine sq (sq (rn ?_))
 refine an ?_
 rcases GH (decide (v5<((3:Nat):Int)))with ae | ae
 ·replace h:=bJ ae h;refine cf (xt (E2 (EW (IA (an (sq ?_))))));obtain⟨ar,ak,h⟩:=bind_some h;refine rn1 (aAR.1 _ _ ak) ?_;refine an (rt ?_);cases h;simp[Ret,TB,EN, *]
 replace h:=bK ae h
 refine ct (sk (an (sq (bk (sq (sq ?_))))))
 obtain⟨aa,al,h⟩:=bind_some h
 obtain⟨av,aw,ao⟩:=aU al
 have q17m:=congrArg (Option.map enI) (show([p0.aKT,p0.aKN,p0.aKI])[v5.toNat]? = some aa by assumption)
 simp only[<-List.getElem?_map,List.map_cons,List.map_nil,Option.map_some,EN]at q17m
 simp only[qJ,qK,Nat.reduceAdd]at ao
 obtain⟨aq,af,h⟩:=bind_some h
 rcases cM (!aq)with ah | ah
 ·replace h:=bK ah h;refine rn1 (c93.1 _ _ _ _ af) ?_;refine an (ct (sq (rn ?_)));refine an (rt ?_);cases h;simp[Ret,TB,EN, *]
 replace h:=bJ ah h
 rcases GH (aa != 0)with ai | ai
 ·replace h:=bJ ai h;refine rn1 (c93.1 _ _ _ _ af) ?_;refine an (cf (sk (an (sq (rn ?_)))));refine an (cf (sk (ab (an (rn ?_)))));refine jX ⟨mL1,jD,v3,IntKind.i64.wrap (v5+1),?_,?_,?_,?_,?_,?_,h⟩;all_goals simp +decide only[F,reduceIte,Nat.reduceAdd,qB,qC,EN, *,-h]
 replace h:=bK ai h
 refine rn1 (c93.1 _ _ _ _ af) ?_
 refine an ?_
 rcases cM (decide (aa<=v3))with aj | aj
 ·replace h:=bK aj h;refine ct (sq (rn ?_));refine an (rt ?_);cases h;simp[Ret,TB,EN, *]
 replace h:=bJ aj h
 refine cf (sk (an (sq (rn ?_))))
 refine an (ct (rn ?_))
 refine ab (an (rn ?_))
 refine jX ⟨mL1,jD,aa,IntKind.i64.wrap (v5+1),?_,?_,?_,?_,?_,?_,h⟩
 all_goals simp +decide only[F,reduceIte,Nat.reduceAdd,qB,qC,EN, *,-h]⟩
instance:aW 441 (∀p0 r (h:sB p0=some r),Sc 441 [aL M.aJx.en p0] [rB r]):=⟨λp0 r h=>by
 have i1:=inv λm s=>∃v3:Int,(s.t 0=vL M.aJx.en p0/\s.t 3=vI v3)/\eV p0 m v3=some r
 have e1:=@eV.eq_2
 have i2:=λ(v3:Int) (x5:M.aJx) (ae:Int->Option Bool)=>inv λm s=>∃aa:Int,(s.t 0=vL M.aJx.en p0/\s.t 3=vI v3/\s.t 4=vI aa)/\gF p0 v3 x5 ae m aa=some r
 have e2:=@gF.eq_2
 unfold sB at h
 exact sgo 68 [.tmp 2] Tryz.func441⟩
instance:aW 320 (∀p0 r (h:yC p0=some r),Sc 320 [aX (M.aO.en p0)] [rB r]):=⟨λp0 r h=>by
 have i1:=inv λm s=>∃v3:Int,(s.t 1=vP 1 1 0/\s.t 3=vI v3/\s.h 1=(1,oX 66 (M.aO.en p0)))/\eU p0 m v3=some r
 have e1:=@eU.eq_2
 unfold yC at h
 exact sgo 53 [.tmp 2] Tryz.func320⟩
instance:aW 577 (∀p0 p1 p2 r (h:El p0 p1 p2=some r),Sc 577 [aX (M.aJt.en p0),aX (M.aJt.en p1),aS p2] [rB r]):=⟨λp0 p1 p2 r h=>by unfold El at h;exact sgo 41 [.tmp 6] Tryz.func577⟩
instance:aW 354 (∀p0 r (h:sX p0=some r),Sc 354 [aX (M.aM.en p0)] [rB r]):=⟨λp0 r h=>by
 have i1:=inv λm s=>∃v4:Int,(s.t 1=vP 1 1 0/\s.t 3=vI (List.length p0.aJ9:Int)/\s.t 4=vI v4/\s.h 1=(1,oX 78 (M.aM.en p0)))/\mJ p0 m v4=some r
 have e1:=@mJ.eq_2
 unfold sX at h
 exact sgo 60 [.tmp 2] Tryz.func354⟩
instance:aW 349 (∀p0 r (h:kO p0=some r),Sc 349 [aX (M.Key.en p0)] [rW 5 1 enB r]):=⟨λp0 r h=>by
 have i1:=inv λm s=>∃v4:Int,∃aa:List Int,∃ae:Nat,(s.t 1=vP 1 1 0/\s.t 3=vR 100012 ae/\s.t 4=vI v4/\s.h 1=(1,oX 216 (M.Key.en p0))/\s.h 100012=(ae,oW 5 1 enB aa))/\bN p0 m v4 aa=some r
 have e1:=@bN.eq_2
 unfold kO at h
 exact sgo 38 [.tmp 2] Tryz.func349⟩
instance:aW 348 (∀p0 p1 r (h:bW p0 p1=some r),Sc 348 [aL enB p0,aL enB p1] [rW 5 1 enB r]):=⟨λp0 p1 r h=>by unfold bW at h;exact sgo 11 [.tmp 4] Tryz.func348⟩
instance:aW 350 (∀p0 r (h:fZ p0=some r),Sc 350 [aX (M.aC.en p0)] [rW 5 1 enB r]):=⟨λp0 r h=>by
 have i1:=Mt [.t 3 7050000 5 1] λm s=>∃v4:Int,∃aa:List Int,∃ae:Nat,(s.t 1=vP 1 1 0/\s.t 3=vR 7050000 ae/\s.t 4=vI v4/\s.h 1=(1,oX 207 (M.aC.en p0))/\s.h 7050000=(ae,oW 5 1 enB aa))/\cZ p0 m v4 aa=some r
 have e1:=@cZ.eq_2
 unfold fZ at h
 exact sgo 38 [.tmp 2] Tryz.func350⟩
instance:aW 95 (∀p0 r (h:vY p0=some r),Sc 95 [aX (M.aP.en p0)] [rB r]):=⟨λp0 r h=>by
 have i1:=inv λm s=>∃v3:Int,(s.t 1=vP 1 1 0/\s.t 3=vI v3/\s.h 1=(1,oX 43 (M.aP.en p0)))/\fN p0 m v3=some r
 have e1:=@fN.eq_2
 have i2:=λ(v3:Int) (x6:M.eO) (ae:Int->Option Bool) (s1:St)=>inv λm s=>∃aa:Int,(s.t 1=vP 1 1 0/\s.t 3=vI v3/\s.t 4=vP 4 ((s1.h 4).1+1) 0/\s.t 5=vI aa/\s.h 1=(1,oX 43 (M.aP.en p0))/\s.h 4=((s1.h 4).1+1,oX 144 (M.eO.en x6)))/\cW p0 v3 x6 ae m aa=some r
 have e2:=@cW.eq_2
 unfold vY at h
 exact sgo 67 [.tmp 2] Tryz.func95⟩
instance:aW 111 (∀p0 p1 r (h:Ar p0 p1=some r),Sc 111 [aX (M.Instr.en p0),aI p1] [rB r]):=⟨λp0 p1 r h=>by
 unfold Ar at h
 simp only[EN]
 refine sgn 74 [.tmp 4] Tryz.func111 λbase wd => ?_
 refine sq (rn ?_)
 refine an ?_
 obtain⟨x1,h2,h⟩:=bind_some h
 refine Fk (λs=>s.t 1=vI p1/\s.t 2=vP 2 1 0/\s.t 5=vB x1/\s.h 2=(1,oX 197 (M.Instr.en p0))/\True) ?_ ?_
 ·replace h:=h2;clear h2;rcases cM (p0.aJz==5)with b8 | b8;(replace h:=bK b8 h;refine rn ?_;cases h;refine jX ⟨?_,?_,?_,?_,trivial⟩<;>(try simp +decide only[F,reduceIte,Nat.reduceAdd,qB,qC,EN, *,-h]));replace h:=bJ b8 h;obtain⟨x9,bt,h⟩:=bind_some h;refine rn1 (c93.1 _ _ _ _ bt) ?_;cases h;refine jX ⟨?_,?_,?_,?_,trivial⟩<;>(try simp +decide only[F,reduceIte,Nat.reduceAdd,qB,qC,EN, *,-h])
 clear h2
 rintro s3 f4
 refine sq (rn ?_)
 refine an ?_
 obtain⟨bu,aa,h⟩:=bind_some h
 refine Fk (λs=>s.t 2=vP 2 1 0/\s.t 5=vB x1/\s.t 6=vI bu/\s.h 2=(1,oX 197 (M.Instr.en p0))/\True) ?_ ?_
 ·replace h:=aa;clear aa;refine sq (rn ?_);refine an (bk (sq (rn ?_)));refine an ?_;rcases cM (p0.aJz==1)with ae | ae;(replace h:=bK ae h;refine ct (rn ?_);refine ab ?_;cases h;refine jX ⟨?_,?_,?_,?_,trivial⟩<;>(try simp +decide only[F,reduceIte,Nat.reduceAdd,qB,qC,EN, *,-h]));replace h:=bJ ae h;refine cf (sq (rn ?_));refine an ?_;rcases cM (p0.aJz==2)with af | af;(replace h:=bK af h;refine ct (rn ?_);refine ab ?_;cases h;refine jX ⟨?_,?_,?_,?_,trivial⟩<;>(try simp +decide only[F,reduceIte,Nat.reduceAdd,qB,qC,EN, *,-h]));replace h:=bJ af h;refine cf ?_;obtain⟨bl,ah,h⟩:=bind_some h;refine Fk (λs=>s.t 1=vI p1/\s.t 2=vP 2 1 0/\s.t 5=vB x1/\s.t 6=vI 0/\s.t 16=vI p0.aJz/\s.t 21=vB bl/\s.h 2=(1,oX 197 (M.Instr.en p0))/\True) ?_ ?_;(replace h:=ah;clear ah;refine sq (rn ?_);refine an ?_;rcases cM (p0.aJz==3)with ai | ai;(replace h:=bK ai h;refine ct (sk ?_);cases h;refine jX ⟨?_,?_,?_,?_,?_,?_,?_,trivial⟩<;>(try simp +decide only[F,reduceIte,Nat.reduceAdd,qB,qC,EN, *,-h]));replace h:=bJ ai h;refine cf (rn ?_);cases h;refine jX ⟨?_,?_,?_,?_,?_,?_,?_,trivial⟩<;>(try simp +decide only[F,reduceIte,Nat.reduceAdd,qB,qC,EN, *,-h]));clear ah;rintro cd f23;rcases cM bl with aj | aj;(replace h:=bK aj h;refine ct (rn ?_);refine ab ?_;cases h;refine jX ⟨?_,?_,?_,?_,trivial⟩<;>(try simp +decide only[F,reduceIte,Nat.reduceAdd,qB,qC,EN, *,-h]));replace h:=bJ aj h;refine cf ?_;obtain⟨bm,ak,h⟩:=bind_some h;refine Fk (λs=>s.t 2=vP 2 1 0/\s.t 5=vB x1/\s.t 6=vI 0/\s.t 25=vB bm/\s.h 2=(1,oX 197 (M.Instr.en p0))/\True) ?_ ?_;(replace h:=ak;clear ak;refine sq (rn ?_);refine an ?_;rcases cM (p0.aJz==6)with al | al;(replace h:=bK al h;refine ct (sk ?_);cases h;refine jX ⟨?_,?_,?_,?_,?_,trivial⟩<;>(try simp +decide only[F,reduceIte,Nat.reduceAdd,qB,qC,EN, *,-h]));replace h:=bJ al h;refine cf (sq (rn ?_));refine an ?_;rcases cM (p0.aJz==7)with ao | ao;(replace h:=bK ao h;refine ct (sk ?_);cases h;refine jX ⟨?_,?_,?_,?_,?_,trivial⟩<;>(try simp +decide only[F,reduceIte,Nat.reduceAdd,qB,qC,EN, *,-h]));replace h:=bJ ao h;refine cf (rn ?_);cases h;refine jX ⟨?_,?_,?_,?_,?_,trivial⟩<;>(try simp +decide only[F,reduceIte,Nat.reduceAdd,qB,qC,EN, *,-h]));clear ak;rintro cg f35;rcases GH bm with aq | aq;(replace h:=bJ aq h;refine cf (sk (ab ?_));cases h;refine jX ⟨?_,?_,?_,?_,trivial⟩<;>(try simp +decide only[F,reduceIte,Nat.reduceAdd,qB,qC,EN, *,-h]));replace h:=bK aq h;refine ct (rn ?_);refine ab ?_;cases h;refine jX ⟨?_,?_,?_,?_,trivial⟩<;>(try simp +decide only[F,reduceIte,Nat.reduceAdd,qB,qC,EN, *,-h])
 clear aa
 rintro cj f14
 refine sq ?_
 obtain⟨bn,ar,h⟩:=bind_some h
 refine Fk (λs=>s.t 2=vP 2 1 0/\s.t 5=vB x1/\s.t 45=vB bn/\s.h 2=(1,oX 197 (M.Instr.en p0))/\True) ?_ ?_
 ·replace h:=ar;clear ar;obtain⟨bw,av,h⟩:=bind_some h;rcases cM (!bw)with aw | aw;(replace h:=bK aw h;refine rn1 (c93.1 _ _ _ _ av) ?_;cases h;refine jX ⟨?_,?_,?_,?_,trivial⟩<;>(try simp +decide only[F,reduceIte,Nat.reduceAdd,qB,qC,EN, *,-h]));replace h:=bJ aw h;obtain⟨bz,bo,h⟩:=bind_some h;rcases cM (!bz)with ax | ax;(replace h:=bK ax h;refine rn2 (c93.1 _ _ _ _ av) (c93.1 _ _ _ _ bo) ?_;cases h;refine jX ⟨?_,?_,?_,?_,trivial⟩<;>(try simp +decide only[F,reduceIte,Nat.reduceAdd,qB,qC,EN, *,-h]));replace h:=bJ ax h;obtain⟨ck,c5,h⟩:=bind_some h;refine rn3 (c93.1 _ _ _ _ av) (c93.1 _ _ _ _ bo) (c93.1 _ _ _ _ c5) ?_;cases h;refine jX ⟨?_,?_,?_,?_,trivial⟩<;>(try simp +decide only[F,reduceIte,Nat.reduceAdd,qB,qC,EN, *,-h])
 clear ar
 rintro cn f46
 rcases cM bn with ay | ay
 ·replace h:=bK ay h;refine ct (sq (rn ?_));refine an (rt ?_);cases h;simp[Ret,TB,EN, *]
 replace h:=bJ ay h
 refine cf (sk (an (sq ?_)))
 obtain⟨bq,az,h⟩:=bind_some h
 refine Fk (λs=>s.t 2=vP 2 1 0/\s.t 5=vB x1/\s.t 58=vB bq/\s.h 2=(1,oX 197 (M.Instr.en p0))/\True) ?_ ?_
 ·replace h:=az;clear az;rcases cM (p0.aJz==4)with ba | ba;(replace h:=bK ba h;refine rn ?_;cases h;refine jX ⟨?_,?_,?_,?_,trivial⟩<;>(try simp +decide only[F,reduceIte,Nat.reduceAdd,qB,qC,EN, *,-h]));replace h:=bJ ba h;rcases cM (p0.aJz==9)with bd | bd;(replace h:=bK bd h;refine rn ?_;cases h;refine jX ⟨?_,?_,?_,?_,trivial⟩<;>(try simp +decide only[F,reduceIte,Nat.reduceAdd,qB,qC,EN, *,-h]));replace h:=bJ bd h;refine rn ?_;cases h;refine jX ⟨?_,?_,?_,?_,trivial⟩<;>(try simp +decide only[F,reduceIte,Nat.reduceAdd,qB,qC,EN, *,-h])
 clear az
 rintro cq f62
 rcases cM bq with bf | bf
 ·replace h:=bK bf h;refine ct (sq (rn ?_));refine an (rt ?_);cases h;simp[Ret,TB,EN, *]
 replace h:=bJ bf h
 refine cf (sk (an ?_))
 obtain⟨ca,bg,h⟩:=bind_some h
 refine Fk (λs=>s.t 4=vB ca/\True) ?_ ?_
 ·replace h:=bg;clear bg;rcases GH x1 with bh | bh;(replace h:=bJ bh h;refine rn ?_;cases h;refine jX ⟨?_,trivial⟩<;>(try simp +decide only[F,reduceIte,Nat.reduceAdd,qB,qC,EN, *,-h]));replace h:=bK bh h;obtain⟨cc,br,h⟩:=bind_some h;rcases cM cc with bj | bj;(replace h:=bK bj h;refine rn1 (aAR.1 _ _ br) ?_;cases h;refine jX ⟨?_,trivial⟩<;>(try simp +decide only[F,reduceIte,Nat.reduceAdd,qB,qC,EN, *,-h]));replace h:=bJ bj h;refine rn1 (aAR.1 _ _ br) ?_;cases h;refine jX ⟨?_,trivial⟩<;>(try simp +decide only[F,reduceIte,Nat.reduceAdd,qB,qC,EN, *,-h])
 clear bg
 rintro cr ⟨f72,_⟩
 refine rt ?_
 cases h
 simp[Ret,TB,EN, *]⟩
instance:aW 30 (∀p0 r (h:yO p0=some r),Sc 30 [aX (M.aJn.en p0)] [(true,M.aJn.rs r.1),(true,M.Ask.rs r.2)]):=⟨λp0 r h=>by
 have i1:=λ(x1:M.aJn)=>inv λm s=>∃aa:Int,∃ae:Int,∃r7:List Int,(s.t 2=vP 2 1 0/\s.t 3=vP 3 1 0/\s.t 4=vP 4 1 0/\s.h 2=(1,aCi)/\s.h 3=(1,Z6)/\s.h 4=(1,oB 89 [.row 100007 1,cI aa,.row 300007 1,cI ae,cB x1.aKb,cB x1.aKY])/\s.h 100007=(1,oW 197 4 M.Instr.en x1.aKD)/\s.h 300007=(1,oW 3 1 enI r7))/\dU x1 m aa ae r7=some r
 have e1:=@dU.eq_2
 unfold yO at h
 exact sgo 139 [.cell 2 89,.cell 3 102] Tryz.func30⟩
instance:aW 339 (∀p0 p1 r (h:rK p0 p1=some r),Sc 339 [aX (M.aJr.en p0),aI p1] [rB r]):=⟨λp0 p1 r h=>by unfold rK at h;exact sgo 18 [.tmp 4] Tryz.func339⟩
instance:aW 460 (∀p0 r (h:Es p0=some r),Sc 460 [aL enI p0] [rI r]):=⟨λp0 r h=>by
 have i1:=inv λm s=>∃v3:Int,∃v4:Int,(s.t 0=vL enI p0/\s.t 3=vI v3/\s.t 4=vI v4)/\wB p0 m v3 v4=some r
 have e1:=@wB.eq_2
 unfold Es at h
 exact sgo 22 [.tmp 2] Tryz.func460⟩
instance:aW 454 (∀p0 p1 r (h:uB p0 p1=some r),Sc 454 [aI p0,aL enI p1] [rI r]):=⟨λp0 p1 r h=>by unfold uB at h;exact sgo 13 [.tmp 4] Tryz.func454⟩
instance:aW 33 (∀p0 p1 p2 r (h:Bl p0 p1 p2=some r),Sc 33 [aX (M.bD.en p0),aS p1,aX (M.aJo.en p2)] [(true,M.bD.rs r.1),rB r.2]):=⟨λp0 p1 p2 r h=>by unfold Bl at h;exact sgo 43 [.cell 6 91,.tmp 7] Tryz.func33⟩
instance:aW 34 (∀p0 p1 p2 r (h:mU p0 p1 p2=some r),Sc 34 [aX (M.aJn.en p0),aI p1,aI p2] [(true,M.aJn.rs r.1),rB r.2]):=⟨λp0 p1 p2 r h=>by unfold mU at h;exact sgo 36 [.cell 6 89,.tmp 7] Tryz.func34⟩
instance:aW 351 (∀p0 p1 r (h:xA p0 p1=some r),Sc 351 [aI p0,aL enB p1] [rI r]):=⟨λp0 p1 r h=>by unfold xA at h;exact sgo 11 [.tmp 4] Tryz.func351⟩
instance:aW 537 (∀p0 r (h:tK p0=some r),Sc 537 [aL enB p0] [(true,M.Key.rs r.1),rB r.2]):=⟨λp0 r h=>by
 have i1:=λ(x2:Int)=>inv λm s=>∃v6:Int,∃v7:Int,(s.t 0=vL enB p0/\s.t 2=vP 2 1 0/\s.t 4=vP 4 1 0/\s.t 6=vI v6/\s.t 7=vI v7/\s.h 2=(1,oB 216 [cI 0,cI 0,cS (⟨#[]⟩:ByteArray)])/\s.h 4=(1,oB 216 [cI (IntKind.i64.wrap x2),cI 0,cS (⟨#[]⟩:ByteArray)]))/\kT p0 x2 m v6 v7=some r
 have e1:=@kT.eq_2
 unfold tK at h
 exact sgo 49 [.cell 2 216,.tmp 3] Tryz.func537⟩
instance:aW 581 (∀p0 p1 r (h:Fy p0 p1=some r),Sc 581 [aL enB p0,aI p1] [(true,M.aC.rs r.1),rI r.2.1,rB r.2.2]):=⟨λp0 p1 r h=>by
 have i1:=λ(x1:(Int×Int×Bool))=>Mt [.b 10 0 7050000 322 2] λm s=>∃v8:Int,∃v11:Int,∃aa:List M.Field,∃ae:Nat,(s.t 0=vL enB p0/\s.t 4=vP 4 1 0/\s.t 7=vI x1.1/\s.t 8=vI v8/\s.t 10=vP 10 1 0/\s.t 11=vI v11/\s.h 4=(1,oB 207 [.nil])/\s.h 10=(1,oB 207 [.row 7050000 ae])/\s.h 7050000=(ae,oW 322 2 M.Field.en aa))/\rD p0 x1 m v8 v11 aa=some r
 have e1:=@rD.eq_2
 unfold Fy at h
 exact sgo 72 [.cell 4 207,.tmp 5,.tmp 6] Tryz.func581⟩
instance:aW 347 (∀p0 r (h:Ew p0=some r),Sc 347 [aX (M.Op.en p0)] [rB r]):=⟨λp0 r h=>by unfold Ew at h;exact sgo 46 [.tmp 2] Tryz.func347⟩
instance:aW 582 (∀p0 p1 r (h:Ag p0 p1=some r),Sc 582 [aX (M.Key.en p0),aX (M.dF.en p1)] [rB r]):=⟨λp0 p1 r h=>by unfold Ag at h;exact sgo 50 [.tmp 4] Tryz.func582⟩
instance:aW 120 (∀p0 p1 p2 r (h:mS p0 p1 p2=some r),Sc 120 [aX (M.aC.en p0),aS p1,aI p2] [(true,M.aC.rs r.1),rB r.2]):=⟨λp0 p1 p2 r h=>by
 have i1:=λ(x1:M.aC)=>inv λm s=>∃v9:Int,(s.t 1=vS p1/\s.t 2=vI p2/\s.t 3=vP 3 1 0/\s.t 6=vP 6 1 0/\s.t 8=vP 8 1 0/\s.t 9=vI v9/\s.h 3=(1,oX 207 (M.aC.en p0))/\s.h 6=(1,oB 207 [.nil])/\s.h 8=(1,oB 207 [.row 100011 1])/\s.h 100011=(1,oW 322 2 M.Field.en x1.aJq))/\mG p0 p1 p2 x1 m v9=some r
 have e1:=@mG.eq_2
 unfold mS at h
 exact sgo 78 [.cell 6 207,.tmp 7] Tryz.func120⟩
