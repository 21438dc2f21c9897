/-
  Helper text. No conditions.
-/
import Derived.Test.YtbpbocchokbggaaGreatWriteNoteWimpl2
set_option linter.all false
namespace Go.Proofs.YtbpbocchokbggaaGreat.gen
open Go Go.Sh
set_option maxRecDepth 20000
set_option maxHeartbeats 4000000
theorem aDY(p0 p1 r)(h:Bg p0 p1=some r):Sc 336 [aX (M.aEK.en p0),aX (M.Op.en p1)] [(true,M.aEK.ra r.1),rI r.2.1,rB r.2.2]:=by
 unfold Bg at h
 simp only[EN]
 refine sgn 58 [.cell 4 112,.tmp 5,.tmp 6] Tryz.func336 λbase wd => ?_
 refine sq (rn ?_)
 refine an (sq ?_)
 obtain⟨x1,h2,h⟩:=bind_some h
 refine rn1 (UA.1 _ _ h2) ?_
 refine an (sq ?_)
 obtain⟨x3,h4,h⟩:=bind_some h
 refine rn1 (Xm.1 _ _ _ h4) ?_
 refine an (sq (sq ?_))
 obtain⟨x5,h6,h⟩:=bind_some h
 rcases dQ (!x5)with b7 | b7
 ·replace h:=bR b7 h;refine rn1 (UB.1 _ _ h6) ?_;refine an (ct (sq (rn ?_)));refine an (frb 4 2 300013 ?_);refine frb 4 3 400013 ?_;refine rt ?_;cases h;simp[Ret,TB,EN, *]
 replace h:=bQ b7 h
 obtain⟨x8,h9,h⟩:=bind_some h
 rcases dQ (!x8)with ae | ae
 ·replace h:=bR ae h;refine rn2 (UB.1 _ _ h6) (WO.1 _ _ h9) ?_;refine an (ct (sq (rn ?_)));refine an (frb 4 2 300013 ?_);refine frb 4 3 400013 ?_;refine rt ?_;cases h;simp[Ret,TB,EN, *]
 replace h:=bQ ae h
 refine rn2 (UB.1 _ _ h6) (WO.1 _ _ h9) ?_
 refine an ?_
 rcases dQ (decide (x3<0))with af | af
 ·replace h:=bR af h;refine ct (sq (rn ?_));refine an (frb 4 2 300013 ?_);refine frb 4 3 400013 ?_;refine rt ?_;cases h;simp[Ret,TB,EN, *]
 replace h:=bQ af h
 refine cf (sk (an (sq ?_)))
 obtain⟨av,C,h⟩:=bind_some h
 obtain⟨aw,ax,ay⟩:=aO C
 obtain⟨j,I,h⟩:=bind_some h
 refine rd1 mixed (aDI _ _ _ I) ?_
 refine an (sq (rn ?_))
 refine an (sq (sq ?_))
 refine cu (λs=>s.t 2=vP 2 1 0/\s.t 4=vP 4 1 0/\s.t 7=vP 7 1 0/\s.t 10=vI j.2.1/\s.t 11=vB j.2.2/\s.h 2=(1,oX 112 (M.aEK.en p0))/\s.h 4=(1,KH)/\s.h 7=(1,oB 112 [cS x1.Name,cI x1.aER,.row 300013 1,.row 400013 1])/\s.h 300013=(1,.row 117 3 (List.map M.aC.en (List.set x1.aEU x3.toNat j.1)) false)/\s.h 400013=(1,oW 471 2 M.aG.en x1.aEb)/\True) ?_
 rintro az f20
 rcases dQ (!j.2.2)with ah | ah
 ·replace h:=bR ah h;refine rn ?_;refine an (ct (sq ?_));obtain⟨ba,J,h⟩:=bind_some h;refine rn1 (UA.1 _ _ J) ?_;refine an (frb 4 2 300055 ?_);refine frb 4 3 400055 ?_;refine rt ?_;cases h;simp[Ret,TB,EN, *]
 replace h:=bQ ah h
 obtain⟨U,aq,h⟩:=bind_some h
 refine rn1 (UB.1 _ _ aq) ?_
 refine an ?_
 rcases Ep (!U)with ai | ai
 ·replace h:=bQ ai h;refine cf (sk (an (sq (rn ?_))));refine an (frb 4 2 300013 ?_);refine frb 4 3 400013 ?_;refine rt ?_;cases h;simp[Ret,TB,EN, *]
 replace h:=bR ai h
 refine ct (sq ?_)
 obtain⟨bd,ar,h⟩:=bind_some h
 refine rn1 (UA.1 _ _ ar) ?_
 refine an (frb 4 2 300055 ?_)
 refine frb 4 3 400055 ?_
 refine rt ?_
 cases h
 simp[Ret,TB,EN, *]
instance Xq:aZ 193 (∀p0 p1 r (h:uL p0 p1=some r),Sc 193 [aX (M.aEK.en p0),aL M.Op.en p1] [(true,M.aEK.ra r.1),(false,[.any (.sl (List.map enI r.2.1))]),rB r.2.2]):=⟨λp0 p1 r h=>by
 unfold uL at h
 simp only[EN]
 refine sgn 53 [.cell 4 112,.tmp 5,.tmp 6] Tryz.func193 λbase wd => ?_
 refine sq (rn ?_)
 refine an (sq ?_)
 obtain⟨x1,h2,h⟩:=bind_some h
 refine rn1 (UA.1 _ _ h2) ?_
 refine an (sq (rn ?_))
 refine an (sq (sq ?_))
 refine cu (λs=>s.t 1=vL M.Op.en p1/\s.t 2=vP 2 1 0/\s.t 4=vP 4 1 0/\s.t 7=vP 7 1 0/\s.t 8=vR 100016 1/\s.h 2=(1,oX 112 (M.aEK.en p0))/\s.h 4=(1,KH)/\s.h 7=(1,oB 112 [cS x1.Name,cI x1.aER,.row 300015 1,.row 400015 1])/\s.h 100016=(1,oW 3 1 enI ([]:List Int))/\s.h 300015=(1,oW 117 3 M.aC.en x1.aEU)/\s.h 400015=(1,oW 471 2 M.aG.en x1.aEb)/\True) ?_
 rintro s3 f4
 obtain⟨aw,av,h⟩:=bind_some h
 rcases dQ (!aw)with al | al
 ·replace h:=bR al h;refine rn1 (UB.1 _ _ av) ?_;refine an (ct (sq (rn ?_)));refine an (frb 4 2 300015 ?_);refine frb 4 3 400015 ?_;refine frt 5 0 100016 ?_;refine rt ?_;cases h;simp[Ret,TB,EN, *]
 replace h:=bQ al h
 refine rn1 (UB.1 _ _ av) ?_
 refine an ?_
 rcases dQ (decide ((List.length p1:Int)>6))with ao | ao
 ·replace h:=bR ao h;refine ct (sq (rn ?_));refine an (frb 4 2 300015 ?_);refine frb 4 3 400015 ?_;refine frt 5 0 100016 ?_;refine rt ?_;cases h;simp[Ret,TB,EN, *]
 replace h:=bQ ao h
 refine cf (sk (an (sq (sq (rn ?_)))))
 refine an (bk (frb 7 2 300015 ?_))
 refine frb 7 3 400015 ?_
 refine DW (λm s=>∃aj:Int,∃ae:ByteArray,∃af:Int,∃ak:List Int,∃ah:List M.aC,∃ai:List M.aG,∃u16:Nat,s.t 2=vP 2 1 0/\s.t 4=vP 4 1 0/\s.t 7=vP 7 1 0/\s.t 8=vR 100016 u16/\s.t 27=vL M.Op.en p1/\s.t 28=vI (List.length p1:Int)/\s.t 29=vI aj/\s.h 2=(1,oX 112 (M.aEK.en p0))/\s.h 4=(1,KH)/\s.h 7=(1,oB 112 [cS ae,cI af,cL M.aC.en ah,cL M.aG.en ai])/\s.h 100016=(u16,oW 3 1 enI ak)/\mR p0 p1 m aj ae af ak ah ai=some r) fuel ?_ ?_
 ·refine⟨0,x1.Name,x1.aER,([]:List Int),x1.aEU,x1.aEb,1,?_,?_,?_,?_,?_,?_,?_,?_,?_,?_,?_,h⟩;all_goals simp +decide only[F,reduceIte,Nat.reduceAdd,qB,qC,EN, *,-h]
 rintro mL1 bd ⟨aj,ae,af,ak,ah,ai,u16,f20,f21,f22,f23,f24,f25,f26,f27,f28,f29,f30,h⟩
 rcases mL1 with _ | mL1
 ·exact absurd h (by simp[mR])
 simp only[mR]at h
 refine sq (rn ?_)
 refine an (sq ?_)
 rcases Ep (decide (aj<(List.length p1:Int)))with aq | aq
 ·replace h:=bQ aq h;refine cf (xt (CS (CL (Ft (an (sq (rn ?_)))))));refine an (frt 5 0 100016 ?_);refine rt ?_;cases h;simp[Ret,TB,EN, *]
 replace h:=bR aq h
 refine ct (sk (an (sq (bk (sq ?_)))))
 obtain⟨bf,ax,h⟩:=bind_some h
 obtain⟨bg,bh,bj⟩:=aO ax
 refine rn ?_
 refine an (sq ?_)
 obtain⟨aa,ay,h⟩:=bind_some h
 refine rn1 (aDY _ _ _ ay) ?_
 refine an (sq (sq (rn ?_)))
 refine an ?_
 rcases dQ (!aa.2.2)with ar | ar
 ·replace h:=bR ar h;refine ct (sq ?_);obtain⟨bl,az,h⟩:=bind_some h;refine rn1 (UA.1 _ _ az) ?_;refine an (frb 4 2 300043 ?_);refine frb 4 3 400043 ?_;refine frt 5 0 100044 ?_;refine rt ?_;cases h;simp[Ret,TB,EN, *]
 replace h:=bQ ar h
 refine cf (sk (an (sq (rn ?_))))
 refine an ?_
 obtain⟨bm,ba,h⟩:=bind_some h
 refine rn1 ba ?_
 refine ab (an ?_)
 refine cu (λs=>s.t 2=vP 2 1 0/\s.t 4=vP 4 1 0/\s.t 7=vP 7 1 0/\s.t 8=vR 100016 (u16+1)/\s.t 27=vL M.Op.en p1/\s.t 28=vI (List.length p1:Int)/\s.t 29=vI aj/\s.h 2=(1,oX 112 (M.aEK.en p0))/\s.h 4=(1,KH)/\s.h 7=(1,oX 112 (M.aEK.en aa.1))/\s.h 100016=(u16+1,oW 3 1 enI (ak++[aa.2.1]))/\True) ?_
 rintro bn f45
 refine rn ?_
 refine BN ⟨mL1,jD,IntKind.i64.wrap (aj+1),aa.1.Name,aa.1.aER,ak++[aa.2.1],aa.1.aEU,aa.1.aEb,u16+1,?_,?_,?_,?_,?_,?_,?_,?_,?_,?_,?_,h⟩
 all_goals simp +decide only[F,reduceIte,Nat.reduceAdd,qB,qC,EN, *,-h]⟩
instance:aZ 60 (∀p0 r (h:sP p0=some r),Sc 60 [aX (M.bK.en p0)] [(true,M.aEK.ra r.1),rI r.2]):=⟨λp0 r h=>by
 unfold sP at h
 simp only[EN]
 refine sgn 47 [.cell 2 112,.tmp 3] Tryz.func60 λbase wd => ?_
 refine sq (rn ?_)
 refine an (sq ?_)
 obtain⟨x1,h2,h⟩:=bind_some h
 refine rn1 (UA.1 _ _ h2) ?_
 refine an (sq ?_)
 obtain⟨x3,h4,h⟩:=bind_some h
 refine rn1 (aDp _ _ h4) ?_
 refine an (sq (sq (rn ?_)))
 refine an (bk (frb 4 2 300013 ?_))
 refine frb 4 3 400013 ?_
 refine DW (λm s=>∃ai:Int,∃aa:ByteArray,∃ae:Int,∃af:List M.aC,∃ah:List M.aG,s.t 2=vP 2 1 0/\s.t 4=vP 4 1 0/\s.t 5=vR 100017 1/\s.t 20=vR 100017 1/\s.t 21=vI (List.length x3.1:Int)/\s.t 22=vI ai/\s.h 2=(1,KH)/\s.h 4=(1,oB 112 [cS aa,cI ae,cL M.aC.en af,cL M.aG.en ah])/\s.h 100017=(1,oW 74 1 (enL enB) x3.1)/\kL x3 m ai aa ae af ah=some r) fuel ?_ ?_
 ·refine⟨0,x1.Name,x1.aER,x1.aEU,x1.aEb,?_,?_,?_,?_,?_,?_,?_,?_,?_,h⟩;all_goals simp +decide only[F,reduceIte,Nat.reduceAdd,qB,qC,EN, *,-h]
 rintro mL1 s5 ⟨ai,aa,ae,af,ah,f6,f7,f8,f9,f10,f11,f12,f13,f14,h⟩
 rcases mL1 with _ | mL1
 ·exact absurd h (by simp[kL])
 simp only[kL]at h
 refine sq (rn ?_)
 refine an (sq ?_)
 rcases Ep (decide (ai<(List.length x3.1:Int)))with ak | ak
 ·replace h:=bQ ak h;refine cf (xt (CS (CL (Ft (an (sq (rn ?_)))))));refine an (rt ?_);cases h;simp[Ret,TB,EN, *]
 replace h:=bR ak h
 refine ct (sk (an (sq (bk (sq ?_)))))
 obtain⟨aw,ao,h⟩:=bind_some h
 obtain⟨ax,ay,az⟩:=aO ao
 refine rn ?_
 refine an (sq ?_)
 obtain⟨aq,ar,h⟩:=bind_some h
 refine rn1 (aDU _ _ ar) ?_
 refine an (sq (sq (rn ?_)))
 refine an ?_
 rcases dQ (!aq.2)with al | al
 ·replace h:=bR al h;refine ct (sq (rn ?_));refine an (rt ?_);cases h;simp[Ret,TB,EN, *]
 replace h:=bQ al h
 refine cf (sk (an ?_))
 obtain⟨aj,av,h⟩:=bind_some h
 refine rn1 (Xq.1 _ _ _ av) ?_
 refine ab (an (rn ?_))
 refine BN ⟨mL1,jD,IntKind.i64.wrap (ai+1),aj.1.Name,aj.1.aER,aj.1.aEU,aj.1.aEb,?_,?_,?_,?_,?_,?_,?_,?_,?_,h⟩
 all_goals simp +decide only[F,reduceIte,Nat.reduceAdd,qB,qC,EN, *,-h]⟩
instance:aZ 63 (∀p0 p1 r (h:tP p0 p1=some r),Sc 63 [aX (M.bK.en p0),aL M.Op.en p1] [(true,M.bK.rs r.1),rB r.2]):=⟨λp0 p1 r h=>by unfold tP at h;exact sgo 65 [.cell 4 114,.tmp 5] Tryz.func63⟩
instance:aZ 387 (∀p0 r (h:Al p0=some r),Sc 387 [aX (M.aEJ.en p0)] [rI r]):=⟨λp0 r h=>by unfold Al at h;exact sgo 23 [.tmp 2] Tryz.func387⟩
instance:aZ 247 (∀p0 r (h:mB p0=some r),Sc 247 [aX (M.aEJ.en p0)] [rB r]):=⟨λp0 r h=>by unfold mB at h;exact sgo 50 [.tmp 2] Tryz.func247⟩
instance:aZ 203 (∀p0 p1 r (h:nA p0 p1=some r),Sc 203 [aX (M.aEJ.en p0),aX (M.aEJ.en p1)] [(true,M.aEJ.rs r.1),rB r.2]):=⟨λp0 p1 r h=>by unfold nA at h;exact sgo 18 [.cell 4 126,.tmp 5] Tryz.func203⟩
instance:aZ 65 (∀p0 p1 r (h:pY p0 p1=some r),Sc 65 [aX (M.aEJ.en p0),aX (M.bK.en p1)] [(true,M.aEJ.rs r.1),rB r.2]):=⟨λp0 p1 r h=>by unfold pY at h;exact sgo 15 [.cell 4 126,.tmp 5] Tryz.func65⟩
instance:aZ 207 (∀p0 r (h:cM p0=some r),Sc 207 [aX (M.aD.en p0)] [rB r]):=⟨λp0 r h=>by
 have i1:=inv λm s=>∃v8:Int,(s.t 1=vP 1 1 0/\s.t 6=vL M.aEJ.en p0.aEP/\s.t 7=vI (List.length p0.aEP:Int)/\s.t 8=vI v8/\s.h 1=(1,oX 47 (M.aD.en p0)))/\eT p0 m v8=some r
 have e1:=@eT.eq_2
 unfold cM at h
 exact sgo 36 [.tmp 2] Tryz.func207⟩
instance:aZ 66 (∀p0 p1 r (h:vN p0 p1=some r),Sc 66 [aX (M.aD.en p0),aX (M.aEJ.en p1)] [(true,M.aD.rs r.1),rB r.2]):=⟨λp0 p1 r h=>by
 have i1:=λ(x1:M.aD)=>inv λm s=>∃v8:Int,(s.t 2=vP 2 1 0/\s.t 3=vP 3 1 0/\s.t 4=vP 4 1 0/\s.t 6=vP 6 1 0/\s.t 8=vI v8/\s.h 2=(1,oX 47 (M.aD.en p0))/\s.h 3=(1,oX 126 (M.aEJ.en p1))/\s.h 4=(1,oB 47 [.nil])/\s.h 6=(1,oB 47 [.row 100010 1])/\s.h 100010=(1,oW 126 24 M.aEJ.en x1.aEP))/\iO p0 p1 x1 m v8=some r
 have e1:=@iO.eq_2
 unfold vN at h
 exact sgo 60 [.cell 4 47,.tmp 5] Tryz.func66⟩
theorem c11(p0 p1 p2 p3 p4 r)(h:oU p0 p1 p2 p3 p4=some r):Sc 11 [aX (M.World.en p0),aX (M.bS.en p1),aI p2,aS p3,aI p4] [(true,M.World.rs r.1),rB r.2]:=by unfold oU at h;exact sgo 106 [.cell 10 58,.tmp 11] Tryz.func11
