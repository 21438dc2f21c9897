/-
  Helper text. No conditions.
-/
import Derived.Test.YtipmihbgjolaaaaGreatStorageTi
set_option linter.unusedVariables false
set_option linter.unusedSimpArgs false
namespace Go.Proofs.YtipmihbgjolaaaaGreat.gen
open Go Go.Sh
set_option maxRecDepth 20000
set_option maxHeartbeats 4000000
instance c87:bR 87 (∀p0 p1 p2 r (h:aZ p0 p1 p2=some r),Sc 87 [aI p0,aI p1,aI p2] [rB r]):=⟨λp0 p1 p2 r h=>by unfold aZ at h;exact sgo 15 [.tmp 6] Tryz.func87⟩
instance:bR 329 (∀p0 r (h:vC p0=some r),Sc 329 [aS p0] [rB r]):=⟨λp0 r h=>by
 have i1:=inv λm s=>∃v3:Int,(s.t 0=vS p0/\s.t 3=vI v3)/\fZ p0 m v3=some r
 have e1:=@fZ.eq_2
 unfold vC at h
 exact sgo 35 [.tmp 2] Tryz.func329⟩
instance:bR 257 (∀p0 r (h:eH p0=some r),Sc 257 [aX (M.Key.en p0)] [rB r]):=⟨λp0 r h=>by unfold eH at h;exact sgo 36 [.tmp 2] Tryz.func257⟩
instance Tq:bR 157 (∀p0 r (h:bU p0=some r),Sc 157 [aS p0] [rB r]):=⟨λp0 r h=>by
 have i1:=inv λm s=>∃v3:Int,(s.t 0=vS p0/\s.t 3=vI v3)/\kX p0 m v3=some r
 have e1:=@kX.eq_2
 unfold bU at h
 exact sgo 23 [.tmp 2] Tryz.func157⟩
instance:bR 158 (∀p0 r (h:gR p0=some r),Sc 158 [aX (M.aV.en p0)] [rB r]):=⟨λp0 r h=>by unfold gR at h;exact sgo 26 [.tmp 2] Tryz.func158⟩
instance:bR 234 (∀p0 r (h:jK p0=some r),Sc 234 [aX (M.YZ.en p0)] [rB r]):=⟨λp0 r h=>by
 unfold jK at h
 simp only[EN]
 refine sgn 52 [.tmp 2] Tryz.func234 λbase wd => ?_
 refine sq (rn ?_)
 refine an (sq (rn ?_))
 refine an (sq (rn ?_))
 refine an (sq (sq ?_))
 refine cu (λs=>s.t 1=vP 1 1 0/\s.t 3=vI 0/\s.t 4=vR 100012 1/\s.h 1=(1,oX 28 (M.YZ.en p0))/\s.h 100012=(1,oW 3 1 enI ([p0.Zv,p0.Zs,p0.Zm]))/\True) ?_
 rintro s1 f2
 refine rn ?_
 refine an (bk ?_)
 refine Dk (λm s=>∃v3:Int,∃v5:Int,s.t 1=vP 1 1 0/\s.t 3=vI v3/\s.t 4=vR 100012 1/\s.t 5=vI v5/\s.h 1=(1,oX 28 (M.YZ.en p0))/\s.h 100012=(1,oW 3 1 enI ([p0.Zv,p0.Zs,p0.Zm]))/\bP p0 m v3 v5=some r) fuel ?_ ?_
 ·refine⟨0,0,?_,?_,?_,?_,?_,?_,h⟩;all_goals simp +decide only[F,reduceIte,Nat.reduceAdd,qB,qC,EN, *,-h]
 rintro mL1 s7 ⟨v3,v5,f8,f9,f10,f11,f12,f13,h⟩
 rcases mL1 with _ | mL1
 ·exact absurd h (by simp[bP])
 simp only[bP]at h
 refine sq (sq (rn ?_))
 refine an ?_
 rcases AU (decide (v5<((3:Nat):Int)))with ae | ae
 ·replace h:=bW ae h;refine cf (xt (Bl (Bb (EJ (an (sq ?_))))));obtain⟨ar,ak,h⟩:=bind_some h;refine rn1 (Tq.1 _ _ ak) ?_;refine an (rt ?_);cases h;simp[Ret,TB,EN, *]
 replace h:=bX ae h
 refine ct (sk (an (sq (bk (sq (sq ?_))))))
 obtain⟨aa,al,h⟩:=bind_some h
 obtain⟨av,aw,ao⟩:=pZ al
 have q17m:=congrArg (Option.map enI) (show([p0.Zv,p0.Zs,p0.Zm])[v5.toNat]? = some aa by assumption)
 simp only[<-List.getElem?_map,List.map_cons,List.map_nil,Option.map_some,EN]at q17m
 simp only[qJ,qK,Nat.reduceAdd]at ao
 obtain⟨aq,af,h⟩:=bind_some h
 rcases jR (!aq)with ah | ah
 ·replace h:=bX ah h;refine rn1 (c87.1 _ _ _ _ af) ?_;refine an (ct (sq (rn ?_)));refine an (rt ?_);cases h;simp[Ret,TB,EN, *]
 replace h:=bW ah h
 rcases AU (aa != 0)with ai | ai
 ·replace h:=bW ai h;refine rn1 (c87.1 _ _ _ _ af) ?_;refine an (cf (sk (an (sq (rn ?_)))));refine an (cf (sk (ab (an (rn ?_)))));refine fA ⟨mL1,qc,v3,IntKind.i64.wrap (v5+1),?_,?_,?_,?_,?_,?_,h⟩;all_goals simp +decide only[F,reduceIte,Nat.reduceAdd,qB,qC,EN, *,-h]
 replace h:=bX ai h
 refine rn1 (c87.1 _ _ _ _ af) ?_
 refine an ?_
 rcases jR (decide (aa<=v3))with aj | aj
 ·replace h:=bX aj h;refine ct (sq (rn ?_));refine an (rt ?_);cases h;simp[Ret,TB,EN, *]
 replace h:=bW aj h
 refine cf (sk (an (sq (rn ?_))))
 refine an (ct (rn ?_))
 refine ab (an (rn ?_))
 refine fA ⟨mL1,qc,aa,IntKind.i64.wrap (v5+1),?_,?_,?_,?_,?_,?_,h⟩
 all_goals simp +decide only[F,reduceIte,Nat.reduceAdd,qB,qC,EN, *,-h]⟩
instance:bR 366 (∀p0 r (h:sL p0=some r),Sc 366 [aX (M.Y7.en p0)] [rB r]):=⟨λp0 r h=>by unfold sL at h;exact sgo 22 [.tmp 2] Tryz.func366⟩
instance:bR 312 (∀p0 r (h:oA p0=some r),Sc 312 [aL M.Zb.en p0] [rB r]):=⟨λp0 r h=>by
 have i1:=inv λm s=>∃v3:Int,(s.t 0=vL M.Zb.en p0/\s.t 3=vI v3)/\dS p0 m v3=some r
 have e1:=@dS.eq_2
 have i2:=λ(v3:Int) (x5:M.Zb) (ae:Int->Option Bool)=>inv λm s=>∃aa:Int,(s.t 0=vL M.Zb.en p0/\s.t 3=vI v3/\s.t 4=vI aa)/\fD p0 v3 x5 ae m aa=some r
 have e2:=@fD.eq_2
 unfold oA at h
 exact sgo 68 [.tmp 2] Tryz.func312⟩
instance:bR 258 (∀p0 r (h:bD p0=some r),Sc 258 [aX (M.aC.en p0)] [rB r]):=⟨λp0 r h=>by
 have i1:=inv λm s=>∃v3:Int,(s.t 1=vP 1 1 0/\s.t 3=vI v3/\s.h 1=(1,oX 254 (M.aC.en p0)))/\fM p0 m v3=some r
 have e1:=@fM.eq_2
 unfold bD at h
 exact sgo 53 [.tmp 2] Tryz.func258⟩
instance:bR 330 (∀p0 p1 r (h:vD p0 p1=some r),Sc 330 [aB p0,aB p1] [rI r]):=⟨λp0 p1 r h=>by unfold vD at h;exact sgo 7 [.tmp 4] Tryz.func330⟩
instance:bR 259 (∀p0 p1 r (h:bB p0 p1=some r),Sc 259 [aX (M.Key.en p0),aX (M.Key.en p1)] [rI r]):=⟨λp0 p1 r h=>by unfold bB at h;exact sgo 46 [.tmp 4] Tryz.func259⟩
instance:bR 345 (∀p0 r (h:iD p0=some r),Sc 345 [aX (M.Key.en p0)] [rW 5 1 enB r]):=⟨λp0 r h=>by
 have i1:=inv λm s=>∃v4:Int,∃aa:List Int,∃ae:Nat,(s.t 1=vP 1 1 0/\s.t 3=vR 100012 ae/\s.t 4=vI v4/\s.h 1=(1,oX 209 (M.Key.en p0))/\s.h 100012=(ae,oW 5 1 enB aa))/\bA p0 m v4 aa=some r
 have e1:=@bA.eq_2
 unfold iD at h
 exact sgo 38 [.tmp 2] Tryz.func345⟩
instance:bR 288 (∀p0 p1 r (h:bI p0 p1=some r),Sc 288 [aL enB p0,aI p1] [rW 5 1 enB r]):=⟨λp0 p1 r h=>by
 have i1:=inv λm s=>∃v1:Int,∃r6:List Int,∃u6:Nat,(s.t 1=vI v1/\s.t 5=vR 100006 u6/\s.h 100006=(u6,oW 5 1 enB r6))/\bV m v1 r6=some r
 have e1:=@bV.eq_2
 unfold bI at h
 exact sgo 29 [.tmp 4] Tryz.func288⟩
instance:bR 289 (∀p0 p1 r (h:bH p0 p1=some r),Sc 289 [aL enB p0,aL enB p1] [rW 5 1 enB r]):=⟨λp0 p1 r h=>by unfold bH at h;exact sgo 11 [.tmp 4] Tryz.func289⟩
instance:bR 275 (∀p0 p1 r (h:AW p0 p1=some r),Sc 275 [aI p0,aI p1] [rI r]):=⟨λp0 p1 r h=>by unfold AW at h;exact sgo 15 [.tmp 4] Tryz.func275⟩
instance:bR 200 (∀p0 r (h:Ak p0=some r),Sc 200 [aL enI p0] [rI r]):=⟨λp0 r h=>by
 have i1:=inv λm s=>∃v3:Int,∃v4:Int,(s.t 0=vL enI p0/\s.t 3=vI v3/\s.t 4=vI v4)/\rM p0 m v3 v4=some r
 have e1:=@rM.eq_2
 unfold Ak at h
 exact sgo 22 [.tmp 2] Tryz.func200⟩
instance:bR 400 (∀p0 r (h:pG p0=some r),Sc 400 [aL enB p0] [(true,M.Key.rs r.1),rB r.2]):=⟨λp0 r h=>by
 have i1:=λ(x2:Int)=>inv λm s=>∃v6:Int,∃v7:Int,(s.t 0=vL enB p0/\s.t 2=vP 2 1 0/\s.t 4=vP 4 1 0/\s.t 6=vI v6/\s.t 7=vI v7/\s.h 2=(1,oB 209 [cI 0,cI 0,cS (⟨#[]⟩:ByteArray)])/\s.h 4=(1,oB 209 [cI (IntKind.i64.wrap x2),cI 0,cS (⟨#[]⟩:ByteArray)]))/\iO p0 x2 m v6 v7=some r
 have e1:=@iO.eq_2
 unfold pG at h
 exact sgo 49 [.cell 2 209,.tmp 3] Tryz.func400⟩
instance:bR 328 (∀p0 p1 r (h:rK p0 p1=some r),Sc 328 [aX (M.Instr.en p0),aI p1] [rB r]):=⟨λp0 p1 r h=>by
 unfold rK at h
 simp only[EN]
 refine sgn 74 [.tmp 4] Tryz.func328 λbase wd => ?_
 refine sq (rn ?_)
 refine an ?_
 obtain⟨x1,h2,h⟩:=bind_some h
 refine nT (λs=>s.t 1=vI p1/\s.t 2=vP 2 1 0/\s.t 5=vB x1/\s.h 2=(1,oX 216 (M.Instr.en p0))/\True) ?_ ?_
 ·replace h:=h2;clear h2;rcases jR (p0.Zi==5)with b8 | b8;(replace h:=bX b8 h;refine rn ?_;cases h;refine fA ⟨?_,?_,?_,?_,trivial⟩<;>(try simp +decide only[F,reduceIte,Nat.reduceAdd,qB,qC,EN, *,-h]));replace h:=bW b8 h;obtain⟨x9,bt,h⟩:=bind_some h;refine rn1 (c87.1 _ _ _ _ bt) ?_;cases h;refine fA ⟨?_,?_,?_,?_,trivial⟩<;>(try simp +decide only[F,reduceIte,Nat.reduceAdd,qB,qC,EN, *,-h])
 clear h2
 rintro s3 f4
 refine sq (rn ?_)
 refine an ?_
 obtain⟨bu,aa,h⟩:=bind_some h
 refine nT (λs=>s.t 2=vP 2 1 0/\s.t 5=vB x1/\s.t 6=vI bu/\s.h 2=(1,oX 216 (M.Instr.en p0))/\True) ?_ ?_
 ·replace h:=aa;clear aa;refine sq (rn ?_);refine an (bk (sq (rn ?_)));refine an ?_;rcases jR (p0.Zi==1)with ae | ae;(replace h:=bX ae h;refine ct (rn ?_);refine ab ?_;cases h;refine fA ⟨?_,?_,?_,?_,trivial⟩<;>(try simp +decide only[F,reduceIte,Nat.reduceAdd,qB,qC,EN, *,-h]));replace h:=bW ae h;refine cf (sq (rn ?_));refine an ?_;rcases jR (p0.Zi==2)with af | af;(replace h:=bX af h;refine ct (rn ?_);refine ab ?_;cases h;refine fA ⟨?_,?_,?_,?_,trivial⟩<;>(try simp +decide only[F,reduceIte,Nat.reduceAdd,qB,qC,EN, *,-h]));replace h:=bW af h;refine cf ?_;obtain⟨bl,ah,h⟩:=bind_some h;refine nT (λs=>s.t 1=vI p1/\s.t 2=vP 2 1 0/\s.t 5=vB x1/\s.t 6=vI 0/\s.t 16=vI p0.Zi/\s.t 21=vB bl/\s.h 2=(1,oX 216 (M.Instr.en p0))/\True) ?_ ?_;(replace h:=ah;clear ah;refine sq (rn ?_);refine an ?_;rcases jR (p0.Zi==3)with ai | ai;(replace h:=bX ai h;refine ct (sk ?_);cases h;refine fA ⟨?_,?_,?_,?_,?_,?_,?_,trivial⟩<;>(try simp +decide only[F,reduceIte,Nat.reduceAdd,qB,qC,EN, *,-h]));replace h:=bW ai h;refine cf (rn ?_);cases h;refine fA ⟨?_,?_,?_,?_,?_,?_,?_,trivial⟩<;>(try simp +decide only[F,reduceIte,Nat.reduceAdd,qB,qC,EN, *,-h]));clear ah;rintro cd f23;rcases jR bl with aj | aj;(replace h:=bX aj h;refine ct (rn ?_);refine ab ?_;cases h;refine fA ⟨?_,?_,?_,?_,trivial⟩<;>(try simp +decide only[F,reduceIte,Nat.reduceAdd,qB,qC,EN, *,-h]));replace h:=bW aj h;refine cf ?_;obtain⟨bm,ak,h⟩:=bind_some h;refine nT (λs=>s.t 2=vP 2 1 0/\s.t 5=vB x1/\s.t 6=vI 0/\s.t 25=vB bm/\s.h 2=(1,oX 216 (M.Instr.en p0))/\True) ?_ ?_;(replace h:=ak;clear ak;refine sq (rn ?_);refine an ?_;rcases jR (p0.Zi==6)with al | al;(replace h:=bX al h;refine ct (sk ?_);cases h;refine fA ⟨?_,?_,?_,?_,?_,trivial⟩<;>(try simp +decide only[F,reduceIte,Nat.reduceAdd,qB,qC,EN, *,-h]));replace h:=bW al h;refine cf (sq (rn ?_));refine an ?_;rcases jR (p0.Zi==7)with ao | ao;(replace h:=bX ao h;refine ct (sk ?_);cases h;refine fA ⟨?_,?_,?_,?_,?_,trivial⟩<;>(try simp +decide only[F,reduceIte,Nat.reduceAdd,qB,qC,EN, *,-h]));replace h:=bW ao h;refine cf (rn ?_);cases h;refine fA ⟨?_,?_,?_,?_,?_,trivial⟩<;>(try simp +decide only[F,reduceIte,Nat.reduceAdd,qB,qC,EN, *,-h]));clear ak;rintro cg f35;rcases AU bm with aq | aq;(replace h:=bW aq h;refine cf (sk (ab ?_));cases h;refine fA ⟨?_,?_,?_,?_,trivial⟩<;>(try simp +decide only[F,reduceIte,Nat.reduceAdd,qB,qC,EN, *,-h]));replace h:=bX aq h;refine ct (rn ?_);refine ab ?_;cases h;refine fA ⟨?_,?_,?_,?_,trivial⟩<;>(try simp +decide only[F,reduceIte,Nat.reduceAdd,qB,qC,EN, *,-h])
 clear aa
 rintro cj f14
 refine sq ?_
 obtain⟨bn,ar,h⟩:=bind_some h
 refine nT (λs=>s.t 2=vP 2 1 0/\s.t 5=vB x1/\s.t 45=vB bn/\s.h 2=(1,oX 216 (M.Instr.en p0))/\True) ?_ ?_
 ·replace h:=ar;clear ar;obtain⟨bw,av,h⟩:=bind_some h;rcases jR (!bw)with aw | aw;(replace h:=bX aw h;refine rn1 (c87.1 _ _ _ _ av) ?_;cases h;refine fA ⟨?_,?_,?_,?_,trivial⟩<;>(try simp +decide only[F,reduceIte,Nat.reduceAdd,qB,qC,EN, *,-h]));replace h:=bW aw h;obtain⟨bx,bo,h⟩:=bind_some h;rcases jR (!bx)with ax | ax;(replace h:=bX ax h;refine rn2 (c87.1 _ _ _ _ av) (c87.1 _ _ _ _ bo) ?_;cases h;refine fA ⟨?_,?_,?_,?_,trivial⟩<;>(try simp +decide only[F,reduceIte,Nat.reduceAdd,qB,qC,EN, *,-h]));replace h:=bW ax h;obtain⟨ck,bz,h⟩:=bind_some h;refine rn3 (c87.1 _ _ _ _ av) (c87.1 _ _ _ _ bo) (c87.1 _ _ _ _ bz) ?_;cases h;refine fA ⟨?_,?_,?_,?_,trivial⟩<;>(try simp +decide only[F,reduceIte,Nat.reduceAdd,qB,qC,EN, *,-h])
 clear ar
 rintro cl f46
 rcases jR bn with ay | ay
 ·replace h:=bX ay h;refine ct (sq (rn ?_));refine an (rt ?_);cases h;simp[Ret,TB,EN, *]
 replace h:=bW ay h
 refine cf (sk (an (sq ?_)))
 obtain⟨bq,az,h⟩:=bind_some h
 refine nT (λs=>s.t 2=vP 2 1 0/\s.t 5=vB x1/\s.t 58=vB bq/\s.h 2=(1,oX 216 (M.Instr.en p0))/\True) ?_ ?_
 ·replace h:=az;clear az;rcases jR (p0.Zi==4)with ba | ba;(replace h:=bX ba h;refine rn ?_;cases h;refine fA ⟨?_,?_,?_,?_,trivial⟩<;>(try simp +decide only[F,reduceIte,Nat.reduceAdd,qB,qC,EN, *,-h]));replace h:=bW ba h;rcases jR (p0.Zi==9)with bd | bd;(replace h:=bX bd h;refine rn ?_;cases h;refine fA ⟨?_,?_,?_,?_,trivial⟩<;>(try simp +decide only[F,reduceIte,Nat.reduceAdd,qB,qC,EN, *,-h]));replace h:=bW bd h;refine rn ?_;cases h;refine fA ⟨?_,?_,?_,?_,trivial⟩<;>(try simp +decide only[F,reduceIte,Nat.reduceAdd,qB,qC,EN, *,-h])
 clear az
 rintro cn f62
 rcases jR bq with bf | bf
 ·replace h:=bX bf h;refine ct (sq (rn ?_));refine an (rt ?_);cases h;simp[Ret,TB,EN, *]
 replace h:=bW bf h
 refine cf (sk (an ?_))
 obtain⟨ca,bg,h⟩:=bind_some h
 refine nT (λs=>s.t 4=vB ca/\True) ?_ ?_
 ·replace h:=bg;clear bg;rcases AU x1 with bh | bh;(replace h:=bW bh h;refine rn ?_;cases h;refine fA ⟨?_,trivial⟩<;>(try simp +decide only[F,reduceIte,Nat.reduceAdd,qB,qC,EN, *,-h]));replace h:=bX bh h;obtain⟨cc,br,h⟩:=bind_some h;rcases jR cc with bj | bj;(replace h:=bX bj h;refine rn1 (Tq.1 _ _ br) ?_;cases h;refine fA ⟨?_,trivial⟩<;>(try simp +decide only[F,reduceIte,Nat.reduceAdd,qB,qC,EN, *,-h]));replace h:=bW bj h;refine rn1 (Tq.1 _ _ br) ?_;cases h;refine fA ⟨?_,trivial⟩<;>(try simp +decide only[F,reduceIte,Nat.reduceAdd,qB,qC,EN, *,-h])
 clear bg
 rintro cp ⟨f72,_⟩
 refine rt ?_
 cases h
 simp[Ret,TB,EN, *]⟩
instance:bR 86 (∀p0 r (h:rJ p0=some r),Sc 86 [aX (M.fS.en p0)] [rB r]):=⟨λp0 r h=>by
 have i1:=inv λm s=>∃v3:Int,(s.t 1=vP 1 1 0/\s.t 3=vI v3/\s.h 1=(1,oX 96 (M.fS.en p0)))/\nA p0 m v3=some r
 have e1:=@nA.eq_2
 unfold rJ at h
 exact sgo 54 [.tmp 2] Tryz.func86⟩
end Go.Proofs.YtipmihbgjolaaaaGreat.gen
