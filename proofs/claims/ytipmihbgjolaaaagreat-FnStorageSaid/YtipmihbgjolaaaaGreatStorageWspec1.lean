/-
  Helper text. No conditions.
-/
import Derived.Test.YtipmihbgjolaaaaGreatStorageTi
set_option linter.unusedVariables false
set_option linter.unusedSimpArgs false
namespace Go.Proofs.YtipmihbgjolaaaaGreat.gen
open Go Go.Sh
open Go.IntKind (i64)
set_option maxRecDepth 20000
set_option maxHeartbeats 4000000
instance:bR 44 (∀p0 r (h:wY p0=some r),Sc 44 [aL enB p0] [(false,[.edit (.newb 182 [.sl (List.map enB r.b),.int .i64 r.i,.int .i64 r.h])])]):=⟨λp0 r h=>by
 unfold wY at h
 simp only[EN]
 refine sgN 32 [.tmp 2] Tryz.func44 λbase wd => ?_
 refine sq (rn ?_)
 refine an (sq (rn ?_))
 refine an (sq (sq (rn ?_)))
 refine an (bk ?_)
 refine Dk (λm s=>∃v3:Int,∃v4:Int,s.t 0=vL enB p0/\s.t 3=vI v3/\s.t 4=vI v4/\kK p0 m v3 v4=some r) fuel ?_ ?_
 ·refine⟨i64.wrap (193017+(List.length p0:Int)),0,?_,?_,?_,h⟩;all_goals simp +decide only[F,reduceIte,Nat.reduceAdd,qB,qC,EN, *,-h]
 rintro mL1 s1 ⟨v3,v4,f2,f3,f4,h⟩
 rcases mL1 with _ | mL1
 ·exact absurd h (by simp[kK])
 simp only[kK]at h
 refine sq (sq ?_)
 rcases AU (decide (v4<(List.length p0:Int)))with b5 | b5
 ·replace h:=bW b5 h;refine rn ?_;refine an (cf (xt (Bl (Bb (EJ (an (sq (rn ?_))))))));refine an (rt ?_);cases h;exact⟨31,(s1.h 31).1+1,by simp +decide only[A7,F,E,L,reduceIte,EN,TB, *],by simp +decide only[F,reduceIte,EN, *]<;>rfl⟩
 replace h:=bX b5 h
 refine rn ?_
 refine an ?_
 rcases AU (decide (v4<4000))with b6 | b6
 ·replace h:=bW b6 h;refine cf (xt (Bl (Bb (EJ (an (sq (rn ?_)))))));refine an (rt ?_);cases h;exact⟨31,(s1.h 31).1+1,by simp +decide only[A7,F,E,L,reduceIte,EN,TB, *],by simp +decide only[F,reduceIte,EN, *]<;>rfl⟩
 replace h:=bX b6 h
 refine ct (sk (an (sq (bk ?_))))
 obtain⟨x7,h8,h⟩:=bind_some h
 obtain⟨q9,aa,ae⟩:=pZ h8
 refine rn ?_
 refine ab (an (rn ?_))
 refine fA ⟨mL1,qc,i64.wrap (BitVec.ofInt (IntKind.i64.bits) (i64.wrap ((i64.wrap ((i64.wrap (v3*137))+(i64.wrap x7)))+11))&&&BitVec.ofInt (IntKind.i64.bits) 1073741823).toNat,i64.wrap (v4+1),?_,?_,?_,h⟩
 all_goals simp +decide only[F,reduceIte,Nat.reduceAdd,qB,qC,EN, *,-h]⟩
instance:bR 145 (∀p0 r (h:nU p0=some r),Sc 145 [(false,[.ptr [.sl (List.map enB p0.b),.int .i64 p0.i,.int .i64 p0.h]])] [(false,[.edit (.lend 182 [.int .i64 r.1,.int .i64 r.2.1])]),rI r.2.2]):=⟨λp0 r h=>by
 unfold nU at h
 simp only[EN]
 refine sgB 58 [.tmp 2] Tryz.func145 λbase wd B0 u0 hw0=> ?_
 refine gK (J:=λs=>s.t 0=vP 7059000 1 0/\s.h 7059000=(1,oB 182 [.old B0 (.sl (List.map enB p0.b)) (some u0),cI p0.i,cI p0.h])/\True) ?_ ?_
 ·and_intros<;>(try simp only[LN,List.map_cons,List.map_nil])<;>rfl
 rintro s1 f2
 exact sgX⟩
instance c65:bR 65 (∀p0 p1 r (h:aJ p0 p1=some r),Sc 65 [(false,[.ptr [.sl (List.map enB p0.b),.int .i64 p0.i,.int .i64 p0.h]]),aI p1] [(false,[.edit (.lend 182 [.int .i64 r.1,.int .i64 r.2.1])]),rI r.2.2]):=⟨λp0 p1 r h=>by
 unfold aJ at h
 simp only[EN]
 refine sgB 31 [.tmp 4] Tryz.func65 λbase wd B0 u0 hw0=> ?_
 refine gK (J:=λs=>s.t 0=vP 7059000 1 0/\s.t 1=vI p1/\s.h 7059000=(1,oB 182 [.old B0 (.sl (List.map enB p0.b)) (some u0),cI p0.i,cI p0.h])/\True) ?_ ?_
 ·and_intros<;>(try simp only[LN,List.map_cons,List.map_nil])<;>rfl
 rintro s1 f2
 exact sgX⟩
instance c82:bR 82 (∀p0 p1 r (h:eK p0 p1=some r),Sc 82 [(false,[.ptr [.sl (List.map enB p0.b),.int .i64 p0.i,.int .i64 p0.h]]),aL enS p1] [(false,[.edit (.lend 182 [.int .i64 r.1,.int .i64 r.2.1])]),rS r.2.2]):=⟨λp0 p1 r h=>by
 unfold eK at h
 simp only[EN]
 refine sgB 12 [.tmp 4] Tryz.func82 λbase wd B0 u0 hw0=> ?_
 refine gK (J:=λs=>s.t 0=vP 7059000 1 0/\s.t 1=vL enS p1/\s.h 7059000=(1,oB 182 [.old B0 (.sl (List.map enB p0.b)) (some u0),cI p0.i,cI p0.h])/\True) ?_ ?_
 ·and_intros<;>(try simp only[LN,List.map_cons,List.map_nil])<;>rfl
 rintro s1 f2
 exact sgX⟩
instance c75:bR 75 (∀p0 p1 r (h:cM p0 p1=some r),Sc 75 [(false,[.ptr [.sl (List.map enB p0.b),.int .i64 p0.i,.int .i64 p0.h]]),aI p1] [(false,[.edit (.lend 182 [.int .i64 r.1,.int .i64 r.2.1])]),rB r.2.2]):=⟨λp0 p1 r h=>by
 unfold cM at h
 simp only[EN]
 refine sgB 9 [.tmp 4] Tryz.func75 λbase wd B0 u0 hw0=> ?_
 refine gK (J:=λs=>s.t 0=vP 7059000 1 0/\s.t 1=vI p1/\s.h 7059000=(1,oB 182 [.old B0 (.sl (List.map enB p0.b)) (some u0),cI p0.i,cI p0.h])/\True) ?_ ?_
 ·and_intros<;>(try simp only[LN,List.map_cons,List.map_nil])<;>rfl
 rintro s1 f2
 exact sgX⟩
instance:bR 368 (∀p0 p1 r (h:hZ p0 p1=some r),Sc 368 [aX (M.aC.en p0),aS p1] [rI r.1,rB r.2]):=⟨λp0 p1 r h=>by
 have i1:=inv λm s=>∃v6:Int,(s.t 1=vS p1/\s.t 2=vP 2 1 0/\s.t 6=vI v6/\s.h 2=(1,oX 254 (M.aC.en p0)))/\mO p0 p1 m v6=some r
 have e1:=@mO.eq_2
 unfold hZ at h
 exact sgo 28 [.tmp 4,.tmp 5] Tryz.func368⟩
instance:bR 369 (∀p0 p1 r (h:sG p0 p1=some r),Sc 369 [aX (M.Y7.en p0),aB p1] [rI r]):=⟨λp0 p1 r h=>by unfold sG at h;exact sgo 10 [.tmp 4] Tryz.func369⟩
instance:bR 315 (∀p0 r (h:rY p0=some r),Sc 315 [aX (M.aE.en p0)] [rI r]):=⟨λp0 r h=>by
 have i1:=inv λm s=>∃v3:Int,∃v4:Int,(s.t 1=vP 1 1 0/\s.t 3=vI v3/\s.t 4=vI v4/\s.h 1=(1,oX 31 (M.aE.en p0)))/\dO p0 m v3 v4=some r
 have e1:=@dO.eq_2
 have i2:=λ(v4:Int) (k8:Int->Int->Option Int)=>inv λm s=>∃aa:Int,∃ae:Int,(s.t 1=vP 1 1 0/\s.t 3=vI aa/\s.t 4=vI v4/\s.t 5=vI ae/\s.h 1=(1,oX 31 (M.aE.en p0)))/\gP p0 v4 k8 m aa ae=some r
 have e2:=@gP.eq_2
 unfold rY at h
 exact sgo 43 [.tmp 2] Tryz.func315⟩
instance TT:bR 208 (∀p0 r (h:dK p0=some r),Sc 208 [(false,[.ptr [.sl (List.map enB p0.b),.int .i64 p0.i,.int .i64 p0.h]])] [(false,[.edit (.lend 182 [.int .i64 r.1,.int .i64 r.2.1])]),(true,M.Key.rs r.2.2)]):=⟨λp0 r h=>by
 unfold dK at h
 simp only[EN]
 refine sgB 6 [.cell 2 209] Tryz.func208 λbase wd B0 u0 hw0=> ?_
 refine gK (J:=λs=>s.t 0=vP 7059000 1 0/\s.h 7059000=(1,oB 182 [.old B0 (.sl (List.map enB p0.b)) (some u0),cI p0.i,cI p0.h])/\True) ?_ ?_
 ·and_intros<;>(try simp only[LN,List.map_cons,List.map_nil])<;>rfl
 rintro s1 f2
 exact sgX⟩
instance:bR 311 (∀p0 r (h:nW p0=some r),Sc 311 [aX (M.aF.en p0)] [(true,M.aF.rs r)]):=⟨λp0 r h=>by unfold nW at h;exact sgo 11 [.cell 2 43] Tryz.func311⟩
instance:bR 233 (∀p0 r (h:rN p0=some r),Sc 233 [aX (M.Ze.en p0)] [(true,M.Ze.rs r)]):=⟨λp0 r h=>by unfold rN at h;exact sgo 10 [.cell 2 45] Tryz.func233⟩
instance:bR 53 (∀p0 p1 p2 r (h:sR p0 p1 p2=some r),Sc 53 [aX (M.aH.en p0),aS p1,aS p2] [rI r]):=⟨λp0 p1 p2 r h=>by
 have i1:=inv λm s=>∃v7:Int,(s.t 1=vS p1/\s.t 2=vS p2/\s.t 3=vP 3 1 0/\s.t 7=vI v7/\s.h 3=(1,oX 26 (M.aH.en p0)))/\fE p0 p1 p2 m v7=some r
 have e1:=@fE.eq_2
 unfold sR at h
 exact sgo 34 [.tmp 6] Tryz.func53⟩
instance:bR 55 (∀p0 p1 p2 r (h:tW p0 p1 p2=some r),Sc 55 [aX (M.aK.en p0),aS p1,aS p2] [rB r]):=⟨λp0 p1 p2 r h=>by unfold tW at h;exact sgo 23 [.tmp 6] Tryz.func55⟩
instance:bR 285 (∀p0 p1 r (h:uD p0 p1=some r),Sc 285 [(false,[.ptr [.sl (List.map enB p0.b),.int .i64 p0.i,.int .i64 p0.h]]),aI p1] [(false,[.edit (.lend 182 [.int .i64 r.1,.int .i64 r.2.1])]),rW 5 1 enB r.2.2]):=⟨λp0 p1 r h=>by
 unfold uD at h
 simp only[EN]
 refine sgB 20 [.tmp 4] Tryz.func285 λbase wd B0 u0 hw0=> ?_
 refine gK (J:=λs=>s.t 0=vP 7059000 1 0/\s.t 1=vI p1/\s.h 7059000=(1,oB 182 [.old B0 (.sl (List.map enB p0.b)) (some u0),cI p0.i,cI p0.h])/\True) ?_ ?_
 ·and_intros<;>(try simp only[LN,List.map_cons,List.map_nil])<;>rfl
 rintro s1 f2
 have i1:=inv λm s=>∃v6:Int,∃r7:List Int,∃aa:Int,∃ae:Int,∃u7:Nat,(s.t 0=vP 7059000 1 0/\s.t 1=vI p1/\s.t 5=vR 100007 u7/\s.t 6=vI v6/\s.h 100007=(u7,oW 5 1 enB r7)/\s.h 7059000=(1,oB 182 [.old B0 (.sl (List.map enB p0.b)) (some u0),cI aa,cI ae]))/\lU p0 p1 m v6 r7 aa ae=some r
 have e1:=@lU.eq_2
 exact sgX⟩
instance c69:bR 69 (∀p0 p1 r (h:cU p0 p1=some r),Sc 69 [(false,[.ptr [.sl (List.map enB p0.b),.int .i64 p0.i,.int .i64 p0.h]]),aL enI p1] [(false,[.edit (.lend 182 [.int .i64 r.1,.int .i64 r.2.1])]),rI r.2.2]):=⟨λp0 p1 r h=>by
 unfold cU at h
 simp only[EN]
 refine sgB 12 [.tmp 4] Tryz.func69 λbase wd B0 u0 hw0=> ?_
 refine gK (J:=λs=>s.t 0=vP 7059000 1 0/\s.t 1=vL enI p1/\s.h 7059000=(1,oB 182 [.old B0 (.sl (List.map enB p0.b)) (some u0),cI p0.i,cI p0.h])/\True) ?_ ?_
 ·and_intros<;>(try simp only[LN,List.map_cons,List.map_nil])<;>rfl
 rintro s1 f2
 exact sgX⟩
theorem YH(p0 p1 p2 r)(h:vZ p0 p1 p2=some r):Sc 196 [aX (M.Y6.en p0),aS p1,aS p2] [rI r]:=by
 have i1:=inv λm s=>∃j:Int,(s.t 1=vS p1/\s.t 2=vS p2/\s.t 3=vP 3 1 0/\s.t 7=vI j/\s.h 3=(1,oX 193 (M.Y6.en p0)))/\jL p0 p1 p2 m j=some r
 have e1:=@jL.eq_2
 unfold vZ at h
 exact sgo 34 [.tmp 6] Tryz.func196
theorem Yn(p0 p1 r)(h:yZ p0 p1=some r):Sc 389 [aX (M.YY.en p0),aX (M.iN.en p1)] [rI r]:=by
 have i1:=inv λm s=>∃j:Int,(s.t 2=vP 2 1 0/\s.t 3=vP 3 1 0/\s.t 5=vI j/\s.h 2=(1,oX 35 (M.YY.en p0))/\s.h 3=(1,oX 380 (M.iN.en p1)))/\lG p0 p1 m j=some r
 have e1:=@lG.eq_2
 unfold yZ at h
 exact sgo 34 [.tmp 4] Tryz.func389
instance:bR 356 (∀p0 r (h:gA p0=some r),Sc 356 [aI p0] [rI r]):=⟨λp0 r h=>by
 have i1:=inv λm s=>∃v3:Int,∃v4:Int,(s.t 0=vI p0/\s.t 3=vI v3/\s.t 4=vI v4)/\lO p0 m v3 v4=some r
 have e1:=@lO.eq_2
 unfold gA at h
 exact sgo 17 [.tmp 2] Tryz.func356⟩
instance:bR 254 (∀p0 r (h:pN p0=some r),Sc 254 [aL M.Instr.en p0] [rW 216 4 M.Instr.en r]):=⟨λp0 r h=>by unfold pN at h;exact sgo 6 [.tmp 2] Tryz.func254⟩
instance:bR 268 (∀p0 r (h:wF p0=some r),Sc 268 [aX (M.Zc.en p0)] [(true,M.Zc.rs r)]):=⟨λp0 r h=>by unfold wF at h;exact sgo 15 [.cell 2 94] Tryz.func268⟩
instance:bR 177 (∀p0 r (h:lY p0=some r),Sc 177 [aX (M.fS.en p0)] [(true,M.fS.rs r)]):=⟨λp0 r h=>by unfold lY at h;exact sgo 15 [.cell 2 96] Tryz.func177⟩
end Go.Proofs.YtipmihbgjolaaaaGreat.gen
