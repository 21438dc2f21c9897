/-
  Helper text. No conditions.
-/
import Derived.Test.YtbpbocchokbggaaGreatUpdatesTi
set_option linter.all false
namespace Go.Proofs.YtbpbocchokbggaaGreat.gen
open Go Go.Sh
open Go.IntKind (i64)
set_option maxRecDepth 20000
set_option maxHeartbeats 4000000
instance:bE 89 (∀p0 r (h:Dw p0=some r),Sc 89 [aL enB p0] [(false,[.edit (.newb 304 [.sl (List.map enB r.b),.int .i64 r.i,.int .i64 r.h])])]):=⟨λp0 r h=>by
 unfold Dw at h
 simp only[EN]
 refine sgN 32 [.tmp 2] Tryz.func89 λbase wd => ?_
 refine sq (rn ?_)
 refine an (sq (rn ?_))
 refine an (sq (sq (rn ?_)))
 refine an (bk ?_)
 refine JX (λm s=>∃v3:Int,∃v4:Int,s.t 0=vL enB p0/\s.t 3=vI v3/\s.t 4=vI v4/\oU p0 m v3 v4=some r) fuel ?_ ?_
 ·refine⟨i64.wrap (193017+(List.length p0:Int)),0,?_,?_,?_,h⟩;all_goals simp +decide only[F,reduceIte,Nat.reduceAdd,qB,qC,EN, *,-h]
 rintro mL1 s1 ⟨v3,v4,f2,f3,f4,h⟩
 rcases mL1 with _ | mL1
 ·exact absurd h (by simp[oU])
 simp only[oU]at h
 refine sq (sq ?_)
 rcases C1 (decide (v4<(List.length p0:Int)))with b5 | b5
 ·replace h:=bY b5 h;refine rn ?_;refine an (cf (xt (Gn (Gg (Lk (an (sq (rn ?_))))))));refine an (rt ?_);cases h;exact⟨31,(s1.h 31).1+1,by simp +decide only[EC,F,E,L,reduceIte,EN,TB, *],by simp +decide only[F,reduceIte,EN, *]<;>rfl⟩
 replace h:=bZ b5 h
 refine rn ?_
 refine an ?_
 rcases C1 (decide (v4<4000))with b6 | b6
 ·replace h:=bY b6 h;refine cf (xt (Gn (Gg (Lk (an (sq (rn ?_)))))));refine an (rt ?_);cases h;exact⟨31,(s1.h 31).1+1,by simp +decide only[EC,F,E,L,reduceIte,EN,TB, *],by simp +decide only[F,reduceIte,EN, *]<;>rfl⟩
 replace h:=bZ b6 h
 refine ct (sk (an (sq (bk ?_))))
 obtain⟨x7,h8,h⟩:=bind_some h
 obtain⟨q9,aa,ae⟩:=wM h8
 refine rn ?_
 refine ab (an (rn ?_))
 refine iU ⟨mL1,jB,i64.wrap (BitVec.ofInt (IntKind.i64.bits) (i64.wrap ((i64.wrap ((i64.wrap (v3*137))+(i64.wrap x7)))+11))&&&BitVec.ofInt (IntKind.i64.bits) 1073741823).toNat,i64.wrap (v4+1),?_,?_,?_,h⟩
 all_goals simp +decide only[F,reduceIte,Nat.reduceAdd,qB,qC,EN, *,-h]⟩
instance:bE 379 (∀p0 r (h:uO p0=some r),Sc 379 [(false,[.ptr [.sl (List.map enB p0.b),.int .i64 p0.i,.int .i64 p0.h]])] [(false,[.edit (.lend 304 [.int .i64 r.1,.int .i64 r.2.1])]),rI r.2.2]):=⟨λp0 r h=>by
 unfold uO at h
 simp only[EN]
 refine sgB 58 [.tmp 2] Tryz.func379 λbase wd B0 u0 hw0=> ?_
 refine dR (J:=λs=>s.t 0=vP 7059000 1 0/\s.h 7059000=(1,oB 304 [.old B0 (.sl (List.map enB p0.b)) (some u0),cI p0.i,cI p0.h])/\True) ?_ ?_
 ·and_intros<;>(try simp only[LN,List.map_cons,List.map_nil])<;>rfl
 rintro s1 f2
 exact sgX⟩
instance O4:bE 238 (∀p0 p1 r (h:aF p0 p1=some r),Sc 238 [(false,[.ptr [.sl (List.map enB p0.b),.int .i64 p0.i,.int .i64 p0.h]]),aI p1] [(false,[.edit (.lend 304 [.int .i64 r.1,.int .i64 r.2.1])]),rI r.2.2]):=⟨λp0 p1 r h=>by
 unfold aF at h
 simp only[EN]
 refine sgB 31 [.tmp 4] Tryz.func238 λbase wd B0 u0 hw0=> ?_
 refine dR (J:=λs=>s.t 0=vP 7059000 1 0/\s.t 1=vI p1/\s.h 7059000=(1,oB 304 [.old B0 (.sl (List.map enB p0.b)) (some u0),cI p0.i,cI p0.h])/\True) ?_ ?_
 ·and_intros<;>(try simp only[LN,List.map_cons,List.map_nil])<;>rfl
 rintro s1 f2
 exact sgX⟩
instance:bE 489 (∀p0 r (h:uT p0=some r),Sc 489 [aX (M.aK.en p0)] [(true,M.aK.rs r)]):=⟨λp0 r h=>by unfold uT at h;exact sgo 11 [.cell 2 120] Tryz.func489⟩
instance:bE 396 (∀p0 r (h:yK p0=some r),Sc 396 [aX (M.aJR.en p0)] [(true,M.aJR.rs r)]):=⟨λp0 r h=>by unfold yK at h;exact sgo 10 [.cell 2 122] Tryz.func396⟩
instance:bE 398 (∀p0 r (h:xE p0=some r),Sc 398 [aL M.Instr.en p0] [rW 308 4 M.Instr.en r]):=⟨λp0 r h=>by unfold xE at h;exact sgo 6 [.tmp 2] Tryz.func398⟩
instance:bE 305 (∀p0 r (h:BW p0=some r),Sc 305 [aX (M.aJH.en p0)] [(true,M.aJH.rs r)]):=⟨λp0 r h=>by unfold BW at h;exact sgo 15 [.cell 2 65] Tryz.func305⟩
instance:bE 160 (∀p0 r (h:lQ p0=some r),Sc 160 [aX (M.bG.en p0)] [(true,M.bG.rs r)]):=⟨λp0 r h=>by unfold lQ at h;exact sgo 15 [.cell 2 67] Tryz.func160⟩
instance:bE 163 (∀p0 r (h:uS p0=some r),Sc 163 [aX (M.aI7.en p0)] [(true,M.aI7.rs r)]):=⟨λp0 r h=>by unfold uS at h;exact sgo 11 [.cell 2 92] Tryz.func163⟩
instance:bE 26 (∀p0 p1 p2 r (h:fL p0 p1 p2=some r),Sc 26 [aX (M.aA.en p0),aS p1,aS p2] [rI r]):=⟨λp0 p1 p2 r h=>by
 have i1:=inv λm s=>∃v7:Int,(s.t 1=vS p1/\s.t 2=vS p2/\s.t 3=vP 3 1 0/\s.t 7=vI v7/\s.h 3=(1,oX 47 (M.aA.en p0)))/\hU p0 p1 p2 m v7=some r
 have e1:=@hU.eq_2
 unfold fL at h
 exact sgo 34 [.tmp 6] Tryz.func26⟩
instance:bE 513 (∀p0 p1 r (h:lV p0 p1=some r),Sc 513 [aX (M.aE.en p0),aS p1] [rI r.1,rB r.2]):=⟨λp0 p1 r h=>by
 have i1:=inv λm s=>∃v6:Int,(s.t 1=vS p1/\s.t 2=vP 2 1 0/\s.t 6=vI v6/\s.h 2=(1,oX 129 (M.aE.en p0)))/\sV p0 p1 m v6=some r
 have e1:=@sV.eq_2
 unfold lV at h
 exact sgo 28 [.tmp 4,.tmp 5] Tryz.func513⟩
instance:bE 255 (∀p0 p1 p2 r (h:AH p0 p1 p2=some r),Sc 255 [aX (M.aI3.en p0),aS p1,aS p2] [rB r]):=⟨λp0 p1 p2 r h=>by unfold AH at h;exact sgo 23 [.tmp 6] Tryz.func255⟩
theorem aIX(p0 p1 r)(h:Ay p0 p1=some r):Sc 469 [aX (M.aJD.en p0),aI p1] [(true,M.aJD.rs r)]:=by
 have i1:=E5 [.b 5 0 7050000 199 3] λm s=>∃I:Int,∃j:List M.AP,∃C:Nat,(s.t 1=vI p1/\s.t 2=vP 2 1 0/\s.t 4=vP 4 1 0/\s.t 5=vP 5 1 0/\s.t 6=vI I/\s.h 2=(1,oX 54 (M.aJD.en p0))/\s.h 4=(1,oB 54 [.nil])/\s.h 5=(1,oB 54 [.row 7050000 C])/\s.h 7050000=(C,oW 199 3 M.AP.en j))/\iT p0 p1 m I j=some r
 have e1:=@iT.eq_2
 unfold Ay at h
 exact sgo 34 [.cell 4 54] Tryz.func469
instance c91:bE 91 (∀p0 p1 r (h:fZ p0 p1=some r),Sc 91 [(false,[.ptr [.sl (List.map enB p0.b),.int .i64 p0.i,.int .i64 p0.h]]),aL enS p1] [(false,[.edit (.lend 304 [.int .i64 r.1,.int .i64 r.2.1])]),rS r.2.2]):=⟨λp0 p1 r h=>by
 unfold fZ at h
 simp only[EN]
 refine sgB 12 [.tmp 4] Tryz.func91 λbase wd B0 u0 hw0=> ?_
 refine dR (J:=λs=>s.t 0=vP 7059000 1 0/\s.t 1=vL enS p1/\s.h 7059000=(1,oB 304 [.old B0 (.sl (List.map enB p0.b)) (some u0),cI p0.i,cI p0.h])/\True) ?_ ?_
 ·and_intros<;>(try simp only[LN,List.map_cons,List.map_nil])<;>rfl
 rintro s1 f2
 exact sgX⟩
instance c92:bE 92 (∀p0 p1 r (h:cC p0 p1=some r),Sc 92 [(false,[.ptr [.sl (List.map enB p0.b),.int .i64 p0.i,.int .i64 p0.h]]),aI p1] [(false,[.edit (.lend 304 [.int .i64 r.1,.int .i64 r.2.1])]),rB r.2.2]):=⟨λp0 p1 r h=>by
 unfold cC at h
 simp only[EN]
 refine sgB 9 [.tmp 4] Tryz.func92 λbase wd B0 u0 hw0=> ?_
 refine dR (J:=λs=>s.t 0=vP 7059000 1 0/\s.t 1=vI p1/\s.h 7059000=(1,oB 304 [.old B0 (.sl (List.map enB p0.b)) (some u0),cI p0.i,cI p0.h])/\True) ?_ ?_
 ·and_intros<;>(try simp only[LN,List.map_cons,List.map_nil])<;>rfl
 rintro s1 f2
 exact sgX⟩
instance:bE 104 (∀p0 r (h:Af p0=some r),Sc 104 [aX (M.World.en p0)] [rI r]):=⟨λp0 r h=>by unfold Af at h;exact sgo 9 [.tmp 2] Tryz.func104⟩
instance:bE 108 (∀p0 p1 p2 r (h:rD p0 p1 p2=some r),Sc 108 [aX (M.aIz.en p0),aX (M.aI7.en p1),aB p2] [rI r]):=⟨λp0 p1 p2 r h=>by unfold rD at h;exact sgo 15 [.tmp 6] Tryz.func108⟩
instance:bE 418 (∀p0 p1 r (h:BM p0 p1=some r),Sc 418 [aX (M.aI7.en p0),aS p1] [rB r]):=⟨λp0 p1 r h=>by
 have i1:=inv λm s=>∃v5:Int,(s.t 1=vS p1/\s.t 2=vP 2 1 0/\s.t 5=vI v5/\s.h 2=(1,oX 92 (M.aI7.en p0)))/\rC p0 p1 m v5=some r
 have e1:=@rC.eq_2
 unfold BM at h
 exact sgo 20 [.tmp 4] Tryz.func418⟩
instance:bE 633 (∀p0 r (h:CK p0=some r),Sc 633 [aI p0] [rI r]):=⟨λp0 r h=>by unfold CK at h;exact sgo 8 [.tmp 2] Tryz.func633⟩
instance:bE 148 (∀p0 p1 r (h:wD p0 p1=some r),Sc 148 [aL M.bG.en p0,aS p1] [rW 3 1 enI r]):=⟨λp0 p1 r h=>by
 have i1:=inv λm s=>∃v6:Int,∃r7:List Int,∃u7:Nat,(s.t 0=vL M.bG.en p0/\s.t 1=vS p1/\s.t 5=vR 100007 u7/\s.t 6=vI v6/\s.h 100007=(u7,oW 3 1 enI r7))/\eQ p0 p1 m v6 r7=some r
 have e1:=@eQ.eq_2
 unfold wD at h
 exact sgo 30 [.tmp 4] Tryz.func148⟩
instance aA1:bE 375 (∀p0 p1 r (h:bO p0 p1=some r),Sc 375 [(false,[.ptr [.sl (List.map enB p0.b),.int .i64 p0.i,.int .i64 p0.h]]),aL enI p1] [(false,[.edit (.lend 304 [.int .i64 r.1,.int .i64 r.2.1])]),rI r.2.2]):=⟨λp0 p1 r h=>by
 unfold bO at h
 simp only[EN]
 refine sgB 12 [.tmp 4] Tryz.func375 λbase wd B0 u0 hw0=> ?_
 refine dR (J:=λs=>s.t 0=vP 7059000 1 0/\s.t 1=vL enI p1/\s.h 7059000=(1,oB 304 [.old B0 (.sl (List.map enB p0.b)) (some u0),cI p0.i,cI p0.h])/\True) ?_ ?_
 ·and_intros<;>(try simp only[LN,List.map_cons,List.map_nil])<;>rfl
 rintro s1 f2
 exact sgX⟩
instance aCB:bE 545 (∀p0 r (h:dZ p0=some r),Sc 545 [(false,[.ptr [.sl (List.map enB p0.b),.int .i64 p0.i,.int .i64 p0.h]])] [(false,[.edit (.lend 304 [.int .i64 r.1,.int .i64 r.2.1])]),(true,M.Key.rs r.2.2)]):=⟨λp0 r h=>by
 unfold dZ at h
 simp only[EN]
 refine sgB 6 [.cell 2 136] Tryz.func545 λbase wd B0 u0 hw0=> ?_
 refine dR (J:=λs=>s.t 0=vP 7059000 1 0/\s.h 7059000=(1,oB 304 [.old B0 (.sl (List.map enB p0.b)) (some u0),cI p0.i,cI p0.h])/\True) ?_ ?_
 ·and_intros<;>(try simp only[LN,List.map_cons,List.map_nil])<;>rfl
 rintro s1 f2
 exact sgX⟩
instance:bE 431 (∀p0 p1 r (h:fQ p0 p1=some r),Sc 431 [aL enB p0,aI p1] [rI r.1,rI r.2.1,rB r.2.2]):=⟨λp0 p1 r h=>by
 have i1:=inv λm s=>∃v7:Int,∃v8:Int,(s.t 0=vL enB p0/\s.t 1=vI p1/\s.t 7=vI v7/\s.t 8=vI v8)/\eG p0 p1 m v7 v8=some r
 have e1:=@eG.eq_2
 unfold fQ at h
 exact sgo 55 [.tmp 4,.tmp 5,.tmp 6] Tryz.func431⟩
instance:bE 430 (∀p0 p1 p2 r (h:eF p0 p1 p2=some r),Sc 430 [aL enB p0,aI p1,aI p2] [rW 5 1 enB r.1,rI r.2.1,rB r.2.2]):=⟨λp0 p1 p2 r h=>by unfold eF at h;exact sgo 46 [.tmp 6,.tmp 7,.tmp 8] Tryz.func430⟩
instance:bE 624 (∀p0 p1 r (h:AO p0 p1=some r),Sc 624 [(false,[.ptr [.sl (List.map enB p0.b),.int .i64 p0.i,.int .i64 p0.h]]),aI p1] [(false,[.edit (.lend 304 [.int .i64 r.1,.int .i64 r.2.1])]),rW 5 1 enB r.2.2]):=⟨λp0 p1 r h=>by
 unfold AO at h
 simp only[EN]
 refine sgB 20 [.tmp 4] Tryz.func624 λbase wd B0 u0 hw0=> ?_
 refine dR (J:=λs=>s.t 0=vP 7059000 1 0/\s.t 1=vI p1/\s.h 7059000=(1,oB 304 [.old B0 (.sl (List.map enB p0.b)) (some u0),cI p0.i,cI p0.h])/\True) ?_ ?_
 ·and_intros<;>(try simp only[LN,List.map_cons,List.map_nil])<;>rfl
 rintro s1 f2
 have i1:=inv λm s=>∃v6:Int,∃r7:List Int,∃aa:Int,∃ae:Int,∃u7:Nat,(s.t 0=vP 7059000 1 0/\s.t 1=vI p1/\s.t 5=vR 100007 u7/\s.t 6=vI v6/\s.h 100007=(u7,oW 5 1 enB r7)/\s.h 7059000=(1,oB 304 [.old B0 (.sl (List.map enB p0.b)) (some u0),cI aa,cI ae]))/\rT p0 p1 m v6 r7 aa ae=some r
 have e1:=@rT.eq_2
 exact sgX⟩
theorem aIr(p0 p1 r)(h:Dt p0 p1=some r):Sc 651 [aX (M.aI2.en p0),aX (M.mK.en p1)] [rI r]:=by
 have i1:=inv λm s=>∃j:Int,(s.t 2=vP 2 1 0/\s.t 3=vP 3 1 0/\s.t 5=vI j/\s.h 2=(1,oX 112 (M.aI2.en p0))/\s.h 3=(1,oX 633 (M.mK.en p1)))/\pV p0 p1 m j=some r
 have e1:=@pV.eq_2
 unfold Dt at h
 exact sgo 34 [.tmp 4] Tryz.func651
