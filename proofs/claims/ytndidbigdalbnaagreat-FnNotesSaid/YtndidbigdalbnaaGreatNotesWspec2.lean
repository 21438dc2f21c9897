/-
  Helper text. No conditions.
-/
import Derived.Test.YtndidbigdalbnaaGreatNotesTi
set_option linter.all false
namespace Go.Proofs.YtndidbigdalbnaaGreat.gen
open Go Go.Sh Tryz
open Go.IntKind (i64)
set_option maxRecDepth 20000
set_option maxHeartbeats 4000000
instance c16:bU 16 (∀p0 r (h:EV p0=some r),Sc 16 [aL enB p0] [(false,[.edit (.newb 138 [.sl (List.map enB r.b),.int .i64 r.i,.int .i64 r.h])])]):=⟨λp0 r h=>by
 unfold EV at h
 simp only[EN]
 refine sgN 32 [.tmp 2] func16 λbase wd => ?_
 refine sq (rn ?_)
 refine an (sq (rn ?_))
 refine an (sq (sq (rn ?_)))
 refine an (bk ?_)
 refine HG (λm s=>∃v3:Int,∃v4:Int,s.t 0=vL enB p0/\s.t 3=vI v3/\s.t 4=vI v4/\pL p0 m v3 v4=some r) aJ ?_ ?_
 ·exact⟨i64.wrap (193017+(List.length p0:Int)),0,zM⟩
 rintro mL1 s1 ⟨v3,v4,f2,f3,f4,h⟩
 rcases mL1 with _ | mL1
 ·exact absurd h (by simp[pL])
 simp only[pL]at h
 refine sq (sq ?_)
 rcases CP (decide (v4<(List.length p0:Int)))with b5 | b5
 ·replace h:=bP b5 h;refine rn ?_;refine an (cf (xt (CO (CL (Gs (an (sq (rn ?_))))))));refine an (rt ?_);cases h;exact⟨31,(s1.h 31).1+1,jk,by simp +decide only[F,reduceIte,EN, *]<;>rfl⟩
 replace h:=bQ b5 h
 refine rn ?_
 refine an ?_
 rcases CP (decide (v4<4000))with b6 | b6
 ·replace h:=bP b6 h;refine cf (xt (CO (CL (Gs (an (sq (rn ?_)))))));refine an (rt ?_);cases h;exact⟨31,(s1.h 31).1+1,jk,by simp +decide only[F,reduceIte,EN, *]<;>rfl⟩
 replace h:=bQ b6 h
 refine ct (sk (an (sq (bk ?_))))
 obtain⟨x7,h8,h⟩:=aA h
 obtain⟨q9,aa,ae⟩:=pK h8
 refine rn ?_
 refine ab (an (rn ?_))
 exact fB ⟨mL1,wg,i64.wrap (BitVec.ofInt i64.bits (i64.wrap ((i64.wrap ((i64.wrap (v3*137))+(i64.wrap x7)))+11))&&&BitVec.ofInt i64.bits 1073741823).toNat,i64.wrap (v4+1),zM⟩⟩
instance:bU 108 (∀p0 r (h:vX p0=some r),Sc 108 [(false,[.ptr [.sl (List.map enB p0.b),.int .i64 p0.i,.int .i64 p0.h]])] [(false,[.edit (.lend 138 [.int .i64 r.1,.int .i64 r.2.1])]),rI r.2.2]):=⟨λp0 r h=>by
 unfold vX at h
 simp only[EN]
 refine sgB 58 [.tmp 2] func108 λbase wd B0 u0 hw0=> ?_
 refine bY (J:=λs=>s.t 0=vP 7059000 1 0/\s.h 7059000=(1,oB 138 [.old B0 (.sl (List.map enB p0.b)) (some u0),cI p0.i,cI p0.h])/\True) ?_ ?_
 ·and_intros<;>(try simp only[LN,jJ,jK])<;>rfl
 rintro s1 f2
 exact sgX⟩
instance c48:bU 48 (∀p0 p1 r (h:aG p0 p1=some r),Sc 48 [(false,[.ptr [.sl (List.map enB p0.b),.int .i64 p0.i,.int .i64 p0.h]]),aI p1] [(false,[.edit (.lend 138 [.int .i64 r.1,.int .i64 r.2.1])]),rI r.2.2]):=⟨λp0 p1 r h=>by
 unfold aG at h
 simp only[EN]
 refine sgB 31 [.tmp 4] func48 λbase wd B0 u0 hw0=> ?_
 refine bY (J:=λs=>s.t 0=vP 7059000 1 0/\s.t 1=vI p1/\s.h 7059000=(1,oB 138 [.old B0 (.sl (List.map enB p0.b)) (some u0),cI p0.i,cI p0.h])/\True) ?_ ?_
 ·and_intros<;>(try simp only[LN,jJ,jK])<;>rfl
 rintro s1 f2
 exact sgX⟩
instance:bU 85 (∀p0 r (h:cR p0=some r),Sc 85 [aX (M.aF.en p0)] [(true,M.aF.rs r)]):=⟨λp0 r h=>by unfold cR at h;exact sgo 8 [.cell 2 90] func85⟩
instance:bU 201 (∀p0 r (h:Bm p0=some r),Sc 201 [aX (M.aKy.en p0)] [(true,M.aKy.rs r)]):=⟨λp0 r h=>by unfold Bm at h;exact sgo 9 [.cell 2 153] func201⟩
instance:bU 80 (∀p0 r (h:C5 p0=some r),Sc 80 [aX (M.aKl.en p0)] [(true,M.aKl.rs r)]):=⟨λp0 r h=>by unfold C5 at h;exact sgo 11 [.cell 2 120] func80⟩
instance c83:bU 83 (∀p0 p1 r (h:mS p0 p1=some r),Sc 83 [aX (M.aKc.en p0),aS p1] [rI r]):=⟨λp0 p1 r h=>by
 have i1:=inv λm s=>∃v5:Int,(s.t 1=vS p1/\s.t 2=vP 2 1 0/\s.t 5=vI v5/\s.h 2=(1,oX 56 (M.aKc.en p0)))/\nO p0 p1 m v5=some r
 have e1:=@nO.eq_2
 unfold mS at h
 exact sgo 22 [.tmp 4] func83⟩
instance:bU 45 (∀p0 p1 r (h:kM p0 p1=some r),Sc 45 [aX (M.aF.en p0),aS p1] [rI r.1,rB r.2]):=⟨λp0 p1 r h=>by
 have i1:=inv λm s=>∃v6:Int,(s.t 1=vS p1/\s.t 2=vP 2 1 0/\s.t 6=vI v6/\s.h 2=(1,oX 90 (M.aF.en p0)))/\tY p0 p1 m v6=some r
 have e1:=@tY.eq_2
 unfold kM at h
 exact sgo 28 [.tmp 4,.tmp 5] func45⟩
instance:bU 327 (∀p0 p1 r (h:Cx p0 p1=some r),Sc 327 [aX (M.aKo.en p0),aB p1] [rI r]):=⟨λp0 p1 r h=>by unfold Cx at h;exact sgo 10 [.tmp 4] func327⟩
instance:bU 269 (∀p0 r (h:Cv p0=some r),Sc 269 [aX (M.aN.en p0)] [rI r]):=⟨λp0 r h=>by
 have i1:=inv λm s=>∃v3:Int,∃v4:Int,(s.t 1=vP 1 1 0/\s.t 3=vI v3/\s.t 4=vI v4/\s.h 1=(1,oX 63 (M.aN.en p0)))/\fP p0 m v3 v4=some r
 have e1:=@fP.eq_2
 have i2:=λ(v4:Int) (k8:Int->Int->Option Int)=>inv λm s=>∃aa:Int,∃ae:Int,(s.t 1=vP 1 1 0/\s.t 3=vI aa/\s.t 4=vI v4/\s.t 5=vI ae/\s.h 1=(1,oX 63 (M.aN.en p0)))/\lU p0 v4 k8 m aa ae=some r
 have e2:=@lU.eq_2
 unfold Cv at h
 exact sgo 43 [.tmp 2] func269⟩
instance:bU 159 (∀p0 p1 p2 r (h:BU p0 p1 p2=some r),Sc 159 [aX (M.aKe.en p0),aS p1,aS p2] [rB r]):=⟨λp0 p1 p2 r h=>by unfold BU at h;exact sgo 23 [.tmp 6] func159⟩
instance:bU 103 (∀p0 p1 r (h:gN p0 p1=some r),Sc 103 [aL enB p0,aI p1] [rI r.1,rI r.2.1,rB r.2.2]):=⟨λp0 p1 r h=>by
 have i1:=inv λm s=>∃v7:Int,∃v8:Int,(s.t 0=vL enB p0/\s.t 1=vI p1/\s.t 7=vI v7/\s.t 8=vI v8)/\eX p0 p1 m v7 v8=some r
 have e1:=@eX.eq_2
 unfold gN at h
 exact sgo 55 [.tmp 4,.tmp 5,.tmp 6] func103⟩
instance:bU 102 (∀p0 p1 p2 r (h:eS p0 p1 p2=some r),Sc 102 [aL enB p0,aI p1,aI p2] [rW 5 1 enB r.1,rI r.2.1,rB r.2.2]):=⟨λp0 p1 p2 r h=>by unfold eS at h;exact sgo 46 [.tmp 6,.tmp 7,.tmp 8] func102⟩
instance:bU 84 (∀p0 p1 r (h:kH p0 p1=some r),Sc 84 [aX (M.aD.en p0),aX (M.bD.en p1)] [rI r]):=⟨λp0 p1 r h=>by
 have i1:=inv λm s=>∃v5:Int,(s.t 2=vP 2 1 0/\s.t 3=vP 3 1 0/\s.t 5=vI v5/\s.h 2=(1,oX 66 (M.aD.en p0))/\s.h 3=(1,oX 98 (M.bD.en p1)))/\pO p0 p1 m v5=some r
 have e1:=@pO.eq_2
 unfold kH at h
 exact sgo 22 [.tmp 4] func84⟩
instance:bU 31 (∀p0 r (h:Bn p0=some r),Sc 31 [aI p0] [(true,M.bD.rs r)]):=⟨λp0 r h=>by unfold Bn at h;exact sgo 5 [.cell 2 98] func31⟩
instance:bU 357 (∀p0 p1 r (h:C7 p0 p1=some r),Sc 357 [(false,[.ptr [.sl (List.map enB p0.b),.int .i64 p0.i,.int .i64 p0.h]]),aI p1] [(false,[.edit (.lend 138 [.int .i64 r.1,.int .i64 r.2.1])]),rW 5 1 enB r.2.2]):=⟨λp0 p1 r h=>by
 unfold C7 at h
 simp only[EN]
 refine sgB 20 [.tmp 4] func357 λbase wd B0 u0 hw0=> ?_
 refine bY (J:=λs=>s.t 0=vP 7059000 1 0/\s.t 1=vI p1/\s.h 7059000=(1,oB 138 [.old B0 (.sl (List.map enB p0.b)) (some u0),cI p0.i,cI p0.h])/\True) ?_ ?_
 ·and_intros<;>(try simp only[LN,jJ,jK])<;>rfl
 rintro s1 f2
 have i1:=inv λm s=>∃v6:Int,∃r7:List Int,∃aa:Int,∃ae:Int,∃u7:Nat,(s.t 0=vP 7059000 1 0/\s.t 1=vI p1/\s.t 5=vR 100007 u7/\s.t 6=vI v6/\s.h 100007=(u7,oW 5 1 enB r7)/\s.h 7059000=(1,oB 138 [.old B0 (.sl (List.map enB p0.b)) (some u0),cI aa,cI ae]))/\sR p0 p1 m v6 r7 aa ae=some r
 have e1:=@sR.eq_2
 exact sgX⟩
instance:bU 373 (∀p0 r (h:lA p0=some r),Sc 373 [aI p0] [rI r]):=⟨λp0 r h=>by
 have i1:=inv λm s=>∃v3:Int,∃v4:Int,(s.t 0=vI p0/\s.t 3=vI v3/\s.t 4=vI v4)/\sJ p0 m v3 v4=some r
 have e1:=@sJ.eq_2
 unfold lA at h
 exact sgo 17 [.tmp 2] func373⟩
