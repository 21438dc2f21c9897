/-
  Helper text. No conditions.
-/
import Derived.Test.YtbpbocchokbggaaGreatUpdatesWspec0
import Derived.Test.YtbpbocchokbggaaGreatUpdatesWspec1
import Derived.Test.YtbpbocchokbggaaGreatUpdatesWspec2
set_option linter.all false
namespace Go.Proofs.YtbpbocchokbggaaGreat.gen
open Go Go.Sh
set_option maxRecDepth 20000
set_option maxHeartbeats 4000000
instance:bE 254 (∀p0 r (h:yQ p0=some r),Sc 254 [aX (M.aG.en p0)] [(true,M.aG.rs r)]):=⟨λp0 r h=>by unfold yQ at h;exact sgo 12 [.cell 2 124] Tryz.func254⟩
instance:bE 164 (∀p0 r (h:gW p0=some r),Sc 164 [aX (M.aJC.en p0)] [(true,M.aJC.rs r)]):=⟨λp0 r h=>by unfold gW at h;exact sgo 15 [.cell 2 205] Tryz.func164⟩
instance:bE 269 (∀p0 r (h:nX p0=some r),Sc 269 [aX (M.aD.en p0)] [rB r]):=⟨λp0 r h=>by
 have i1:=inv λm s=>∃v3:Int,(s.t 1=vP 1 1 0/\s.t 3=vI v3/\s.h 1=(1,oX 117 (M.aD.en p0)))/\kN p0 m v3=some r
 have e1:=@kN.eq_2
 unfold nX at h
 exact sgo 64 [.tmp 2] Tryz.func269⟩
instance:bE 579 (∀p0 p1 p2 r (h:CZ p0 p1 p2=some r),Sc 579 [aX (M.aJN.en p0),aX (M.aJN.en p1),aS p2] [rB r]):=⟨λp0 p1 p2 r h=>by unfold CZ at h;exact sgo 41 [.tmp 6] Tryz.func579⟩
instance:bE 391 (∀p0 r (h:iY p0=some r),Sc 391 [aX (M.aK.en p0)] [rB r]):=⟨λp0 r h=>by
 have i1:=inv λm s=>∃v4:Int,(s.t 1=vP 1 1 0/\s.t 3=vI (List.length p0.aJM:Int)/\s.t 4=vI v4/\s.h 1=(1,oX 120 (M.aK.en p0)))/\oF p0 m v4=some r
 have e1:=@oF.eq_2
 unfold iY at h
 exact sgo 60 [.tmp 2] Tryz.func391⟩
instance:bE 316 (∀p0 r (h:gN p0=some r),Sc 316 [aX (M.aE.en p0)] [rW 5 1 enB r]):=⟨λp0 r h=>by
 have i1:=E5 [.t 3 7050000 5 1] λm s=>∃v4:Int,∃aa:List Int,∃ae:Nat,(s.t 1=vP 1 1 0/\s.t 3=vR 7050000 ae/\s.t 4=vI v4/\s.h 1=(1,oX 129 (M.aE.en p0))/\s.h 7050000=(ae,oW 5 1 enB aa))/\dB p0 m v4 aa=some r
 have e1:=@dB.eq_2
 unfold gN at h
 exact sgo 38 [.tmp 2] Tryz.func316⟩
instance aC4:bE 380 (∀p0 r (h:dN p0=some r),Sc 380 [(false,[.ptr [.sl (List.map enB p0.b),.int .i64 p0.i,.int .i64 p0.h]])] [(false,[.edit (.lend 304 [.int .i64 r.1,.int .i64 r.2.1])]),rS r.2.2]):=⟨λp0 r h=>by
 unfold dN at h
 simp only[EN]
 refine sgB 6 [.tmp 2] Tryz.func380 λbase wd B0 u0 hw0=> ?_
 refine dR (J:=λs=>s.t 0=vP 7059000 1 0/\s.h 7059000=(1,oB 304 [.old B0 (.sl (List.map enB p0.b)) (some u0),cI p0.i,cI p0.h])/\True) ?_ ?_
 ·and_intros<;>(try simp only[LN,List.map_cons,List.map_nil])<;>rfl
 rintro s1 f2
 exact sgX⟩
instance aCi:bE 109 (∀p0 p1 p2 r (h:lS p0 p1 p2=some r),Sc 109 [aX (M.bG.en p0),aS p1,aX (M.aI8.en p2)] [(true,M.bG.rs r.1),rB r.2]):=⟨λp0 p1 p2 r h=>by unfold lS at h;exact sgo 43 [.cell 6 67,.tmp 7] Tryz.func109⟩
instance:bE 142 (∀p0 p1 r (h:yW p0 p1=some r),Sc 142 [aX (M.aIz.en p0),aB p1] [(true,M.aIz.rs r.1),rI r.2]):=⟨λp0 p1 r h=>by unfold yW at h;exact sgo 29 [.cell 4 105,.tmp 5] Tryz.func142⟩
instance:bE 143 (∀p0 p1 r (h:xG p0 p1=some r),Sc 143 [aX (M.aC.en p0),aI p1] [(true,M.aC.rs r.1),rB r.2]):=⟨λp0 p1 r h=>by
 unfold xG at h
 simp only[EN]
 refine sgn 28 [.cell 4 108,.tmp 5] Tryz.func143 λbase wd => ?_
 refine sq (rn ?_)
 refine an (sq ?_)
 obtain⟨x1,h2,h⟩:=bind_some h
 refine rn1 (Yn.1 _ _ h2) ?_
 refine an (sq ?_)
 obtain⟨x3,h4,h⟩:=bind_some h
 refine rn1 (aB6.1 _ _ _ h4) ?_
 refine an (sq (sq (rn ?_)))
 refine an ?_
 rcases mT (decide (x3<0))with b5 | b5
 ·replace h:=bZ b5 h;refine ct (sq (rn ?_));refine an (rt ?_);cases h;simp[Ret,TB,EN, *]
 replace h:=bY b5 h
 refine cf (sk (an (sq ?_)))
 obtain⟨x6,h7,h⟩:=bind_some h
 obtain⟨x8,h9,h⟩:=bind_some h
 obtain⟨ae,aa,h⟩:=bind_some h
 apply BH mixed
 ·simp +decide only[E,reduceIte,Nat.reduceAdd,Nat.reduceMul,qB,qC,<-List.map_take,<-List.map_drop,Nat.sub_zero,L,FV,dQ,B2,M.aI5.en,EN,b5]
  refine⟨by first | exact rU h7 | exact(rU h7).2 | exact(rU h7).2.2,?_⟩
  try simp +decide only[E,reduceIte,Nat.reduceAdd,Nat.reduceMul,qB,qC,<-List.map_take,<-List.map_drop,Nat.sub_zero,L,FV,dQ,B2,M.aI5.en,EN,b5]
  refine⟨by first | exact Ex h9 | exact(Ex h9).2 | exact(Ex h9).2.2,?_⟩
  try simp +decide only[E,reduceIte,Nat.reduceAdd,Nat.reduceMul,qB,qC,<-List.map_take,<-List.map_drop,Nat.sub_zero,L,FV,dQ,B2,M.aI5.en,EN,b5]
  refine⟨by first | exact Fx (f:=M.aI5.en) (sz:=2) (λ_=>rfl) jE h7 h9 aa | (have hb:=Fx (f:=M.aI5.en) (sz:=2) (λ_=>rfl) jE h7 h9 aa;simpa using hb),?_⟩
  try simp +decide only[E,reduceIte,Nat.reduceAdd,Nat.reduceMul,qB,qC,<-List.map_take,<-List.map_drop,Nat.sub_zero,L,FV,dQ,B2,M.aI5.en,EN,b5]
  exact⟨.mk jF,Is.mk _⟩
 refine an (sq (rn ?_))
 refine an (rt ?_)
 cases h
 simp[Ret,TB,EN, *]⟩
instance aA3:bE 544 (∀p0 r (h:nY p0=some r),Sc 544 [(false,[.ptr [.sl (List.map enB p0.b),.int .i64 p0.i,.int .i64 p0.h]])] [(false,[.edit (.lend 304 [.int .i64 r.1,.int .i64 r.2.1])]),rS r.2.2]):=⟨λp0 r h=>by
 unfold nY at h
 simp only[EN]
 refine sgB 6 [.tmp 2] Tryz.func544 λbase wd B0 u0 hw0=> ?_
 refine dR (J:=λs=>s.t 0=vP 7059000 1 0/\s.h 7059000=(1,oB 304 [.old B0 (.sl (List.map enB p0.b)) (some u0),cI p0.i,cI p0.h])/\True) ?_ ?_
 ·and_intros<;>(try simp only[LN,List.map_cons,List.map_nil])<;>rfl
 rintro s1 f2
 exact sgX⟩
instance:bE 317 (∀p0 p1 r (h:yX p0 p1=some r),Sc 317 [aI p0,aL enB p1] [rI r]):=⟨λp0 p1 r h=>by unfold yX at h;exact sgo 11 [.tmp 4] Tryz.func317⟩
instance:bE 578 (∀p0 p1 r (h:D2 p0 p1=some r),Sc 578 [aL enB p0,aI p1] [(true,M.aE.rs r.1),rI r.2.1,rB r.2.2]):=⟨λp0 p1 r h=>by
 have i1:=λ(x1:(Int×Int×Bool))=>E5 [.b 10 0 7050000 262 2] λm s=>∃v8:Int,∃v11:Int,∃aa:List M.Field,∃ae:Nat,(s.t 0=vL enB p0/\s.t 4=vP 4 1 0/\s.t 7=vI x1.1/\s.t 8=vI v8/\s.t 10=vP 10 1 0/\s.t 11=vI v11/\s.h 4=(1,oB 129 [.nil])/\s.h 10=(1,oB 129 [.row 7050000 ae])/\s.h 7050000=(ae,oW 262 2 M.Field.en aa))/\tM p0 x1 m v8 v11 aa=some r
 have e1:=@tM.eq_2
 unfold D2 at h
 exact sgo 72 [.cell 4 129,.tmp 5,.tmp 6] Tryz.func578⟩
instance aDT:bE 601 (∀p0 r (h:sX p0=some r),Sc 601 [(false,[.ptr [.sl (List.map enB p0.b),.int .i64 p0.i,.int .i64 p0.h]])] [(false,[.edit (.lend 304 [.int .i64 r.1,.int .i64 r.2.1])]),(true,M.aI8.rs r.2.2)]):=⟨λp0 r h=>by
 unfold sX at h
 simp only[EN]
 refine sgB 40 [.cell 2 189] Tryz.func601 λbase wd B0 u0 hw0=> ?_
 refine dR (J:=λs=>s.t 0=vP 7059000 1 0/\s.h 7059000=(1,oB 304 [.old B0 (.sl (List.map enB p0.b)) (some u0),cI p0.i,cI p0.h])/\True) ?_ ?_
 ·and_intros<;>(try simp only[LN,List.map_cons,List.map_nil])<;>rfl
 rintro s1 f2
 exact sgX⟩
instance:bE 631 (∀p0 r (h:zA p0=some r),Sc 631 [(false,[.ptr [.sl (List.map enB p0.b),.int .i64 p0.i,.int .i64 p0.h]])] [(false,[.edit (.lend 304 [.int .i64 r.1,.int .i64 r.2.1])]),rI r.2.2]):=⟨λp0 r h=>by
 unfold zA at h
 simp only[EN]
 refine sgB 8 [.tmp 2] Tryz.func631 λbase wd B0 u0 hw0=> ?_
 refine dR (J:=λs=>s.t 0=vP 7059000 1 0/\s.h 7059000=(1,oB 304 [.old B0 (.sl (List.map enB p0.b)) (some u0),cI p0.i,cI p0.h])/\True) ?_ ?_
 ·and_intros<;>(try simp only[LN,List.map_cons,List.map_nil])<;>rfl
 rintro s1 f2
 exact sgX⟩
theorem aIK(p0 p1 r)(h:F4 p0 p1=some r):Sc 652 [aX (M.aI2.en p0),aS p1] [(true,M.aI2.rs r)]:=by
 have i1:=E5 [.b 5 2 7050000 117 3] λm s=>∃U:Int,∃j:List M.aD,∃C:Nat,(s.t 1=vS p1/\s.t 2=vP 2 1 0/\s.t 4=vP 4 1 0/\s.t 5=vP 5 1 0/\s.t 6=vI U/\s.h 2=(1,oX 112 (M.aI2.en p0))/\s.h 4=(1,Ey)/\s.h 5=(1,oB 112 [cS p0.Name,cI p0.aI0,.row 7050000 C,.nil])/\s.h 7050000=(C,oW 117 3 M.aD.en j))/\AA p0 p1 m U j=some r
 have e1:=@AA.eq_2
 have i2:=λ(j:List M.aD) (C:Nat)=>E5 [.b 5 3 7050100 471 2] λm s=>∃v7:Int,∃I:List M.aN,∃J:Nat,(s.t 1=vS p1/\s.t 2=vP 2 1 0/\s.t 4=vP 4 1 0/\s.t 5=vP 5 1 0/\s.t 7=vI v7/\s.h 2=(1,oX 112 (M.aI2.en p0))/\s.h 4=(1,Ey)/\s.h 5=(1,oB 112 [cS p0.Name,cI p0.aI0,.row 7050000 C,.row 7050100 J])/\s.h 7050000=(C,oW 117 3 M.aD.en j)/\s.h 7050100=(J,oW 471 2 M.aN.en I))/\As p0 p1 j m v7 I=some r
 have e2:=@As.eq_2
 unfold F4 at h
 exact sgo 65 [.cell 4 112] Tryz.func652
