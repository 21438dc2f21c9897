/-
  Helper text. No conditions.
-/
import Derived.Test.YtbpbocchokbggaaGreatOpenedTi
set_option linter.all false
namespace Go.Proofs.YtbpbocchokbggaaGreat.gen
open Go Go.Sh
set_option maxRecDepth 20000
set_option maxHeartbeats 4000000
instance:bK 379 (∀p0 r (h:uH p0=some r),Sc 379 [(false,[.ptr [.sl (List.map enB p0.b),.int .i64 p0.i,.int .i64 p0.h]])] [(false,[.edit (.lend 304 [.int .i64 r.1,.int .i64 r.2.1])]),rI r.2.2]):=⟨λp0 r h=>by
 unfold uH at h
 simp only[EN]
 refine sgB 58 [.tmp 2] Tryz.func379 λbase wd B0 u0 hw0=> ?_
 refine eE (J:=λs=>s.t 0=vP 7059000 1 0/\s.h 7059000=(1,oB 304 [.old B0 (.sl (List.map enB p0.b)) (some u0),cI p0.i,cI p0.h])/\True) ?_ ?_
 ·and_intros<;>(try simp only[LN,List.map_cons,List.map_nil])<;>rfl
 rintro s1 f2
 exact sgX⟩
instance Ob:bK 238 (∀p0 p1 r (h:aG p0 p1=some r),Sc 238 [(false,[.ptr [.sl (List.map enB p0.b),.int .i64 p0.i,.int .i64 p0.h]]),aI p1] [(false,[.edit (.lend 304 [.int .i64 r.1,.int .i64 r.2.1])]),rI r.2.2]):=⟨λp0 p1 r h=>by
 unfold aG at h
 simp only[EN]
 refine sgB 31 [.tmp 4] Tryz.func238 λbase wd B0 u0 hw0=> ?_
 refine eE (J:=λs=>s.t 0=vP 7059000 1 0/\s.t 1=vI p1/\s.h 7059000=(1,oB 304 [.old B0 (.sl (List.map enB p0.b)) (some u0),cI p0.i,cI p0.h])/\True) ?_ ?_
 ·and_intros<;>(try simp only[LN,List.map_cons,List.map_nil])<;>rfl
 rintro s1 f2
 exact sgX⟩
instance aBV:bK 416 (∀p0 r (h:uI p0=some r),Sc 416 [aX (M.aHH.en p0)] [(true,M.aHH.rs r)]):=⟨λp0 r h=>by unfold uI at h;exact sgo 11 [.cell 2 189] Tryz.func416⟩
instance:bK 395 (∀p0 r (h:AP p0=some r),Sc 395 [aX (M.aHM.en p0)] [(true,M.aHM.rs r)]):=⟨λp0 r h=>by
 have i1:=ES [.b 3 1 7050000 351 7] λm s=>∃v4:Int,∃aa:List M.aHU,∃ae:Nat,(s.t 1=vP 1 1 0/\s.t 2=vP 2 1 0/\s.t 3=vP 3 1 0/\s.t 4=vI v4/\s.h 1=(1,oX 345 (M.aHM.en p0))/\s.h 2=(1,oB 345 [cI 0,.nil])/\s.h 3=(1,oB 345 [cI p0.aHA,.row 7050000 ae])/\s.h 7050000=(ae,oW 351 7 M.aHU.en aa))/\nU p0 m v4 aa=some r
 have e1:=@nU.eq_2
 unfold AP at h
 exact sgo 36 [.cell 2 345] Tryz.func395⟩
instance:bK 398 (∀p0 r (h:wK p0=some r),Sc 398 [aL M.Instr.en p0] [rW 308 4 M.Instr.en r]):=⟨λp0 r h=>by unfold wK at h;exact sgo 6 [.tmp 2] Tryz.func398⟩
instance:bK 305 (∀p0 r (h:Bx p0=some r),Sc 305 [aX (M.aHJ.en p0)] [(true,M.aHJ.rs r)]):=⟨λp0 r h=>by unfold Bx at h;exact sgo 15 [.cell 2 65] Tryz.func305⟩
instance:bK 161 (∀p0 r (h:xT p0=some r),Sc 161 [aX (M.aM.en p0)] [(true,M.aM.rs r)]):=⟨λp0 r h=>by unfold xT at h;exact sgo 8 [.cell 2 51] Tryz.func161⟩
instance:bK 162 (∀p0 r (h:As p0=some r),Sc 162 [aX (M.aHN.en p0)] [(true,M.aHN.rs r)]):=⟨λp0 r h=>by unfold As at h;exact sgo 8 [.cell 2 54] Tryz.func162⟩
instance:bK 542 (∀p0 p1 r (h:BD p0 p1=some r),Sc 542 [aL M.bC.en p0,aI p1] [rI r]):=⟨λp0 p1 r h=>by
 have i1:=inv λm s=>∃v5:Int,(s.t 0=vL M.bC.en p0/\s.t 1=vI p1/\s.t 5=vI v5)/\pS p0 p1 m v5=some r
 have e1:=@pS.eq_2
 unfold BD at h
 exact sgo 20 [.tmp 4] Tryz.func542⟩
theorem aGx(p0 p1 r)(h:Aa p0 p1=some r):Sc 467 [aX (M.World.en p0),aI p1] [rI r]:=by unfold Aa at h;exact sgo 9 [.tmp 4] Tryz.func467
instance:bK 497 (∀p0 p1 r (h:A7 p0 p1=some r),Sc 497 [aB p0,aB p1] [rI r]):=⟨λp0 p1 r h=>by unfold A7 at h;exact sgo 7 [.tmp 4] Tryz.func497⟩
instance c26:bK 26 (∀p0 p1 p2 r (h:gR p0 p1 p2=some r),Sc 26 [aX (M.aA.en p0),aS p1,aS p2] [rI r]):=⟨λp0 p1 p2 r h=>by
 have i1:=inv λm s=>∃v7:Int,(s.t 1=vS p1/\s.t 2=vS p2/\s.t 3=vP 3 1 0/\s.t 7=vI v7/\s.h 3=(1,oX 47 (M.aA.en p0)))/\gU p0 p1 p2 m v7=some r
 have e1:=@gU.eq_2
 unfold gR at h
 exact sgo 34 [.tmp 6] Tryz.func26⟩
instance:bK 513 (∀p0 p1 r (h:lJ p0 p1=some r),Sc 513 [aX (M.aD.en p0),aS p1] [rI r.1,rB r.2]):=⟨λp0 p1 r h=>by
 have i1:=inv λm s=>∃v6:Int,(s.t 1=vS p1/\s.t 2=vP 2 1 0/\s.t 6=vI v6/\s.h 2=(1,oX 129 (M.aD.en p0)))/\sN p0 p1 m v6=some r
 have e1:=@sN.eq_2
 unfold lJ at h
 exact sgo 28 [.tmp 4,.tmp 5] Tryz.func513⟩
instance:bK 596 (∀p0 p1 p2 r (h:B6 p0 p1 p2=some r),Sc 596 [aL M.dO.en p0,aI p1,aX (M.dO.en p2)] [rB r]):=⟨λp0 p1 p2 r h=>by
 have i1:=inv λm s=>∃v7:Int,(s.t 0=vL M.dO.en p0/\s.t 1=vI p1/\s.t 5=vP 5 1 0/\s.t 7=vI v7/\s.h 5=(1,oX 196 (M.dO.en p2)))/\oV p0 p1 p2 m v7=some r
 have e1:=@oV.eq_2
 unfold B6 at h
 exact sgo 42 [.tmp 6] Tryz.func596⟩
instance:bK 543 (∀p0 r (h:uU p0=some r),Sc 543 [aX (M.aM.en p0)] [(true,M.aM.rs r)]):=⟨λp0 r h=>by
 have i1:=inv λm s=>∃v4:Int,∃r6:List M.dO,(s.t 2=vP 2 1 0/\s.t 3=vP 3 1 0/\s.t 4=vI v4/\s.h 2=(1,oB 51 [.nil])/\s.h 3=(1,oB 51 [.row 100006 1])/\s.h 100006=(1,oW 196 4 M.dO.en r6))/\eZ m v4 r6=some r
 have e1:=@eZ.eq_2
 unfold uU at h
 exact sgo 38 [.cell 2 51] Tryz.func543⟩
theorem aGe(p0 p1 r)(h:Ae p0 p1=some r):Sc 469 [aX (M.aHN.en p0),aI p1] [(true,M.aHN.rs r)]:=by
 have i1:=ES [.b 5 0 7050000 199 3] λm s=>∃I:Int,∃j:List M.mI,∃C:Nat,(s.t 1=vI p1/\s.t 2=vP 2 1 0/\s.t 4=vP 4 1 0/\s.t 5=vP 5 1 0/\s.t 6=vI I/\s.h 2=(1,oX 54 (M.aHN.en p0))/\s.h 4=(1,oB 54 [.nil])/\s.h 5=(1,oB 54 [.row 7050000 C])/\s.h 7050000=(C,oW 199 3 M.mI.en j))/\iK p0 p1 m I j=some r
 have e1:=@iK.eq_2
 unfold Ae at h
 exact sgo 34 [.cell 4 54] Tryz.func469
instance:bK 108 (∀p0 p1 p2 r (h:pV p0 p1 p2=some r),Sc 108 [aX (M.aG9.en p0),aX (M.aHL.en p1),aB p2] [rI r]):=⟨λp0 p1 p2 r h=>by unfold pV at h;exact sgo 15 [.tmp 6] Tryz.func108⟩
instance:bK 257 (∀r (h:cY=some r),Sc 257 [] [(true,M.aHH.rs r)]):=⟨λr h=>by unfold cY at h;exact sgo 2 [.cell 0 189] Tryz.func257⟩
instance aA4:bK 293 (∀p0 p1 r (h:wQ p0 p1=some r),Sc 293 [aX (M.aF.en p0),aI p1] [rI r]):=⟨λp0 p1 r h=>by
 have i1:=inv λm s=>∃v5:Int,(s.t 1=vI p1/\s.t 2=vP 2 1 0/\s.t 5=vI v5/\s.h 2=(1,oX 108 (M.aF.en p0)))/\lY p0 p1 m v5=some r
 have e1:=@lY.eq_2
 unfold wQ at h
 exact sgo 22 [.tmp 4] Tryz.func293⟩
instance aA9:bK 417 (∀p0 p1 p2 r (h:Al p0 p1 p2=some r),Sc 417 [aX (M.aHM.en p0),aS p1,aS p2] [rI r]):=⟨λp0 p1 p2 r h=>by
 have i1:=inv λm s=>∃v7:Int,(s.t 1=vS p1/\s.t 2=vS p2/\s.t 3=vP 3 1 0/\s.t 7=vI v7/\s.h 3=(1,oX 345 (M.aHM.en p0)))/\nF p0 p1 p2 m v7=some r
 have e1:=@nF.eq_2
 unfold Al at h
 exact sgo 34 [.tmp 6] Tryz.func417⟩
instance:bK 399 (∀p0 p1 p2 p3 r (h:yJ p0 p1 p2 p3=some r),Sc 399 [aX (M.aF.en p0),aI p1,aS p2,aS p3] [(true,M.aHH.rs r.1),rB r.2]):=⟨λp0 p1 p2 p3 r h=>by unfold yJ at h;exact sgo 40 [.cell 8 189,.tmp 9] Tryz.func399⟩
instance:bK 418 (∀p0 p1 r (h:Bp p0 p1=some r),Sc 418 [aX (M.aHL.en p0),aS p1] [rB r]):=⟨λp0 p1 r h=>by
 have i1:=inv λm s=>∃v5:Int,(s.t 1=vS p1/\s.t 2=vP 2 1 0/\s.t 5=vI v5/\s.h 2=(1,oX 92 (M.aHL.en p0)))/\pU p0 p1 m v5=some r
 have e1:=@pU.eq_2
 unfold Bp at h
 exact sgo 20 [.tmp 4] Tryz.func418⟩
instance:bK 431 (∀p0 p1 r (h:fQ p0 p1=some r),Sc 431 [aL enB p0,aI p1] [rI r.1,rI r.2.1,rB r.2.2]):=⟨λp0 p1 r h=>by
 have i1:=inv λm s=>∃v7:Int,∃v8:Int,(s.t 0=vL enB p0/\s.t 1=vI p1/\s.t 7=vI v7/\s.t 8=vI v8)/\eB p0 p1 m v7 v8=some r
 have e1:=@eB.eq_2
 unfold fQ at h
 exact sgo 55 [.tmp 4,.tmp 5,.tmp 6] Tryz.func431⟩
instance:bK 430 (∀p0 p1 p2 r (h:eA p0 p1 p2=some r),Sc 430 [aL enB p0,aI p1,aI p2] [rW 5 1 enB r.1,rI r.2.1,rB r.2.2]):=⟨λp0 p1 p2 r h=>by unfold eA at h;exact sgo 46 [.tmp 6,.tmp 7,.tmp 8] Tryz.func430⟩
instance:bK 433 (∀p0 p1 r (h:yO p0 p1=some r),Sc 433 [aL enB p0,aL enB p1] [rB r]):=⟨λp0 p1 r h=>by unfold yO at h;exact sgo 10 [.tmp 4] Tryz.func433⟩
instance:bK 624 (∀p0 p1 r (h:At p0 p1=some r),Sc 624 [(false,[.ptr [.sl (List.map enB p0.b),.int .i64 p0.i,.int .i64 p0.h]]),aI p1] [(false,[.edit (.lend 304 [.int .i64 r.1,.int .i64 r.2.1])]),rW 5 1 enB r.2.2]):=⟨λp0 p1 r h=>by
 unfold At at h
 simp only[EN]
 refine sgB 20 [.tmp 4] Tryz.func624 λbase wd B0 u0 hw0=> ?_
 refine eE (J:=λs=>s.t 0=vP 7059000 1 0/\s.t 1=vI p1/\s.h 7059000=(1,oB 304 [.old B0 (.sl (List.map enB p0.b)) (some u0),cI p0.i,cI p0.h])/\True) ?_ ?_
 ·and_intros<;>(try simp only[LN,List.map_cons,List.map_nil])<;>rfl
 rintro s1 f2
 have i1:=inv λm s=>∃v6:Int,∃r7:List Int,∃aa:Int,∃ae:Int,∃u7:Nat,(s.t 0=vP 7059000 1 0/\s.t 1=vI p1/\s.t 5=vR 100007 u7/\s.t 6=vI v6/\s.h 100007=(u7,oW 5 1 enB r7)/\s.h 7059000=(1,oB 304 [.old B0 (.sl (List.map enB p0.b)) (some u0),cI aa,cI ae]))/\rK p0 p1 m v6 r7 aa ae=some r
 have e1:=@rK.eq_2
 exact sgX⟩
theorem aG0(p0 p1 r)(h:C4 p0 p1=some r):Sc 651 [aX (M.aHB.en p0),aX (M.lW.en p1)] [rI r]:=by
 have i1:=inv λm s=>∃j:Int,(s.t 2=vP 2 1 0/\s.t 3=vP 3 1 0/\s.t 5=vI j/\s.h 2=(1,oX 112 (M.aHB.en p0))/\s.h 3=(1,oX 633 (M.lW.en p1)))/\pQ p0 p1 m j=some r
 have e1:=@pQ.eq_2
 unfold C4 at h
 exact sgo 34 [.tmp 4] Tryz.func651
instance:bK 643 (∀p0 r (h:Bc p0=some r),Sc 643 [aX (M.aJ.en p0)] [(true,M.bB.rs r.1),rB r.2]):=⟨λp0 r h=>by unfold Bc at h;exact sgo 13 [.cell 2 328,.tmp 3] Tryz.func643⟩
instance:bK 645 (∀p0 p1 r (h:iC p0 p1=some r),Sc 645 [aI p0,aI p1] [rI r]):=⟨λp0 p1 r h=>by unfold iC at h;exact sgo 10 [.tmp 4] Tryz.func645⟩
