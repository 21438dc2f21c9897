/-
  Helper text. No conditions.
-/
import Derived.Test.YtbpbocchokbggaaGreatWriteNoteTi
set_option linter.all false
namespace Go.Proofs.YtbpbocchokbggaaGreat.gen
open Go Go.Sh
set_option maxRecDepth 20000
set_option maxHeartbeats 4000000
instance:aZ 438 (∀p0 r (h:mE p0=some r),Sc 438 [aX (M.aEL.en p0)] [(true,M.aEL.rs r)]):=⟨λp0 r h=>by unfold mE at h;exact sgo 17 [.cell 2 105] Tryz.func438⟩
instance:aZ 521 (∀p0 r (h:wU p0=some r),Sc 521 [aL enB p0] [rW 5 1 enB r]):=⟨λp0 r h=>by
 have i1:=inv λm s=>∃v4:Int,∃r7:List Int,(s.t 0=vL enB p0/\s.t 3=vR 100007 1/\s.t 4=vI v4/\s.h 100007=(1,oW 5 1 enB r7))/\nW p0 m v4 r7=some r
 have e1:=@nW.eq_2
 unfold wU at h
 exact sgo 22 [.tmp 2] Tryz.func521⟩
instance:aZ 648 (∀p0 r (h:tA p0=some r),Sc 648 [aX (M.aEQ.en p0)] [(true,M.aEQ.rs r)]):=⟨λp0 r h=>by unfold tA at h;exact sgo 21 [.cell 2 189] Tryz.func648⟩
instance:aZ 636 (∀p0 r (h:tD p0=some r),Sc 636 [aX (M.aEW.en p0)] [(true,M.aEW.rs r)]):=⟨λp0 r h=>by unfold tD at h;exact sgo 15 [.cell 2 351] Tryz.func636⟩
instance:aZ 615 (∀p0 r (h:AY p0=some r),Sc 615 [aL M.aEW.en p0] [rW 351 7 M.aEW.en r]):=⟨λp0 r h=>by
 have i1:=inv λm s=>∃v4:Int,∃r7:List M.aEW,(s.t 0=vL M.aEW.en p0/\s.t 3=vR 100007 1/\s.t 4=vI v4/\s.h 100007=(1,oW 351 7 M.aEW.en r7))/\E0 tD p0 m v4 r7=some r
 have e1:=@E0.eq_2
 unfold AY toS at h
 exact sgo 23 [.tmp 2] Tryz.func615⟩
instance:aZ 581 (∀p0 r (h:wS p0=some r),Sc 581 [aX (M.aEZ.en p0)] [(true,M.aEZ.rs r)]):=⟨λp0 r h=>by unfold wS at h;exact sgo 12 [.cell 2 345] Tryz.func581⟩
instance:aZ 519 (∀p0 r (h:BS p0=some r),Sc 519 [aL M.aEZ.en p0] [rW 345 2 M.aEZ.en r]):=⟨λp0 r h=>by
 have i1:=inv λm s=>∃v4:Int,∃r7:List M.aEZ,(s.t 0=vL M.aEZ.en p0/\s.t 3=vR 100007 1/\s.t 4=vI v4/\s.h 100007=(1,oW 345 2 M.aEZ.en r7))/\E0 wS p0 m v4 r7=some r
 have e1:=@E0.eq_2
 unfold BS toS at h
 exact sgo 23 [.tmp 2] Tryz.func519⟩
instance:aZ 439 (∀p0 r (h:tM p0=some r),Sc 439 [aX (M.aP.en p0)] [(true,M.aP.rs r)]):=⟨λp0 r h=>by unfold tM at h;exact sgo 9 [.cell 2 108] Tryz.func439⟩
instance:aZ 524 (∀p0 r (h:Bj p0=some r),Sc 524 [aX (M.Key.en p0)] [(true,M.Key.rs r)]):=⟨λp0 r h=>by unfold Bj at h;exact sgo 14 [.cell 2 136] Tryz.func524⟩
instance:aZ 637 (∀p0 r (h:xB p0=some r),Sc 637 [aX (M.Field.en p0)] [(true,M.Field.rs r)]):=⟨λp0 r h=>by unfold xB at h;exact sgo 11 [.cell 2 262] Tryz.func637⟩
instance:aZ 617 (∀p0 r (h:Cb p0=some r),Sc 617 [aL M.Field.en p0] [rW 262 2 M.Field.en r]):=⟨λp0 r h=>by
 have i1:=inv λm s=>∃v4:Int,∃r7:List M.Field,(s.t 0=vL M.Field.en p0/\s.t 3=vR 100007 1/\s.t 4=vI v4/\s.h 100007=(1,oW 262 2 M.Field.en r7))/\E0 xB p0 m v4 r7=some r
 have e1:=@E0.eq_2
 unfold Cb toS at h
 exact sgo 23 [.tmp 2] Tryz.func617⟩
instance:aZ 585 (∀p0 r (h:yF p0=some r),Sc 585 [aX (M.aA.en p0)] [(true,M.aA.rs r)]):=⟨λp0 r h=>by unfold yF at h;exact sgo 9 [.cell 2 129] Tryz.func585⟩
instance:aZ 523 (∀p0 r (h:yW p0=some r),Sc 523 [aX (M.aES.en p0)] [(true,M.aES.rs r)]):=⟨λp0 r h=>by unfold yW at h;exact sgo 13 [.cell 2 260] Tryz.func523⟩
instance:aZ 442 (∀p0 r (h:Cq p0=some r),Sc 442 [aL M.aES.en p0] [rW 260 4 M.aES.en r]):=⟨λp0 r h=>by
 have i1:=inv λm s=>∃v4:Int,∃r7:List M.aES,(s.t 0=vL M.aES.en p0/\s.t 3=vR 100007 1/\s.t 4=vI v4/\s.h 100007=(1,oW 260 4 M.aES.en r7))/\E0 yW p0 m v4 r7=some r
 have e1:=@E0.eq_2
 unfold Cq toS at h
 exact sgo 23 [.tmp 2] Tryz.func442⟩
instance:aZ 322 (∀p0 r (h:nO p0=some r),Sc 322 [aX (M.aC.en p0)] [(true,M.aC.rs r)]):=⟨λp0 r h=>by unfold nO at h;exact sgo 15 [.cell 2 117] Tryz.func322⟩
instance:aZ 582 (∀p0 r (h:BB p0=some r),Sc 582 [aL M.aC.en p0] [rW 117 3 M.aC.en r]):=⟨λp0 r h=>by
 have i1:=inv λm s=>∃v4:Int,∃r7:List M.aC,(s.t 0=vL M.aC.en p0/\s.t 3=vR 100007 1/\s.t 4=vI v4/\s.h 100007=(1,oW 117 3 M.aC.en r7))/\E0 nO p0 m v4 r7=some r
 have e1:=@E0.eq_2
 unfold BB toS at h
 exact sgo 23 [.tmp 2] Tryz.func582⟩
instance:aZ 616 (∀p0 r (h:oA p0=some r),Sc 616 [aX (M.aG.en p0)] [(true,M.aG.rs r)]):=⟨λp0 r h=>by unfold oA at h;exact sgo 11 [.cell 2 471] Tryz.func616⟩
instance:aZ 583 (∀p0 r (h:xR p0=some r),Sc 583 [aL M.aG.en p0] [rW 471 2 M.aG.en r]):=⟨λp0 r h=>by
 have i1:=inv λm s=>∃v4:Int,∃r7:List M.aG,(s.t 0=vL M.aG.en p0/\s.t 3=vR 100007 1/\s.t 4=vI v4/\s.h 100007=(1,oW 471 2 M.aG.en r7))/\E0 oA p0 m v4 r7=some r
 have e1:=@E0.eq_2
 unfold xR toS at h
 exact sgo 23 [.tmp 2] Tryz.func583⟩
instance:aZ 520 (∀p0 r (h:sH p0=some r),Sc 520 [aX (M.aEK.en p0)] [(true,M.aEK.rs r)]):=⟨λp0 r h=>by unfold sH at h;exact sgo 19 [.cell 2 112] Tryz.func520⟩
instance:aZ 440 (∀p0 r (h:B7 p0=some r),Sc 440 [aX (M.bK.en p0)] [(true,M.bK.rs r)]):=⟨λp0 r h=>by unfold B7 at h;exact sgo 16 [.cell 2 114] Tryz.func440⟩
instance:aZ 444 (∀p0 r (h:wV p0=some r),Sc 444 [aX (M.bB.en p0)] [(true,M.bB.rs r)]):=⟨λp0 r h=>by unfold wV at h;exact sgo 21 [.cell 2 328] Tryz.func444⟩
instance:aZ 324 (∀p0 r (h:yM p0=some r),Sc 324 [aL M.bB.en p0] [rW 328 7 M.bB.en r]):=⟨λp0 r h=>by
 have i1:=inv λm s=>∃v4:Int,∃r7:List M.bB,(s.t 0=vL M.bB.en p0/\s.t 3=vR 100007 1/\s.t 4=vI v4/\s.h 100007=(1,oW 328 7 M.bB.en r7))/\E0 wV p0 m v4 r7=some r
 have e1:=@E0.eq_2
 unfold yM toS at h
 exact sgo 23 [.tmp 2] Tryz.func324⟩
instance:aZ 584 (∀p0 r (h:xZ p0=some r),Sc 584 [aX (M.aU.en p0)] [(true,M.aU.rs r)]):=⟨λp0 r h=>by unfold xZ at h;exact sgo 15 [.cell 2 120] Tryz.func584⟩
instance:aZ 522 (∀p0 r (h:BX p0=some r),Sc 522 [aX (M.aEf.en p0)] [(true,M.aEf.rs r)]):=⟨λp0 r h=>by unfold BX at h;exact sgo 15 [.cell 2 122] Tryz.func522⟩
instance:aZ 441 (∀p0 r (h:wB p0=some r),Sc 441 [aX (M.aF.en p0)] [(true,M.aF.rs r)]):=⟨λp0 r h=>by unfold wB at h;exact sgo 16 [.cell 2 124] Tryz.func441⟩
instance:aZ 318 (∀p0 r (h:tR p0=some r),Sc 318 [aX (M.aEJ.en p0)] [(true,M.aEJ.rs r)]):=⟨λp0 r h=>by unfold tR at h;exact sgo 33 [.cell 2 126] Tryz.func318⟩
instance:aZ 175 (∀p0 r (h:A6 p0=some r),Sc 175 [aL M.aEJ.en p0] [rW 126 24 M.aEJ.en r]):=⟨λp0 r h=>by
 have i1:=inv λm s=>∃v4:Int,∃r7:List M.aEJ,(s.t 0=vL M.aEJ.en p0/\s.t 3=vR 100007 1/\s.t 4=vI v4/\s.h 100007=(1,oW 126 24 M.aEJ.en r7))/\E0 tR p0 m v4 r7=some r
 have e1:=@E0.eq_2
 unfold A6 toS at h
 exact sgo 23 [.tmp 2] Tryz.func175⟩
instance:aZ 50 (∀p0 r (h:vV p0=some r),Sc 50 [aX (M.aD.en p0)] [(true,M.aD.rs r)]):=⟨λp0 r h=>by unfold vV at h;exact sgo 9 [.cell 2 47] Tryz.func50⟩
instance:aZ 180 (∀p0 r (h:sI p0=some r),Sc 180 [aX (M.aK.en p0)] [(true,M.aK.rs r)]):=⟨λp0 r h=>by unfold sI at h;exact sgo 11 [.cell 2 81] Tryz.func180⟩
instance:aZ 56 (∀p0 r (h:AO p0=some r),Sc 56 [aL M.aK.en p0] [rW 81 2 M.aK.en r]):=⟨λp0 r h=>by
 have i1:=inv λm s=>∃v4:Int,∃r7:List M.aK,(s.t 0=vL M.aK.en p0/\s.t 3=vR 100007 1/\s.t 4=vI v4/\s.h 100007=(1,oW 81 2 M.aK.en r7))/\E0 sI p0 m v4 r7=some r
 have e1:=@E0.eq_2
 unfold AO toS at h
 exact sgo 23 [.tmp 2] Tryz.func56⟩
instance:aZ 325 (∀p0 r (h:xC p0=some r),Sc 325 [aX (M.Instr.en p0)] [(true,M.Instr.rs r)]):=⟨λp0 r h=>by unfold xC at h;exact sgo 17 [.cell 2 308] Tryz.func325⟩
instance:aZ 181 (∀p0 r (h:Cc p0=some r),Sc 181 [aL M.Instr.en p0] [rW 308 4 M.Instr.en r]):=⟨λp0 r h=>by
 have i1:=inv λm s=>∃v4:Int,∃r7:List M.Instr,(s.t 0=vL M.Instr.en p0/\s.t 3=vR 100007 1/\s.t 4=vI v4/\s.h 100007=(1,oW 308 4 M.Instr.en r7))/\E0 xC p0 m v4 r7=some r
 have e1:=@E0.eq_2
 unfold Cc toS at h
 exact sgo 23 [.tmp 2] Tryz.func181⟩
instance:aZ 182 (∀p0 r (h:BG p0=some r),Sc 182 [aL enI p0] [rW 3 1 enI r]):=⟨λp0 r h=>by
 have i1:=inv λm s=>∃v4:Int,∃r7:List Int,(s.t 0=vL enI p0/\s.t 3=vR 100007 1/\s.t 4=vI v4/\s.h 100007=(1,oW 3 1 enI r7))/\pP p0 m v4 r7=some r
 have e1:=@pP.eq_2
 unfold BG at h
 exact sgo 22 [.tmp 2] Tryz.func182⟩
instance:aZ 57 (∀p0 r (h:vO p0=some r),Sc 57 [aX (M.aEO.en p0)] [(true,M.aEO.rs r)]):=⟨λp0 r h=>by unfold vO at h;exact sgo 25 [.cell 2 65] Tryz.func57⟩
instance c10:aZ 10 (∀p0 r (h:lY p0=some r),Sc 10 [aX (M.bS.en p0)] [(true,M.bS.rs r)]):=⟨λp0 r h=>by unfold lY at h;exact sgo 25 [.cell 2 67] Tryz.func10⟩
instance:aZ 51 (∀p0 r (h:Cu p0=some r),Sc 51 [aL M.bS.en p0] [rW 67 11 M.bS.en r]):=⟨λp0 r h=>by
 have i1:=inv λm s=>∃v4:Int,∃r7:List M.bS,(s.t 0=vL M.bS.en p0/\s.t 3=vR 100007 1/\s.t 4=vI v4/\s.h 100007=(1,oW 67 11 M.bS.en r7))/\E0 lY p0 m v4 r7=some r
 have e1:=@E0.eq_2
 unfold Cu toS at h
 exact sgo 23 [.tmp 2] Tryz.func51⟩
instance:aZ 319 (∀p0 r (h:zG p0=some r),Sc 319 [aX (M.eV.en p0)] [(true,M.eV.rs r)]):=⟨λp0 r h=>by unfold zG at h;exact sgo 17 [.cell 2 196] Tryz.func319⟩
instance:aZ 176 (∀p0 r (h:Cr p0=some r),Sc 176 [aL M.eV.en p0] [rW 196 4 M.eV.en r]):=⟨λp0 r h=>by
 have i1:=inv λm s=>∃v4:Int,∃r7:List M.eV,(s.t 0=vL M.eV.en p0/\s.t 3=vR 100007 1/\s.t 4=vI v4/\s.h 100007=(1,oW 196 4 M.eV.en r7))/\E0 zG p0 m v4 r7=some r
 have e1:=@E0.eq_2
 unfold Cr toS at h
 exact sgo 23 [.tmp 2] Tryz.func176⟩
instance:aZ 52 (∀p0 r (h:rC p0=some r),Sc 52 [aX (M.aR.en p0)] [(true,M.aR.rs r)]):=⟨λp0 r h=>by unfold rC at h;exact sgo 9 [.cell 2 51] Tryz.func52⟩
instance:aZ 320 (∀p0 r (h:zO p0=some r),Sc 320 [aX (M.gT.en p0)] [(true,M.gT.rs r)]):=⟨λp0 r h=>by unfold zO at h;exact sgo 14 [.cell 2 199] Tryz.func320⟩
instance:aZ 177 (∀p0 r (h:Cm p0=some r),Sc 177 [aL M.gT.en p0] [rW 199 3 M.gT.en r]):=⟨λp0 r h=>by
 have i1:=inv λm s=>∃v4:Int,∃r7:List M.gT,(s.t 0=vL M.gT.en p0/\s.t 3=vR 100007 1/\s.t 4=vI v4/\s.h 100007=(1,oW 199 3 M.gT.en r7))/\E0 zO p0 m v4 r7=some r
 have e1:=@E0.eq_2
 unfold Cm toS at h
 exact sgo 23 [.tmp 2] Tryz.func177⟩
instance:aZ 53 (∀p0 r (h:vM p0=some r),Sc 53 [aX (M.aEY.en p0)] [(true,M.aEY.rs r)]):=⟨λp0 r h=>by unfold vM at h;exact sgo 9 [.cell 2 54] Tryz.func53⟩
instance:aZ 321 (∀p0 r (h:wI p0=some r),Sc 321 [aL enS p0] [rW 9 1 enS r]):=⟨λp0 r h=>by
 have i1:=inv λm s=>∃v4:Int,∃r7:List ByteArray,(s.t 0=vL enS p0/\s.t 3=vR 100007 1/\s.t 4=vI v4/\s.h 100007=(1,oW 9 1 enS r7))/\lI p0 m v4 r7=some r
 have e1:=@lI.eq_2
 unfold wI at h
 exact sgo 22 [.tmp 2] Tryz.func321⟩
instance:aZ 178 (∀p0 r (h:zK p0=some r),Sc 178 [aX (M.aET.en p0)] [(true,M.aET.rs r)]):=⟨λp0 r h=>by unfold zK at h;exact sgo 18 [.cell 2 92] Tryz.func178⟩
instance:aZ 54 (∀p0 r (h:Cx p0=some r),Sc 54 [aL M.aET.en p0] [rW 92 4 M.aET.en r]):=⟨λp0 r h=>by
 have i1:=inv λm s=>∃v4:Int,∃r7:List M.aET,(s.t 0=vL M.aET.en p0/\s.t 3=vR 100007 1/\s.t 4=vI v4/\s.h 100007=(1,oW 92 4 M.aET.en r7))/\E0 zK p0 m v4 r7=some r
 have e1:=@E0.eq_2
 unfold Cx toS at h
 exact sgo 23 [.tmp 2] Tryz.func54⟩
instance:aZ 443 (∀p0 r (h:pN p0=some r),Sc 443 [aX (M.aQ.en p0)] [(true,M.aQ.rs r)]):=⟨λp0 r h=>by unfold pN at h;exact sgo 11 [.cell 2 325] Tryz.func443⟩
instance:aZ 323 (∀p0 r (h:zS p0=some r),Sc 323 [aL M.aQ.en p0] [rW 325 2 M.aQ.en r]):=⟨λp0 r h=>by
 have i1:=inv λm s=>∃v4:Int,∃r7:List M.aQ,(s.t 0=vL M.aQ.en p0/\s.t 3=vR 100007 1/\s.t 4=vI v4/\s.h 100007=(1,oW 325 2 M.aQ.en r7))/\E0 pN p0 m v4 r7=some r
 have e1:=@E0.eq_2
 unfold zS toS at h
 exact sgo 23 [.tmp 2] Tryz.func323⟩
instance:aZ 179 (∀p0 r (h:uA p0=some r),Sc 179 [aX (M.aEX.en p0)] [(true,M.aEX.rs r)]):=⟨λp0 r h=>by unfold uA at h;exact sgo 17 [.cell 2 205] Tryz.func179⟩
instance:aZ 55 (∀p0 r (h:AP p0=some r),Sc 55 [aL M.aEX.en p0] [rW 205 5 M.aEX.en r]):=⟨λp0 r h=>by
 have i1:=inv λm s=>∃v4:Int,∃r7:List M.aEX,(s.t 0=vL M.aEX.en p0/\s.t 3=vR 100007 1/\s.t 4=vI v4/\s.h 100007=(1,oW 205 5 M.aEX.en r7))/\E0 uA p0 m v4 r7=some r
 have e1:=@E0.eq_2
 unfold AP toS at h
 exact sgo 23 [.tmp 2] Tryz.func55⟩
theorem c9(p0 r)(h:nP p0=some r):Sc 9 [aX (M.World.en p0)] [(true,M.World.rs r)]:=by unfold nP at h;exact sgo 41 [.cell 2 58] Tryz.func9
