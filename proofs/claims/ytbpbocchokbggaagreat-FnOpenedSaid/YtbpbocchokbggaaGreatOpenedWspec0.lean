/-
  Helper text. No conditions.
-/
import Derived.Test.YtbpbocchokbggaaGreatOpenedTi
set_option linter.all false
namespace Go.Proofs.YtbpbocchokbggaaGreat.gen
open Go Go.Sh
open Go.IntKind (i64)
set_option maxRecDepth 20000
set_option maxHeartbeats 4000000
instance:bK 89 (∀p0 r (h:C7 p0=some r),Sc 89 [aL enB p0] [(false,[.edit (.newb 304 [.sl (List.map enB r.b),.int .i64 r.i,.int .i64 r.h])])]):=⟨λp0 r h=>by
 unfold C7 at h
 simp only[EN]
 refine sgN 32 [.tmp 2] Tryz.func89 λbase wd => ?_
 refine sq (rn ?_)
 refine an (sq (rn ?_))
 refine an (sq (sq (rn ?_)))
 refine an (bk ?_)
 refine Hv (λm s=>∃v3:Int,∃v4:Int,s.t 0=vL enB p0/\s.t 3=vI v3/\s.t 4=vI v4/\oK p0 m v3 v4=some r) fuel ?_ ?_
 ·refine⟨i64.wrap (193017+(List.length p0:Int)),0,?_,?_,?_,h⟩;all_goals simp +decide only[F,reduceIte,Nat.reduceAdd,qB,qC,EN, *,-h]
 rintro mL1 s1 ⟨v3,v4,f2,f3,f4,h⟩
 rcases mL1 with _ | mL1
 ·exact absurd h (by simp[oK])
 simp only[oK]at h
 refine sq (sq ?_)
 rcases Cw (decide (v4<(List.length p0:Int)))with b5 | b5
 ·replace h:=bF b5 h;refine rn ?_;refine an (cf (xt (EP (EF (Js (an (sq (rn ?_))))))));refine an (rt ?_);cases h;exact⟨31,(s1.h 31).1+1,by simp +decide only[Bh,F,E,L,reduceIte,EN,TB, *],by simp +decide only[F,reduceIte,EN, *]<;>rfl⟩
 replace h:=bG b5 h
 refine rn ?_
 refine an ?_
 rcases Cw (decide (v4<4000))with b6 | b6
 ·replace h:=bF b6 h;refine cf (xt (EP (EF (Js (an (sq (rn ?_)))))));refine an (rt ?_);cases h;exact⟨31,(s1.h 31).1+1,by simp +decide only[Bh,F,E,L,reduceIte,EN,TB, *],by simp +decide only[F,reduceIte,EN, *]<;>rfl⟩
 replace h:=bG b6 h
 refine ct (sk (an (sq (bk ?_))))
 obtain⟨x7,h8,h⟩:=bind_some h
 obtain⟨q9,aa,ae⟩:=rR h8
 refine rn ?_
 refine ab (an (rn ?_))
 refine dV ⟨mL1,jF,i64.wrap (BitVec.ofInt (IntKind.i64.bits) (i64.wrap ((i64.wrap ((i64.wrap (v3*137))+(i64.wrap x7)))+11))&&&BitVec.ofInt (IntKind.i64.bits) 1073741823).toNat,i64.wrap (v4+1),?_,?_,?_,h⟩
 all_goals simp +decide only[F,reduceIte,Nat.reduceAdd,qB,qC,EN, *,-h]⟩
instance Tr:bK 126 (∀p0 p1 p2 r (h:aZ p0 p1 p2=some r),Sc 126 [aI p0,aI p1,aI p2] [rB r]):=⟨λp0 p1 p2 r h=>by unfold aZ at h;exact sgo 15 [.tmp 6] Tryz.func126⟩
instance:bK 123 (∀r (h:vC=some r),Sc 123 [] [rW 9 1 enS r]):=⟨λr h=>by unfold vC at h;exact sgo 2 [.tmp 0] Tryz.func123⟩
instance:bK 373 (∀p0 r (h:AK p0=some r),Sc 373 [aI p0] [(true,M.World.rs r)]):=⟨λp0 r h=>by
 have i1:=λ(x4:(List ByteArray))=>ES [.b 3 8 7050000 92 4,.b 3 9 7050001 205 5] λm s=>∃v5:Int,∃aa:List M.aHL,∃ae:List M.aHO,∃af:Nat,∃ah:Nat,(s.t 2=vP 2 1 0/\s.t 3=vP 3 1 0/\s.t 4=vR 100012 1/\s.t 5=vI v5/\s.h 2=(1,My)/\s.h 3=(1,oB 58 [cI 0,cB true,cI p0,.nil,.nil,cI 1,.nil,.nil,.row 7050000 af,.row 7050001 ah])/\s.h 100012=(1,oW 9 1 enS x4)/\s.h 7050000=(af,oW 92 4 M.aHL.en aa)/\s.h 7050001=(ah,oW 205 5 M.aHO.en ae))/\Az p0 x4 m v5 aa ae=some r
 have e1:=@Az.eq_2
 unfold AK at h
 exact sgo 43 [.cell 2 58] Tryz.func373⟩
instance:bK 168 (∀p0 r (h:cG p0=some r),Sc 168 [aX (M.aD.en p0)] [(true,M.aD.rs r)]):=⟨λp0 r h=>by unfold cG at h;exact sgo 8 [.cell 2 129] Tryz.func168⟩
instance:bK 429 (∀p0 r (h:zI p0=some r),Sc 429 [aX (M.aHV.en p0)] [(true,M.aHV.rs r)]):=⟨λp0 r h=>by unfold zI at h;exact sgo 9 [.cell 2 260] Tryz.func429⟩
instance:bK 489 (∀p0 r (h:uJ p0=some r),Sc 489 [aX (M.aJ.en p0)] [(true,M.aJ.rs r)]):=⟨λp0 r h=>by unfold uJ at h;exact sgo 11 [.cell 2 120] Tryz.func489⟩
instance:bK 396 (∀p0 r (h:xO p0=some r),Sc 396 [aX (M.aHY.en p0)] [(true,M.aHY.rs r)]):=⟨λp0 r h=>by unfold xO at h;exact sgo 10 [.cell 2 122] Tryz.func396⟩
instance:bK 163 (∀p0 r (h:BA p0=some r),Sc 163 [aX (M.aHL.en p0)] [(true,M.aHL.rs r)]):=⟨λp0 r h=>by unfold BA at h;exact sgo 11 [.cell 2 92] Tryz.func163⟩
instance aAG:bK 267 (∀p0 r (h:bZ p0=some r),Sc 267 [aS p0] [rB r]):=⟨λp0 r h=>by
 have i1:=inv λm s=>∃v3:Int,(s.t 0=vS p0/\s.t 3=vI v3)/\pD p0 m v3=some r
 have e1:=@pD.eq_2
 unfold bZ at h
 exact sgo 23 [.tmp 2] Tryz.func267⟩
instance:bK 496 (∀p0 r (h:A5 p0=some r),Sc 496 [aS p0] [rB r]):=⟨λp0 r h=>by
 have i1:=inv λm s=>∃v3:Int,(s.t 0=vS p0/\s.t 3=vI v3)/\iV p0 m v3=some r
 have e1:=@iV.eq_2
 unfold A5 at h
 exact sgo 35 [.tmp 2] Tryz.func496⟩
instance:bK 407 (∀p0 r (h:fV p0=some r),Sc 407 [aX (M.Key.en p0)] [rB r]):=⟨λp0 r h=>by unfold fV at h;exact sgo 36 [.tmp 2] Tryz.func407⟩
instance:bK 562 (∀p0 r (h:yU p0=some r),Sc 562 [aX (M.aHH.en p0)] [rB r]):=⟨λp0 r h=>by unfold yU at h;exact sgo 22 [.tmp 2] Tryz.func562⟩
instance aAx:bK 166 (∀p0 p1 r (h:tD p0 p1=some r),Sc 166 [aX (M.aHB.en p0),aS p1] [rI r]):=⟨λp0 p1 r h=>by
 have i1:=inv λm s=>∃v5:Int,(s.t 1=vS p1/\s.t 2=vP 2 1 0/\s.t 5=vI v5/\s.h 2=(1,oX 112 (M.aHB.en p0)))/\mK p0 p1 m v5=some r
 have e1:=@mK.eq_2
 unfold tD at h
 exact sgo 22 [.tmp 4] Tryz.func166⟩
instance:bK 563 (∀p0 p1 r (h:yM p0 p1=some r),Sc 563 [aX (M.aHH.en p0),aB p1] [rI r]):=⟨λp0 p1 r h=>by unfold yM at h;exact sgo 10 [.tmp 4] Tryz.func563⟩
instance:bK 486 (∀p0 r (h:yC p0=some r),Sc 486 [aX (M.aF.en p0)] [rI r]):=⟨λp0 r h=>by
 have i1:=inv λm s=>∃v3:Int,∃v4:Int,(s.t 1=vP 1 1 0/\s.t 3=vI v3/\s.t 4=vI v4/\s.h 1=(1,oX 108 (M.aF.en p0)))/\eO p0 m v3 v4=some r
 have e1:=@eO.eq_2
 have i2:=λ(v4:Int) (k8:Int->Int->Option Int)=>inv λm s=>∃aa:Int,∃ae:Int,(s.t 1=vP 1 1 0/\s.t 3=vI aa/\s.t 4=vI v4/\s.t 5=vI ae/\s.h 1=(1,oX 108 (M.aF.en p0)))/\kQ p0 v4 k8 m aa ae=some r
 have e2:=@kQ.eq_2
 unfold yC at h
 exact sgo 43 [.tmp 2] Tryz.func486⟩
instance:bK 312 (∀p0 p1 r (h:bS p0 p1=some r),Sc 312 [aL enB p0,aI p1] [rW 5 1 enB r]):=⟨λp0 p1 r h=>by
 have i1:=inv λm s=>∃v1:Int,∃r6:List Int,∃u6:Nat,(s.t 1=vI v1/\s.t 5=vR 100006 u6/\s.h 100006=(u6,oW 5 1 enB r6))/\cP m v1 r6=some r
 have e1:=@cP.eq_2
 unfold bS at h
 exact sgo 29 [.tmp 4] Tryz.func312⟩
instance:bK 255 (∀p0 p1 p2 r (h:Ao p0 p1 p2=some r),Sc 255 [aX (M.aHD.en p0),aS p1,aS p2] [rB r]):=⟨λp0 p1 p2 r h=>by unfold Ao at h;exact sgo 23 [.tmp 6] Tryz.func255⟩
instance:bK 270 (∀p0 r (h:xW p0=some r),Sc 270 [aS p0] [rB r]):=⟨λp0 r h=>by
 have i1:=inv λm s=>∃v3:Int,(s.t 0=vS p0/\s.t 3=vI v3)/\dM p0 m v3=some r
 have e1:=@dM.eq_2
 unfold xW at h
 exact sgo 29 [.tmp 2] Tryz.func270⟩
instance:bK 31 (∀p0 r (h:rL p0=some r),Sc 31 [aS p0] [rI r]):=⟨λp0 r h=>by
 have i1:=λ(x1:(List ByteArray))=>inv λm s=>∃v4:Int,(s.t 0=vS p0/\s.t 3=vR 100005 1/\s.t 4=vI v4/\s.h 100005=(1,oW 9 1 enS x1))/\kR p0 x1 m v4=some r
 have e1:=@kR.eq_2
 unfold rL at h
 exact sgo 19 [.tmp 2] Tryz.func31⟩
instance:bK 104 (∀p0 r (h:zK p0=some r),Sc 104 [aX (M.World.en p0)] [rI r]):=⟨λp0 r h=>by unfold zK at h;exact sgo 9 [.tmp 2] Tryz.func104⟩
instance:bK 288 (∀p0 p1 r (h:DJ p0 p1=some r),Sc 288 [aI p0,aI p1] [rI r]):=⟨λp0 p1 r h=>by unfold DJ at h;exact sgo 10 [.tmp 4] Tryz.func288⟩
instance:bK 437 (∀p0 r (h:sZ p0=some r),Sc 437 [aL enB p0] [rW 3 1 enI r]):=⟨λp0 r h=>by
 have i1:=inv λm s=>∃v4:Int,∃r7:List Int,∃u7:Nat,(s.t 0=vL enB p0/\s.t 3=vR 100007 u7/\s.t 4=vI v4/\s.h 100007=(u7,oW 3 1 enI r7))/\iI p0 m v4 r7=some r
 have e1:=@iI.eq_2
 unfold sZ at h
 exact sgo 23 [.tmp 2] Tryz.func437⟩
instance:bK 518 (∀p0 p1 r (h:Es p0 p1=some r),Sc 518 [aI p0,aI p1] [rI r]):=⟨λp0 p1 r h=>by unfold Es at h;exact sgo 15 [.tmp 4] Tryz.func518⟩
instance:bK 167 (∀p0 p1 r (h:oA p0 p1=some r),Sc 167 [aX (M.aC.en p0),aX (M.Key.en p1)] [rI r]):=⟨λp0 p1 r h=>by
 have i1:=inv λm s=>∃v5:Int,(s.t 2=vP 2 1 0/\s.t 3=vP 3 1 0/\s.t 5=vI v5/\s.h 2=(1,oX 117 (M.aC.en p0))/\s.h 3=(1,oX 136 (M.Key.en p1)))/\oP p0 p1 m v5=some r
 have e1:=@oP.eq_2
 unfold oA at h
 exact sgo 22 [.tmp 4] Tryz.func167⟩
instance:bK 554 (∀p0 p1 r (h:xP p0 p1=some r),Sc 554 [aX (M.aHO.en p0),aI p1] [rI r]):=⟨λp0 p1 r h=>by
 have i1:=inv λm s=>∃v5:Int,(s.t 1=vI p1/\s.t 2=vP 2 1 0/\s.t 5=vI v5/\s.h 2=(1,oX 205 (M.aHO.en p0)))/\uO p0 p1 m v5=some r
 have e1:=@uO.eq_2
 unfold xP at h
 exact sgo 27 [.tmp 4] Tryz.func554⟩
instance:bK 607 (∀p0 p1 p2 r (h:Bu p0 p1 p2=some r),Sc 607 [aL M.aO.en p0,aI p1,aI p2] [rW 325 2 M.aO.en r]):=⟨λp0 p1 p2 r h=>by
 have i1:=inv λm s=>∃v8:Int,(s.t 0=vL M.aO.en p0/\s.t 1=vI p1/\s.t 2=vI p2/\s.t 7=vR 100009 2/\s.t 8=vI v8/\s.h 100009=(2,oW 325 2 M.aO.en p0))/\uQ p0 p1 p2 m v8=some r
 have e1:=@uQ.eq_2
 unfold Bu at h
 exact sgo 60 [.tmp 6] Tryz.func607⟩
instance:bK 646 (∀p0 r (h:iW p0=some r),Sc 646 [aI p0] [rI r]):=⟨λp0 r h=>by
 have i1:=inv λm s=>∃v3:Int,∃v4:Int,(s.t 0=vI p0/\s.t 3=vI v3/\s.t 4=vI v4)/\rC p0 m v3 v4=some r
 have e1:=@rC.eq_2
 unfold iW at h
 exact sgo 17 [.tmp 2] Tryz.func646⟩
