/-
  Helper text. No conditions.
-/
import Derived.Test.YtipmihbgjolaaaaGreatLoadedFilesTi
import Derived.Test.YtipmihbgjolaaaaGreatLoadedFilesWspec0
import Derived.Test.YtipmihbgjolaaaaGreatLoadedFilesWspec1
import Derived.Test.YtipmihbgjolaaaaGreatLoadedFilesWspec2
set_option linter.unusedVariables false
set_option linter.unusedSimpArgs false
namespace Go.Proofs.YtipmihbgjolaaaaGreat.gen
open Go Go.Sh
set_option maxRecDepth 20000
set_option maxHeartbeats 4000000
theorem aBb (p0 r) (h:bS p0=some r):Sc 232 [aX (M.aC.en p0)] [(true,M.aC.rs r)]:=by
 have i1:=DV [.b 3 1 7050000 284 4] λm s=>∃v4:Int,∃aa:List M.aFP,∃ae:Nat,(s.t 1=vP 1 1 0/\s.t 2=vP 2 1 0/\s.t 3=vP 3 1 0/\s.t 4=vI v4/\s.h 1=(1,oX 40 (M.aC.en p0))/\s.h 2=(1,oB 40 [cS (⟨#[]⟩:ByteArray),.nil,cI 0])/\s.h 3=(1,oB 40 [cS p0.Name,.row 7050000 ae,cI p0.aFZ])/\s.h 7050000=(ae,oW 284 4 M.aFP.en aa))/\pY p0 m v4 aa=some r
 have e1:=@pY.eq_2
 unfold bS at h
 exact sgo 29 [.cell 2 40] Tryz.func232
instance:bH 232 (type_of% @aBb):=⟨@aBb⟩
theorem WB (p0 r) (h:eK p0=some r):Sc 231 [aX (M.aE5.en p0)] [(true,M.aE5.rs r)]:=by
 have i1:=DV [.b 3 2 7050000 40 3] λm s=>∃v4:Int,∃aa:List M.aC,∃ae:Nat,(s.t 1=vP 1 1 0/\s.t 2=vP 2 1 0/\s.t 3=vP 3 1 0/\s.t 4=vI v4/\s.h 1=(1,oX 35 (M.aE5.en p0))/\s.h 2=(1,K5)/\s.h 3=(1,oB 35 [cS p0.Name,cI p0.aE3,.row 7050000 ae,.row 100009 2])/\s.h 100009=(2,oW 282 2 M.aN.en p0.aFQ)/\s.h 7050000=(ae,oW 40 3 M.aC.en aa))/\rA p0 m v4 aa=some r
 have e1:=@rA.eq_2
 unfold eK at h
 exact sgo 33 [.cell 2 35] Tryz.func231
instance:bH 231 (type_of% @WB):=⟨@WB⟩
theorem aCM (p0 r) (h:vY p0=some r):Sc 135 [aX (M.aG.en p0)] [(true,M.aG.rs r)]:=by unfold vY at h;exact sgo 12 [.cell 2 47] Tryz.func135
instance:bH 135 (type_of% @aCM):=⟨@aCM⟩
theorem aBq (p0 r) (h:lW p0=some r):Sc 177 [aX (M.bC.en p0)] [(true,M.bC.rs r)]:=by unfold lW at h;exact sgo 15 [.cell 2 96] Tryz.func177
instance:bH 177 (type_of% @aBq):=⟨@aBq⟩
theorem aBG (p0 r) (h:gH p0=some r):Sc 181 [aX (M.aFG.en p0)] [(true,M.aFG.rs r)]:=by unfold gH at h;exact sgo 15 [.cell 2 137] Tryz.func181
instance:bH 181 (type_of% @aBG):=⟨@aBG⟩
theorem c83 (p0 r) (h:xL p0=some r):Sc 83 [aX (M.aFD.en p0)] [rB r]:=by
 have i1:=inv λm s=>∃v3:Int,(s.t 1=vP 1 1 0/\s.t 3=vI v3/\s.h 1=(1,oX 85 (M.aFD.en p0)))/\kH p0 m v3=some r
 have e1:=@kH.eq_2
 unfold xL at h
 exact sgo 50 [.tmp 2] Tryz.func83
instance:bH 83 (type_of% @c83):=⟨@c83⟩
theorem c86 (p0 r) (h:rX p0=some r):Sc 86 [aX (M.bC.en p0)] [rB r]:=by
 have i1:=inv λm s=>∃v3:Int,(s.t 1=vP 1 1 0/\s.t 3=vI v3/\s.h 1=(1,oX 96 (M.bC.en p0)))/\pT p0 m v3=some r
 have e1:=@pT.eq_2
 unfold rX at h
 exact sgo 54 [.tmp 2] Tryz.func86
instance:bH 86 (type_of% @c86):=⟨@c86⟩
theorem aCO (p0 r) (h:sE p0=some r):Sc 312 [aL M.aFL.en p0] [rB r]:=by
 have i1:=inv λm s=>∃v3:Int,(s.t 0=vL M.aFL.en p0/\s.t 3=vI v3)/\eM p0 m v3=some r
 have e1:=@eM.eq_2
 have i2:=λ(v3:Int) (x5:M.aFL) (ae:Int->Option Bool)=>inv λm s=>∃aa:Int,(s.t 0=vL M.aFL.en p0/\s.t 3=vI v3/\s.t 4=vI aa)/\gJ p0 v3 x5 ae m aa=some r
 have e2:=@gJ.eq_2
 unfold sE at h
 exact sgo 68 [.tmp 2] Tryz.func312
instance:bH 312 (type_of% @aCO):=⟨@aCO⟩
theorem Wn (p0 r) (h:cE p0=some r):Sc 235 [aX (M.aE.en p0)] [rB r]:=by
 have i1:=inv λm s=>∃v3:Int,(s.t 1=vP 1 1 0/\s.t 3=vI v3/\s.h 1=(1,oX 31 (M.aE.en p0)))/\eJ p0 m v3=some r
 have e1:=@eJ.eq_2
 unfold cE at h
 exact sgo 53 [.tmp 2] Tryz.func235
instance:bH 235 (type_of% @Wn):=⟨@Wn⟩
theorem aEo (p0 p1 r) (h:sY p0 p1=some r):Sc 332 [aX (M.aR.en p0),aI p1] [(true,M.aR.rs r)]:=by
 have i1:=DV [.b 5 0 7050000 154 4] λm s=>∃v6:Int,∃aa:List M.mZ,∃ae:Nat,(s.t 1=vI p1/\s.t 2=vP 2 1 0/\s.t 4=vP 4 1 0/\s.t 5=vP 5 1 0/\s.t 6=vI v6/\s.h 2=(1,oX 68 (M.aR.en p0))/\s.h 4=(1,oB 68 [.nil])/\s.h 5=(1,oB 68 [.row 7050000 ae])/\s.h 7050000=(ae,oW 154 4 M.mZ.en aa))/\eF p0 p1 m v6 aa=some r
 have e1:=@eF.eq_2
 unfold sY at h
 exact sgo 35 [.cell 4 68] Tryz.func332
theorem c82 (p0 p1 r) (h:dB p0 p1=some r):Sc 82 [(false,[.ptr [.sl (List.map enB p0.b),.int .i64 p0.i,.int .i64 p0.h]]),aL enS p1] [(false,[.edit (.lend 182 [.int .i64 r.1,.int .i64 r.2.1])]),rS r.2.2]:=by
 unfold dB at h
 simp only [EN]
 refine sgB 12 [.tmp 4] Tryz.func82 λbase wd B0 u0 hw0 => ?_
 refine eY (J:=λs=>s.t 0=vP 7059000 1 0/\s.t 1=vL enS p1/\s.h 7059000=(1,oB 182 [.old B0 (.sl (List.map enB p0.b)) (some u0),cI p0.i,cI p0.h])/\True) ?_ ?_
 ·and_intros<;>(try simp only [LN,List.map_cons,List.map_nil])<;>rfl
 rintro s1 f2
 exact sgX
instance:bH 82 (type_of% @c82):=⟨@c82⟩
theorem aAa (p0 r) (h:yM p0=some r):Sc 265 [(false,[.ptr [.sl (List.map enB p0.b),.int .i64 p0.i,.int .i64 p0.h]])] [(false,[.edit (.lend 182 [.int .i64 r.1,.int .i64 r.2.1])]),rS r.2.2]:=by
 unfold yM at h
 simp only [EN]
 refine sgB 6 [.tmp 2] Tryz.func265 λbase wd B0 u0 hw0 => ?_
 refine eY (J:=λs=>s.t 0=vP 7059000 1 0/\s.h 7059000=(1,oB 182 [.old B0 (.sl (List.map enB p0.b)) (some u0),cI p0.i,cI p0.h])/\True) ?_ ?_
 ·and_intros<;>(try simp only [LN,List.map_cons,List.map_nil])<;>rfl
 rintro s1 f2
 exact sgX
instance:bH 265 (type_of% @aAa):=⟨@aAa⟩
theorem ZK (p0 r) (h:dA p0=some r):Sc 211 [(false,[.ptr [.sl (List.map enB p0.b),.int .i64 p0.i,.int .i64 p0.h]])] [(false,[.edit (.lend 182 [.int .i64 r.1,.int .i64 r.2.1])]),rS r.2.2]:=by
 unfold dA at h
 simp only [EN]
 refine sgB 6 [.tmp 2] Tryz.func211 λbase wd B0 u0 hw0 => ?_
 refine eY (J:=λs=>s.t 0=vP 7059000 1 0/\s.h 7059000=(1,oB 182 [.old B0 (.sl (List.map enB p0.b)) (some u0),cI p0.i,cI p0.h])/\True) ?_ ?_
 ·and_intros<;>(try simp only [LN,List.map_cons,List.map_nil])<;>rfl
 rintro s1 f2
 exact sgX
instance:bH 211 (type_of% @ZK):=⟨@ZK⟩
theorem aBc (p0 p1 r) (h:vJ p0 p1=some r):Sc 328 [aX (M.Instr.en p0),aI p1] [rB r]:=by
 unfold vJ at h
 simp only [EN]
 refine sgn 74 [.tmp 4] Tryz.func328 λbase wd => ?_
 refine sq (rn ?_)
 refine an ?_
 obtain ⟨x1,h2,h⟩:=bind_some h
 refine tN (λs=>s.t 1=vI p1/\s.t 2=vP 2 1 0/\s.t 5=vB x1/\s.h 2=(1,oX 216 (M.Instr.en p0))/\True) ?_ ?_
 ·replace h:=h2;clear h2;rcases nX (p0.aFU==5) with b8 | b8;(replace h:=cN b8 h;refine rn ?_;cases h;refine jB ⟨?_,?_,?_,?_,trivial⟩<;>(try simp +decide only [F,reduceIte,Nat.reduceAdd,qB,qC,EN, *,-h]));replace h:=cM b8 h;obtain ⟨x9,bt,h⟩:=bind_some h;refine rn1 (c87 _ _ _ _ bt) ?_;cases h;refine jB ⟨?_,?_,?_,?_,trivial⟩<;>(try simp +decide only [F,reduceIte,Nat.reduceAdd,qB,qC,EN, *,-h])
 clear h2
 rintro s3 f4
 refine sq (rn ?_)
 refine an ?_
 obtain ⟨bu,aa,h⟩:=bind_some h
 refine tN (λs=>s.t 2=vP 2 1 0/\s.t 5=vB x1/\s.t 6=vI bu/\s.h 2=(1,oX 216 (M.Instr.en p0))/\True) ?_ ?_
 ·replace h:=aa;clear aa;refine sq (rn ?_);refine an (bk (sq (rn ?_)));refine an ?_;rcases nX (p0.aFU==1) with ae | ae;(replace h:=cN ae h;refine ct (rn ?_);refine ab ?_;cases h;refine jB ⟨?_,?_,?_,?_,trivial⟩<;>(try simp +decide only [F,reduceIte,Nat.reduceAdd,qB,qC,EN, *,-h]));replace h:=cM ae h;refine cf (sq (rn ?_));refine an ?_;rcases nX (p0.aFU==2) with af | af;(replace h:=cN af h;refine ct (rn ?_);refine ab ?_;cases h;refine jB ⟨?_,?_,?_,?_,trivial⟩<;>(try simp +decide only [F,reduceIte,Nat.reduceAdd,qB,qC,EN, *,-h]));replace h:=cM af h;refine cf ?_;obtain ⟨bl,ah,h⟩:=bind_some h;refine tN (λs=>s.t 1=vI p1/\s.t 2=vP 2 1 0/\s.t 5=vB x1/\s.t 6=vI 0/\s.t 16=vI p0.aFU/\s.t 21=vB bl/\s.h 2=(1,oX 216 (M.Instr.en p0))/\True) ?_ ?_;(replace h:=ah;clear ah;refine sq (rn ?_);refine an ?_;rcases nX (p0.aFU==3) with ai | ai;(replace h:=cN ai h;refine ct (sk ?_);cases h;refine jB ⟨?_,?_,?_,?_,?_,?_,?_,trivial⟩<;>(try simp +decide only [F,reduceIte,Nat.reduceAdd,qB,qC,EN, *,-h]));replace h:=cM ai h;refine cf (rn ?_);cases h;refine jB ⟨?_,?_,?_,?_,?_,?_,?_,trivial⟩<;>(try simp +decide only [F,reduceIte,Nat.reduceAdd,qB,qC,EN, *,-h]));clear ah;rintro cc f23;rcases nX bl with aj | aj;(replace h:=cN aj h;refine ct (rn ?_);refine ab ?_;cases h;refine jB ⟨?_,?_,?_,?_,trivial⟩<;>(try simp +decide only [F,reduceIte,Nat.reduceAdd,qB,qC,EN, *,-h]));replace h:=cM aj h;refine cf ?_;obtain ⟨bm,ak,h⟩:=bind_some h;refine tN (λs=>s.t 2=vP 2 1 0/\s.t 5=vB x1/\s.t 6=vI 0/\s.t 25=vB bm/\s.h 2=(1,oX 216 (M.Instr.en p0))/\True) ?_ ?_;(replace h:=ak;clear ak;refine sq (rn ?_);refine an ?_;rcases nX (p0.aFU==6) with al | al;(replace h:=cN al h;refine ct (sk ?_);cases h;refine jB ⟨?_,?_,?_,?_,?_,trivial⟩<;>(try simp +decide only [F,reduceIte,Nat.reduceAdd,qB,qC,EN, *,-h]));replace h:=cM al h;refine cf (sq (rn ?_));refine an ?_;rcases nX (p0.aFU==7) with ao | ao;(replace h:=cN ao h;refine ct (sk ?_);cases h;refine jB ⟨?_,?_,?_,?_,?_,trivial⟩<;>(try simp +decide only [F,reduceIte,Nat.reduceAdd,qB,qC,EN, *,-h]));replace h:=cM ao h;refine cf (rn ?_);cases h;refine jB ⟨?_,?_,?_,?_,?_,trivial⟩<;>(try simp +decide only [F,reduceIte,Nat.reduceAdd,qB,qC,EN, *,-h]));clear ak;rintro cd f35;rcases Cf bm with aq | aq;(replace h:=cM aq h;refine cf (sk (ab ?_));cases h;refine jB ⟨?_,?_,?_,?_,trivial⟩<;>(try simp +decide only [F,reduceIte,Nat.reduceAdd,qB,qC,EN, *,-h]));replace h:=cN aq h;refine ct (rn ?_);refine ab ?_;cases h;refine jB ⟨?_,?_,?_,?_,trivial⟩<;>(try simp +decide only [F,reduceIte,Nat.reduceAdd,qB,qC,EN, *,-h])
 clear aa
 rintro cg f14
 refine sq ?_
 obtain ⟨bn,ar,h⟩:=bind_some h
 refine tN (λs=>s.t 2=vP 2 1 0/\s.t 5=vB x1/\s.t 45=vB bn/\s.h 2=(1,oX 216 (M.Instr.en p0))/\True) ?_ ?_
 ·replace h:=ar;clear ar;obtain ⟨bw,av,h⟩:=bind_some h;rcases nX (!bw) with aw | aw;(replace h:=cN aw h;refine rn1 (c87 _ _ _ _ av) ?_;cases h;refine jB ⟨?_,?_,?_,?_,trivial⟩<;>(try simp +decide only [F,reduceIte,Nat.reduceAdd,qB,qC,EN, *,-h]));replace h:=cM aw h;obtain ⟨bx,bo,h⟩:=bind_some h;rcases nX (!bx) with ax | ax;(replace h:=cN ax h;refine rn2 (c87 _ _ _ _ av) (c87 _ _ _ _ bo) ?_;cases h;refine jB ⟨?_,?_,?_,?_,trivial⟩<;>(try simp +decide only [F,reduceIte,Nat.reduceAdd,qB,qC,EN, *,-h]));replace h:=cM ax h;obtain ⟨cj,bz,h⟩:=bind_some h;refine rn3 (c87 _ _ _ _ av) (c87 _ _ _ _ bo) (c87 _ _ _ _ bz) ?_;cases h;refine jB ⟨?_,?_,?_,?_,trivial⟩<;>(try simp +decide only [F,reduceIte,Nat.reduceAdd,qB,qC,EN, *,-h])
 clear ar
 rintro ck f46
 rcases nX bn with ay | ay
 ·replace h:=cN ay h;refine ct (sq (rn ?_));refine an (rt ?_);cases h;simp [Ret,TB,EN, *]
 replace h:=cM ay h
 refine cf (sk (an (sq ?_)))
 obtain ⟨bq,az,h⟩:=bind_some h
 refine tN (λs=>s.t 2=vP 2 1 0/\s.t 5=vB x1/\s.t 58=vB bq/\s.h 2=(1,oX 216 (M.Instr.en p0))/\True) ?_ ?_
 ·replace h:=az;clear az;rcases nX (p0.aFU==4) with ba | ba;(replace h:=cN ba h;refine rn ?_;cases h;refine jB ⟨?_,?_,?_,?_,trivial⟩<;>(try simp +decide only [F,reduceIte,Nat.reduceAdd,qB,qC,EN, *,-h]));replace h:=cM ba h;rcases nX (p0.aFU==9) with bd | bd;(replace h:=cN bd h;refine rn ?_;cases h;refine jB ⟨?_,?_,?_,?_,trivial⟩<;>(try simp +decide only [F,reduceIte,Nat.reduceAdd,qB,qC,EN, *,-h]));replace h:=cM bd h;refine rn ?_;cases h;refine jB ⟨?_,?_,?_,?_,trivial⟩<;>(try simp +decide only [F,reduceIte,Nat.reduceAdd,qB,qC,EN, *,-h])
 clear az
 rintro cl f62
 rcases nX bq with bf | bf
 ·replace h:=cN bf h;refine ct (sq (rn ?_));refine an (rt ?_);cases h;simp [Ret,TB,EN, *]
 replace h:=cM bf h
 refine cf (sk (an ?_))
 obtain ⟨c9,bg,h⟩:=bind_some h
 refine tN (λs=>s.t 4=vB c9/\True) ?_ ?_
 ·replace h:=bg;clear bg;rcases Cf x1 with bh | bh;(replace h:=cM bh h;refine rn ?_;cases h;refine jB ⟨?_,trivial⟩<;>(try simp +decide only [F,reduceIte,Nat.reduceAdd,qB,qC,EN, *,-h]));replace h:=cN bh h;obtain ⟨ca,br,h⟩:=bind_some h;rcases nX ca with bj | bj;(replace h:=cN bj h;refine rn1 (Yz _ _ br) ?_;cases h;refine jB ⟨?_,trivial⟩<;>(try simp +decide only [F,reduceIte,Nat.reduceAdd,qB,qC,EN, *,-h]));replace h:=cM bj h;refine rn1 (Yz _ _ br) ?_;cases h;refine jB ⟨?_,trivial⟩<;>(try simp +decide only [F,reduceIte,Nat.reduceAdd,qB,qC,EN, *,-h])
 clear bg
 rintro cn ⟨f72,_⟩
 refine rt ?_
 cases h
 simp [Ret,TB,EN, *]
instance:bH 328 (type_of% @aBc):=⟨@aBc⟩
theorem aCX (p0 r) (h:zT p0=some r):Sc 253 [aL M.Instr.en p0] [rB r]:=by
 have i1:=inv λm s=>∃v3:Int,(s.t 0=vL M.Instr.en p0/\s.t 3=vI v3)/\mK p0 m v3=some r
 have e1:=@mK.eq_2
 unfold zT at h
 exact sgo 21 [.tmp 2] Tryz.func253
instance:bH 253 (type_of% @aCX):=⟨@aCX⟩
theorem aC5 (p0 p1 r) (h:rM p0 p1=some r):Sc 198 [aX (M.aFD.en p0),aI p1] [rB r]:=by unfold rM at h;exact sgo 18 [.tmp 4] Tryz.func198
instance:bH 198 (type_of% @aC5):=⟨@aC5⟩
theorem ZM (p0 p1 p2 r) (h:hU p0 p1 p2=some r):Sc 104 [aX (M.bC.en p0),aS p1,aX (M.aE9.en p2)] [(true,M.bC.rs r.1),rB r.2]:=by unfold hU at h;exact sgo 43 [.cell 6 96,.tmp 7] Tryz.func104
instance:bH 104 (type_of% @ZM):=⟨@ZM⟩
theorem X7 (p0 r) (h:lY p0=some r):Sc 205 [(false,[.ptr [.sl (List.map enB p0.b),.int .i64 p0.i,.int .i64 p0.h]])] [(false,[.edit (.lend 182 [.int .i64 r.1,.int .i64 r.2.1])]),rS r.2.2]:=by
 unfold lY at h
 simp only [EN]
 refine sgB 6 [.tmp 2] Tryz.func205 λbase wd B0 u0 hw0 => ?_
 refine eY (J:=λs=>s.t 0=vP 7059000 1 0/\s.h 7059000=(1,oB 182 [.old B0 (.sl (List.map enB p0.b)) (some u0),cI p0.i,cI p0.h])/\True) ?_ ?_
 ·and_intros<;>(try simp only [LN,List.map_cons,List.map_nil])<;>rfl
 rintro s1 f2
 exact sgX
instance:bH 205 (type_of% @X7):=⟨@X7⟩
theorem aBt (p0 r) (h:tQ p0=some r):Sc 400 [aL enB p0] [(true,M.Key.rs r.1),rB r.2]:=by
 have i1:=λ(x2:Int)=>inv λm s=>∃v6:Int,∃v7:Int,(s.t 0=vL enB p0/\s.t 2=vP 2 1 0/\s.t 4=vP 4 1 0/\s.t 6=vI v6/\s.t 7=vI v7/\s.h 2=(1,oB 209 [cI 0,cI 0,cS (⟨#[]⟩:ByteArray)])/\s.h 4=(1,oB 209 [cI (IntKind.i64.wrap x2),cI 0,cS (⟨#[]⟩:ByteArray)]))/\kN p0 x2 m v6 v7=some r
 have e1:=@kN.eq_2
 unfold tQ at h
 exact sgo 49 [.cell 2 209,.tmp 3] Tryz.func400
instance:bH 400 (type_of% @aBt):=⟨@aBt⟩
theorem ZJ (p0 r) (h:vU p0=some r):Sc 188 [(false,[.ptr [.sl (List.map enB p0.b),.int .i64 p0.i,.int .i64 p0.h]])] [(false,[.edit (.lend 182 [.int .i64 r.1,.int .i64 r.2.1])]),rS r.2.2]:=by
 unfold vU at h
 simp only [EN]
 refine sgB 6 [.tmp 2] Tryz.func188 λbase wd B0 u0 hw0 => ?_
 refine eY (J:=λs=>s.t 0=vP 7059000 1 0/\s.h 7059000=(1,oB 182 [.old B0 (.sl (List.map enB p0.b)) (some u0),cI p0.i,cI p0.h])/\True) ?_ ?_
 ·and_intros<;>(try simp only [LN,List.map_cons,List.map_nil])<;>rfl
 rintro s1 f2
 exact sgX
instance:bH 188 (type_of% @ZJ):=⟨@ZJ⟩
theorem aEr (p0 p1 r) (h:D9 p0 p1=some r):Sc 390 [aX (M.aE5.en p0),aS p1] [(true,M.aE5.rs r)]:=by
 have i1:=DV [.b 5 2 7050000 40 3] λm s=>∃v6:Int,∃aa:List M.aC,∃ae:Nat,(s.t 1=vS p1/\s.t 2=vP 2 1 0/\s.t 4=vP 4 1 0/\s.t 5=vP 5 1 0/\s.t 6=vI v6/\s.h 2=(1,oX 35 (M.aE5.en p0))/\s.h 4=(1,K5)/\s.h 5=(1,oB 35 [cS p0.Name,cI p0.aE3,.row 7050000 ae,.nil])/\s.h 7050000=(ae,oW 40 3 M.aC.en aa))/\yD p0 p1 m v6 aa=some r
 have e1:=@yD.eq_2
 have i2:=λ(aa:List M.aC) (ae:Nat)=>DV [.b 5 3 7050100 282 2] λm s=>∃v7:Int,∃af:List M.aN,∃ah:Nat,(s.t 1=vS p1/\s.t 2=vP 2 1 0/\s.t 4=vP 4 1 0/\s.t 5=vP 5 1 0/\s.t 7=vI v7/\s.h 2=(1,oX 35 (M.aE5.en p0))/\s.h 4=(1,K5)/\s.h 5=(1,oB 35 [cS p0.Name,cI p0.aE3,.row 7050000 ae,.row 7050100 ah])/\s.h 7050000=(ae,oW 40 3 M.aC.en aa)/\s.h 7050100=(ah,oW 282 2 M.aN.en af))/\xU p0 p1 aa m v7 af=some r
 have e2:=@xU.eq_2
 unfold D9 at h
 exact sgo 65 [.cell 4 35] Tryz.func390
end Go.Proofs.YtipmihbgjolaaaaGreat.gen
