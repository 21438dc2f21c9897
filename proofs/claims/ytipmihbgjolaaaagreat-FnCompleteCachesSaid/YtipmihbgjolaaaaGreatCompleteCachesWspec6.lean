/-
  Helper text. No conditions.
-/
import Derived.Test.YtipmihbgjolaaaaGreatCompleteCachesTi
import Derived.Test.YtipmihbgjolaaaaGreatCompleteCachesWspec0
import Derived.Test.YtipmihbgjolaaaaGreatCompleteCachesWspec1
import Derived.Test.YtipmihbgjolaaaaGreatCompleteCachesWspec2
import Derived.Test.YtipmihbgjolaaaaGreatCompleteCachesWspec3
set_option linter.unusedVariables false
set_option linter.unusedSimpArgs false
namespace Go.Proofs.YtipmihbgjolaaaaGreat.gen
open Go Go.Sh
set_option maxRecDepth 20000
set_option maxHeartbeats 4000000
theorem Zs (p0 r) (h:kP p0=some r):Sc 205 [(false,[.ptr [.sl (List.map enB p0.b),.int .i64 p0.i,.int .i64 p0.h]])] [(false,[.edit (.lend 182 [.int .i64 r.1,.int .i64 r.2.1])]),rS r.2.2]:=by
 unfold kP at h
 simp only [EN]
 refine sgB 6 [.tmp 2] Tryz.func205 λbase wd B0 u0 hw0 => ?_
 refine eA (J:=λs=>s.t 0=vP 7059000 1 0/\s.h 7059000=(1,oB 182 [.old B0 (.sl (List.map enB p0.b)) (some u0),cI p0.i,cI p0.h])/\True) ?_ ?_
 ·and_intros<;>(try simp only [LN,List.map_cons,List.map_nil])<;>rfl
 rintro s1 f2
 exact sgX
instance:bF 205 (type_of% @Zs):=⟨@Zs⟩
theorem aBk (p0 p1 r) (h:AR p0 p1=some r):Sc 269 [(false,[.ptr [.sl (List.map enB p0.b),.int .i64 p0.i,.int .i64 p0.h]]),aS p1] [(false,[.edit (.lend 182 [.int .i64 r.1,.int .i64 r.2.1])]),(true,M.aGl.rs r.2.2)]:=by
 unfold AR at h
 simp only [EN]
 refine sgB 24 [.cell 4 85] Tryz.func269 λbase wd B0 u0 hw0 => ?_
 refine eA (J:=λs=>s.t 0=vP 7059000 1 0/\s.t 1=vS p1/\s.h 7059000=(1,oB 182 [.old B0 (.sl (List.map enB p0.b)) (some u0),cI p0.i,cI p0.h])/\True) ?_ ?_
 ·and_intros<;>(try simp only [LN,List.map_cons,List.map_nil])<;>rfl
 rintro s1 f2
 refine sq (rn ?_)
 refine an (sq ?_)
 obtain ⟨x5,h6,h⟩:=bind_some h
 obtain ⟨x7,h8,h⟩:=bind_some h
 refine rn2 (c65 _ _ _ h6) (c75 _ _ _ h8) ?_
 refine an (sq (sq ?_))
 refine cu (λs=>s.t 0=vP 7059000 1 0/\s.t 4=vP 4 ((s1.h 4).1+1) 0/\s.t 5=vP 5 ((s1.h 5).1+1) 0/\s.h 4=(((s1.h 4).1+1),aFx)/\s.h 5=(((s1.h 5).1+1),oB 85 [cS p1,cI (IntKind.i64.wrap (1+x5.2.2)),.row 100010 ((s1.h 100010).1+1),cB x7.2.2])/\s.h 100010=(((s1.h 100010).1+1),oW 9 1 enS ([(⟨#[99,111,100,101]⟩:ByteArray),(⟨#[100,97,116,97]⟩:ByteArray),(⟨#[105,110,100,101,120]⟩:ByteArray),(⟨#[115,116,121,108,101]⟩:ByteArray)]))/\s.h 7059000=(1,oB 182 [.old B0 (.sl (List.map enB p0.b)) (some u0),cI x7.1,cI x7.2.1])/\True) ?_
 rintro s9 f10
 obtain ⟨ae,ai,h⟩:=bind_some h
 refine rn1 (c75 _ _ _ ai) ?_
 refine an ?_
 refine cu (λs=>s.h 5=s9.h 5/\s.h 100010=s9.h 100010/\s.t 0=vP 7059000 1 0/\s.t 4=vP 4 ((s1.h 4).1+1) 0/\s.t 5=vP 5 ((s1.h 5).1+1) 0/\s.t 15=vB ae.2.2/\s.h 4=(((s1.h 4).1+1),aFx)/\s.h 7059000=(1,oB 182 [.old B0 (.sl (List.map enB p0.b)) (some u0),cI ae.1,cI ae.2.1])/\True) ?_
 rintro ak ⟨f25,f26,f20⟩
 replace f25:=f25.trans f10.2.2.2.2.1
 replace f26:=f26.trans f10.2.2.2.2.2.1
 rcases CH ae.2.2 with aa | aa
 ·replace h:=cR aa h;refine cf (sk (an (sq (rn ?_))));refine an (rt ?_);cases h;simp [Iq,Ret,TB,EN, *]
 replace h:=cT aa h
 refine ct ?_
 obtain ⟨ah,aj,h⟩:=bind_some h
 obtain ⟨al,af,h⟩:=bind_some h
 apply Bv mixed
 ·simp +decide only [E,reduceIte,Nat.reduceAdd,Nat.reduceMul,qB,qC,<-List.map_take,<-List.map_drop,L,ti9,aAQ,aAv,enS,EN,f25,f26,f20,aa]
  refine ⟨_,c65 _ _ _ aj,?_⟩
  try simp +decide only [E,reduceIte,Nat.reduceAdd,Nat.reduceMul,qB,qC,<-List.map_take,<-List.map_drop,L,ti9,aAQ,aAv,enS,EN,f25,f26,f20,aa]
  refine ⟨by first | exact pD af | exact (pD af).2 | exact (pD af).2.2,?_⟩
  try simp +decide only [E,reduceIte,Nat.reduceAdd,Nat.reduceMul,qB,qC,<-List.map_take,<-List.map_drop,L,ti9,aAQ,aAv,enS,EN,f25,f26,f20,aa]
  exact ⟨.mk qf,Is.mk _⟩
 refine an (sq (rn ?_))
 refine an ?_
 refine HM (Gho.Zj (b:=4) (vb:=((s1.h 4).1+1)) (t:=85) (cells:=[.dat (.str p1),.dat (.int .i64 (IntKind.i64.wrap (1+x5.2.2))),.part 100010 ((s1.h 100010).1+1) 0 ((IntKind.i64.wrap (1+ah.2.2)).toNat),.dat (.bool x7.2.2)]) (c:=2) (j:=100010) (vj:=((s1.h 100010).1+1)) (K:=100010) (n:=(IntKind.i64.wrap (1+ah.2.2)).toNat) (e:=9) (sz:=1) (dp:=true) (xs:=(List.map enS ([(⟨#[99,111,100,101]⟩:ByteArray),(⟨#[100,97,116,97]⟩:ByteArray),(⟨#[105,110,100,101,120]⟩:ByteArray),(⟨#[115,116,121,108,101]⟩:ByteArray)]))) (List.map enS (List.take (IntKind.i64.wrap (1+ah.2.2)).toNat ([(⟨#[99,111,100,101]⟩:ByteArray),(⟨#[100,97,116,97]⟩:ByteArray),(⟨#[105,110,100,101,120]⟩:ByteArray),(⟨#[115,116,121,108,101]⟩:ByteArray)]))) (by first | (simp +decide only [F,reduceIte,Nat.reduceAdd,qB,qC,EN, *,-h];done) | (simp +decide only [F,reduceIte,Nat.reduceAdd,qB,qC,EN, *,-h];rfl) | rfl) rfl (by first | (simp +decide only [F,reduceIte,Nat.reduceAdd,qB,qC,EN, *,-h];done) | (simp +decide only [F,reduceIte,Nat.reduceAdd,qB,qC,EN, *,-h];rfl) | rfl) qe (by rw [List.length_map];exact (pD af).2) (by rw [List.map_take])) ?_
 refine rt ?_
 cases h
 simp [Iq,Ret,TB,EN, *]
instance:bF 269 (type_of% @aBk):=⟨@aBk⟩
theorem aEd (p0 r) (h:BR p0=some r):Sc 186 [(false,[.ptr [.sl (List.map enB p0.b),.int .i64 p0.i,.int .i64 p0.h]])] [(false,[.edit (.lend 182 [.int .i64 r.1,.int .i64 r.2.1])]),(true,M.aGl.rs r.2.2)]:=by
 unfold BR at h
 simp only [EN]
 refine sgB 30 [.cell 2 85] Tryz.func186 λbase wd B0 u0 hw0 => ?_
 refine eA (J:=λs=>s.t 0=vP 7059000 1 0/\s.h 7059000=(1,oB 182 [.old B0 (.sl (List.map enB p0.b)) (some u0),cI p0.i,cI p0.h])/\True) ?_ ?_
 ·and_intros<;>(try simp only [LN,List.map_cons,List.map_nil])<;>rfl
 rintro s1 f2
 exact sgX
instance:bF 186 (type_of% @aEd):=⟨@aEd⟩
theorem aBa (p0 r) (h:rE p0=some r):Sc 214 [(false,[.ptr [.sl (List.map enB p0.b),.int .i64 p0.i,.int .i64 p0.h]])] [(false,[.edit (.lend 182 [.int .i64 r.1,.int .i64 r.2.1])]),(true,M.aGm.rs r.2.2)]:=by
 unfold rE at h
 simp only [EN]
 refine sgB 40 [.cell 2 105] Tryz.func214 λbase wd B0 u0 hw0 => ?_
 refine eA (J:=λs=>s.t 0=vP 7059000 1 0/\s.h 7059000=(1,oB 182 [.old B0 (.sl (List.map enB p0.b)) (some u0),cI p0.i,cI p0.h])/\True) ?_ ?_
 ·and_intros<;>(try simp only [LN,List.map_cons,List.map_nil])<;>rfl
 rintro s1 f2
 exact sgX
instance:bF 214 (type_of% @aBa):=⟨@aBa⟩
theorem XW (p0 r) (h:eR p0=some r):Sc 231 [aX (M.aGh.en p0)] [(true,M.aGh.rs r)]:=by
 have i1:=D5 [.b 3 2 7050000 40 3] λm s=>∃v4:Int,∃aa:List M.aD,∃ae:Nat,(s.t 1=vP 1 1 0/\s.t 2=vP 2 1 0/\s.t 3=vP 3 1 0/\s.t 4=vI v4/\s.h 1=(1,oX 35 (M.aGh.en p0))/\s.h 2=(1,LF)/\s.h 3=(1,oB 35 [cS p0.Name,cI p0.aGg,.row 7050000 ae,.row 100009 2])/\s.h 100009=(2,oW 282 2 M.aO.en p0.aG3)/\s.h 7050000=(ae,oW 40 3 M.aD.en aa))/\rZ p0 m v4 aa=some r
 have e1:=@rZ.eq_2
 unfold eR at h
 exact sgo 33 [.cell 2 35] Tryz.func231
instance:bF 231 (type_of% @XW):=⟨@XW⟩
theorem aEQ (p0 r) (h:zG p0=some r):Sc 134 [aX (M.bW.en p0)] [(true,M.bW.rs r)]:=by unfold zG at h;exact sgo 13 [.cell 2 37] Tryz.func134
instance:bF 134 (type_of% @aEQ):=⟨@aEQ⟩
theorem aCh (p0 r) (h:gP p0=some r):Sc 181 [aX (M.aGr.en p0)] [(true,M.aGr.rs r)]:=by unfold gP at h;exact sgo 15 [.cell 2 137] Tryz.func181
instance:bF 181 (type_of% @aCh):=⟨@aCh⟩
theorem aDz (p0 p1 p2 r) (h:BW p0 p1 p2=some r):Sc 395 [aX (M.aG1.en p0),aX (M.aG1.en p1),aS p2] [rB r]:=by unfold BW at h;exact sgo 41 [.tmp 6] Tryz.func395
instance:bF 395 (type_of% @aDz):=⟨@aDz⟩
theorem aCd (p0 p1 r) (h:A5 p0 p1=some r):Sc 367 [aX (M.aD.en p0),aS p1] [rW 284 4 M.aG1.en r]:=by
 have i1:=D5 [.t 5 7050000 284 4] λm s=>∃v6:Int,∃aa:List M.aG1,∃ae:Nat,(s.t 1=vS p1/\s.t 2=vP 2 1 0/\s.t 5=vR 7050000 ae/\s.t 6=vI v6/\s.h 2=(1,oX 40 (M.aD.en p0))/\s.h 7050000=(ae,oW 284 4 M.aG1.en aa))/\lT p0 p1 m v6 aa=some r
 have e1:=@lT.eq_2
 have i2:=λ(v6:Int) (aa:List M.aG1) (ah:M.aG1) (ai:Int->Option (List M.aG1)) (ae:Nat)=>inv λm s=>∃af:Int,(s.t 1=vS p1/\s.t 2=vP 2 1 0/\s.t 5=vR 7050000 ae/\s.t 6=vI v6/\s.t 9=vI af/\s.h 2=(1,oX 40 (M.aD.en p0))/\s.h 7050000=(ae,oW 284 4 M.aG1.en aa))/\oA p1 aa ah ai m af=some r
 have e2:=@oA.eq_2
 unfold A5 at h
 exact sgo 72 [.tmp 4] Tryz.func367
instance:bF 367 (type_of% @aCd):=⟨@aCd⟩
theorem aA9 (p0 r) (h:dG p0=some r):Sc 211 [(false,[.ptr [.sl (List.map enB p0.b),.int .i64 p0.i,.int .i64 p0.h]])] [(false,[.edit (.lend 182 [.int .i64 r.1,.int .i64 r.2.1])]),rS r.2.2]:=by
 unfold dG at h
 simp only [EN]
 refine sgB 6 [.tmp 2] Tryz.func211 λbase wd B0 u0 hw0 => ?_
 refine eA (J:=λs=>s.t 0=vP 7059000 1 0/\s.h 7059000=(1,oB 182 [.old B0 (.sl (List.map enB p0.b)) (some u0),cI p0.i,cI p0.h])/\True) ?_ ?_
 ·and_intros<;>(try simp only [LN,List.map_cons,List.map_nil])<;>rfl
 rintro s1 f2
 exact sgX
instance:bF 211 (type_of% @aA9):=⟨@aA9⟩
theorem aDc (p0 p1 r) (h:Am p0 p1=some r):Sc 154 [(false,[.ptr [.sl (List.map enB p0.b),.int .i64 p0.i,.int .i64 p0.h]]),aI p1] [(false,[.edit (.lend 182 [.int .i64 r.1,.int .i64 r.2.1])]),(true,M.Instr.rs r.2.2)]:=by
 unfold Am at h
 simp only [EN]
 refine sgB 59 [.cell 4 216] Tryz.func154 λbase wd B0 u0 hw0 => ?_
 refine eA (J:=λs=>s.t 0=vP 7059000 1 0/\s.t 1=vI p1/\s.h 7059000=(1,oB 182 [.old B0 (.sl (List.map enB p0.b)) (some u0),cI p0.i,cI p0.h])/\True) ?_ ?_
 ·and_intros<;>(try simp only [LN,List.map_cons,List.map_nil])<;>rfl
 rintro s1 f2
 exact sgX
instance:bF 154 (type_of% @aDc):=⟨@aDc⟩
theorem aDt (p0 r) (h:A6 p0=some r):Sc 122 [aX (M.aGl.en p0)] [(true,M.aGl.rs r.1),rB r.2]:=by unfold A6 at h;exact sgo 22 [.cell 2 85,.tmp 3] Tryz.func122
instance:bF 122 (type_of% @aDt):=⟨@aDt⟩
theorem aEU (p0 p1 p2 r) (h:A4 p0 p1 p2=some r):Sc 384 [aX (M.World.en p0),aS p1,aS p2] [rW 96 11 M.bJ.en r]:=by
 have i1:=inv λm s=>∃v8:Int,∃r9:List M.bJ,∃u9:Nat,(s.t 1=vS p1/\s.t 2=vS p2/\s.t 3=vP 3 1 0/\s.t 7=vR 100009 u9/\s.t 8=vI v8/\s.h 3=(1,oX 75 (M.World.en p0))/\s.h 100009=(u9,oW 96 11 M.bJ.en r9))/\jA p0 p1 p2 m v8 r9=some r
 have e1:=@jA.eq_2
 unfold A4 at h
 exact sgo 45 [.tmp 6] Tryz.func384
instance:bF 384 (type_of% @aEU):=⟨@aEU⟩
theorem aD4 (p0 p1 r) (h:vN p0 p1=some r):Sc 399 [aX (M.aGf.en p0),aL enI p1] [rB r]:=by
 have i1:=inv λm s=>∃v5:Int,(s.t 1=vL enI p1/\s.t 2=vP 2 1 0/\s.t 5=vI v5/\s.h 2=(1,oX 28 (M.aGf.en p0)))/\iF p0 p1 m v5=some r
 have e1:=@iF.eq_2
 unfold vN at h
 exact sgo 26 [.tmp 4] Tryz.func399
instance:bF 399 (type_of% @aD4):=⟨@aD4⟩
theorem aBi (p0 p1 r) (h:Aj p0 p1=some r):Sc 382 [aX (M.aGf.en p0),aL enI p1] [(true,M.aGf.rs r.1),rI r.2.1,rB r.2.2]:=by unfold Aj at h;exact sgo 21 [.cell 4 28,.tmp 5,.tmp 6] Tryz.func382
instance:bF 382 (type_of% @aBi):=⟨@aBi⟩
theorem aBE (p0 p1 p2 r) (h:iP p0 p1 p2=some r):Sc 281 [aX (M.aE.en p0),aS p1,aI p2] [(true,M.aE.rs r.1),rB r.2]:=by
 have i1:=λ(x1:M.aE)=>inv λm s=>∃v9:Int,(s.t 1=vS p1/\s.t 2=vI p2/\s.t 3=vP 3 1 0/\s.t 6=vP 6 1 0/\s.t 8=vP 8 1 0/\s.t 9=vI v9/\s.h 3=(1,oX 254 (M.aE.en p0))/\s.h 6=(1,oB 254 [.nil])/\s.h 8=(1,oB 254 [.row 100011 1])/\s.h 100011=(1,oW 356 2 M.Field.en x1.aGn))/\mM p0 p1 p2 x1 m v9=some r
 have e1:=@mM.eq_2
 unfold iP at h
 exact sgo 78 [.cell 6 254,.tmp 7] Tryz.func281
instance:bF 281 (type_of% @aBE):=⟨@aBE⟩
theorem aAb (p0 r) (h:kF p0=some r):Sc 209 [(false,[.ptr [.sl (List.map enB p0.b),.int .i64 p0.i,.int .i64 p0.h]])] [(false,[.edit (.lend 182 [.int .i64 r.1,.int .i64 r.2.1])]),(true,M.aE.rs r.2.2)]:=by
 unfold kF at h
 simp only [EN]
 refine sgB 22 [.cell 2 254] Tryz.func209 λbase wd B0 u0 hw0 => ?_
 refine eA (J:=λs=>s.t 0=vP 7059000 1 0/\s.h 7059000=(1,oB 182 [.old B0 (.sl (List.map enB p0.b)) (some u0),cI p0.i,cI p0.h])/\True) ?_ ?_
 ·and_intros<;>(try simp only [LN,List.map_cons,List.map_nil])<;>rfl
 rintro s1 f2
 have i1:=D5 [.b 3 0 7050000 356 2] λm s=>∃v4:Int,∃aa:Int,∃ae:Int,∃af:List M.Field,∃ah:Nat,(s.t 0=vP 7059000 1 0/\s.t 2=vP 2 ((s1.h 2).1+1) 0/\s.t 3=vP 3 ((s1.h 3).1+1) 0/\s.t 4=vI v4/\s.h 2=(((s1.h 2).1+1),oB 254 [.nil])/\s.h 3=(((s1.h 3).1+1),oB 254 [.row 7050000 ah])/\s.h 7050000=(ah,oW 356 2 M.Field.en af)/\s.h 7059000=(1,oB 182 [.old B0 (.sl (List.map enB p0.b)) (some u0),cI aa,cI ae]))/\mY p0 m v4 aa ae af=some r
 have e1:=@mY.eq_2
 exact sgX
instance:bF 209 (type_of% @aAb):=⟨@aAb⟩
theorem aCF (p0 p1 r) (h:xB p0 p1=some r):Sc 290 [aI p0,aL enB p1] [rI r]:=by unfold xB at h;exact sgo 11 [.tmp 4] Tryz.func290
instance:bF 290 (type_of% @aCF):=⟨@aCF⟩
theorem aC9 (p0 r) (h:AT p0=some r):Sc 341 [aL enB p0] [rW 22 1 (enL enB) r.1,rI r.2]:=by
 have i1:=inv λm s=>∃v5:Int,∃aa:List (List Int),∃ae:Nat,(s.t 0=vL enB p0/\s.t 4=vR 100012 ae/\s.t 5=vI v5/\s.h 100012=(ae,oW 22 1 (enL enB) aa))/\tK p0 m v5 aa=some r
 have e1:=@tK.eq_2
 unfold AT at h
 exact sgo 50 [.tmp 2,.tmp 3] Tryz.func341
instance:bF 341 (type_of% @aC9):=⟨@aC9⟩
theorem aBj (p0 p1 p2 r) (h:uX p0 p1 p2=some r):Sc 217 [aL enB p0,aI p1,aL enB p2] [rW 5 1 enB r.1,rB r.2]:=by unfold uX at h;exact sgo 29 [.tmp 6,.tmp 7] Tryz.func217
instance:bF 217 (type_of% @aBj):=⟨@aBj⟩
theorem aFh (p0 p1 r) (h:BU p0 p1=some r):Sc 216 [(false,[.ptr [.sl (List.map enB p0.b),.int .i64 p0.i,.int .i64 p0.h]]),aL enB p1] [(false,[.edit (.lend 182 [.int .i64 r.1,.int .i64 r.2.1])]),rW 5 1 enB r.2.2]:=by
 unfold BU at h
 simp only [EN]
 refine sgB 44 [.tmp 4] Tryz.func216 λbase wd B0 u0 hw0 => ?_
 refine eA (J:=λs=>s.t 0=vP 7059000 1 0/\s.t 1=vL enB p1/\s.h 7059000=(1,oB 182 [.old B0 (.sl (List.map enB p0.b)) (some u0),cI p0.i,cI p0.h])/\True) ?_ ?_
 ·and_intros<;>(try simp only [LN,List.map_cons,List.map_nil])<;>rfl
 rintro s1 f2
 refine sq (rn ?_)
 refine an (sq ?_)
 obtain ⟨x5,h6,h⟩:=bind_some h
 refine rn1 h6 ?_
 refine an (sq (sq ?_))
 refine cu (λs=>s.t 0=vP 7059000 1 0/\s.t 5=vR 100006 (((s1.h 100006).1+1)+1)/\s.h 100006=((((s1.h 100006).1+1)+1),oW 5 1 enB p1)/\s.h 7059000=(1,oB 182 [.old B0 (.sl (List.map enB p0.b)) (some u0),cI p0.i,cI p0.h])/\True) ?_
 rintro s7 f8
 obtain ⟨aa,al,h⟩:=bind_some h
 refine rn1 (c65 _ _ _ al) ?_
 refine an (bk (sq ?_))
 refine cu (λs=>s.t 0=vP 7059000 1 0/\s.t 5=vR 100006 (((s1.h 100006).1+1)+1)/\s.t 10=vI aa.2.2/\s.h 100006=((((s1.h 100006).1+1)+1),oW 5 1 enB p1)/\s.h 7059000=(1,oB 182 [.old B0 (.sl (List.map enB p0.b)) (some u0),cI aa.1,cI aa.2.1])/\True) ?_
 rintro ay f15
 refine rn ?_
 refine an ?_
 rcases oQ (aa.2.2==0) with ae | ae
 ·replace h:=cT ae h;refine ct (sq (rn ?_));refine an ?_;rcases CH (decide ((List.length p1:Int)>0)) with ai | ai;(replace h:=cR ai h;refine cf (sk (ab (an (sq (rn ?_)))));refine an (rt ?_);cases h;simp [Iq,Ret,TB,EN, *]);replace h:=cT ai h;refine ct ?_;obtain ⟨az,ao,h⟩:=bind_some h;obtain ⟨ba,aq,h⟩:=bind_some h;obtain ⟨bd,ar,h⟩:=bind_some h;obtain ⟨bf,bg,bh⟩:=Az ar;refine rn2 (c65 _ _ _ ao) (c65 _ _ _ aq) ?_;refine ab (an (sq (rn ?_)));refine an (rt ?_);cases h;simp [Iq,Ret,TB,EN, *]
 replace h:=cR ae h
 refine cf (sq (rn ?_))
 refine an ?_
 rcases CH (aa.2.2==1) with af | af
 ·replace h:=cR af h;refine cf (sq (rn ?_));refine an ?_;rcases CH (aa.2.2==2) with aj | aj;(replace h:=cR aj h;refine cf (sk (ab (an (sq (rn ?_)))));refine an (rt ?_);cases h;simp [Iq,Ret,TB,EN, *]);replace h:=cT aj h;refine ct ?_;obtain ⟨bj,av,h⟩:=bind_some h;obtain ⟨bl,aw,h⟩:=bind_some h;refine rn2 (c69 _ _ _ av) aw ?_;refine ab (an (sq (rn ?_)));refine an (rt ?_);cases h;simp [Iq,Ret,TB,EN, *]
 replace h:=cT af h
 refine ct ?_
 obtain ⟨ak,ax,h⟩:=bind_some h
 obtain ⟨bm,ah,h⟩:=bind_some h
 apply bY
 ·simp +decide only [E,reduceIte,Nat.reduceAdd,Nat.reduceMul,qB,qC,<-List.map_take,<-List.map_drop,L,ti5,aAV,enB,EN,f15,ae,af]
  refine ⟨_,c65 _ _ _ ax,?_⟩
  try simp +decide only [E,reduceIte,Nat.reduceAdd,Nat.reduceMul,qB,qC,<-List.map_take,<-List.map_drop,L,ti5,aAV,enB,EN,f15,ae,af]
  refine ⟨by first | exact pD ah | exact (pD ah).2 | exact (pD ah).2.2,?_⟩
  try simp +decide only [E,reduceIte,Nat.reduceAdd,Nat.reduceMul,qB,qC,<-List.map_take,<-List.map_drop,L,ti5,aAV,enB,EN,f15,ae,af]
  exact Is.mk _
 refine ab (an (sq (rn ?_)))
 refine an ?_
 refine HM (Gho.Zq (i:=4) (j:=100006) (vj:=(((s1.h 100006).1+1)+1)) (K:=100006) (n:=ak.2.2.toNat) (e:=5) (sz:=1) (dp:=true) (xs:=(List.map enB p1)) (List.map enB (List.take ak.2.2.toNat p1)) (by first | (simp +decide only [F,reduceIte,Nat.reduceAdd,qB,qC,EN, *,-h];done) | (simp +decide only [F,reduceIte,Nat.reduceAdd,qB,qC,EN, *,-h];rfl) | rfl) (by first | (simp +decide only [F,reduceIte,Nat.reduceAdd,qB,qC,EN, *,-h];done) | (simp +decide only [F,reduceIte,Nat.reduceAdd,qB,qC,EN, *,-h];rfl) | rfl) (by rw [List.length_map];exact (pD ah).2) (by rw [List.map_take])) ?_
 refine rt ?_
 cases h
 simp [Iq,Ret,TB,EN, *]
instance:bF 216 (type_of% @aFh):=⟨@aFh⟩
end Go.Proofs.YtipmihbgjolaaaaGreat.gen
