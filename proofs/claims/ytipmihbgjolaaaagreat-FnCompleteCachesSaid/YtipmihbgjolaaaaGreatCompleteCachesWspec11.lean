/-
  Helper text. No conditions.
-/
import Derived.Test.YtipmihbgjolaaaaGreatCompleteCachesTi
import Derived.Test.YtipmihbgjolaaaaGreatCompleteCachesWspec0
import Derived.Test.YtipmihbgjolaaaaGreatCompleteCachesWspec1
import Derived.Test.YtipmihbgjolaaaaGreatCompleteCachesWspec10
import Derived.Test.YtipmihbgjolaaaaGreatCompleteCachesWspec2
import Derived.Test.YtipmihbgjolaaaaGreatCompleteCachesWspec3
import Derived.Test.YtipmihbgjolaaaaGreatCompleteCachesWspec4
import Derived.Test.YtipmihbgjolaaaaGreatCompleteCachesWspec5
import Derived.Test.YtipmihbgjolaaaaGreatCompleteCachesWspec6
import Derived.Test.YtipmihbgjolaaaaGreatCompleteCachesWspec7
import Derived.Test.YtipmihbgjolaaaaGreatCompleteCachesWspec8
import Derived.Test.YtipmihbgjolaaaaGreatCompleteCachesWspec9
set_option linter.unusedVariables false
set_option linter.unusedSimpArgs false
namespace Go.Proofs.YtipmihbgjolaaaaGreat.gen
open Go Go.Sh
set_option maxRecDepth 20000
set_option maxHeartbeats 4000000
theorem c26 (p0 r) (h:gQ p0=some r):Sc 26 [aX (M.World.en p0)] [rB r]:=by
 have i1:=inv λm s=>∃v3:Int,(s.t 1=vP 1 1 0/\s.t 3=vI v3/\s.h 1=(1,oX 75 (M.World.en p0)))/\lW p0 m v3=some r
 have e1:=@lW.eq_2
 have i2:=inv λm s=>∃v4:Int,(s.t 1=vP 1 1 0/\s.t 4=vI v4/\s.h 1=(1,oX 75 (M.World.en p0)))/\dW p0 m v4=some r
 have e2:=@dW.eq_2
 unfold gQ at h
 exact sgo 126 [.tmp 2] Tryz.func26
instance:bF 26 (type_of% @c26):=⟨@c26⟩
theorem aDC (p0 p1 r) (h:kS p0 p1=some r):Sc 264 [aX (M.World.en p0),aI p1] [(true,M.World.rs r.1),rB r.2]:=by
 unfold kS at h
 simp only [EN]
 refine sgn 43 [.cell 4 75,.tmp 5] Tryz.func264 λbase wd => ?_
 refine sq (rn ?_)
 refine an (sq ?_)
 obtain ⟨x1,h2,h⟩:=bind_some h
 refine rn1 (aA6 _ _ h2) ?_
 refine an (sq ?_)
 obtain ⟨x3,h4,h⟩:=bind_some h
 refine rn1 (c28 _ _ _ h4) ?_
 refine an (sq (sq ?_))
 obtain ⟨x5,h6,h⟩:=bind_some h
 rcases oQ (!x5) with b7 | b7
 ·replace h:=cT b7 h;refine rn1 (c26 _ _ h6) ?_;refine an (ct (sq (rn ?_)));refine an (rt ?_);cases h;simp [Ret,TB,EN, *]
 replace h:=cR b7 h
 refine rn1 (c26 _ _ h6) ?_
 refine an ?_
 rcases oQ (decide (x3<0)) with b8 | b8
 ·replace h:=cT b8 h;refine ct (sq (rn ?_));refine an (rt ?_);cases h;simp [Ret,TB,EN, *]
 replace h:=cR b8 h
 refine cf (sk (an (sq ?_)))
 obtain ⟨x9,aa,h⟩:=bind_some h
 obtain ⟨aj,ae,h⟩:=bind_some h
 obtain ⟨ak,af,h⟩:=bind_some h
 apply Bv mixed
 ·simp +decide only [E,reduceIte,Nat.reduceAdd,Nat.reduceMul,qB,qC,<-List.map_take,<-List.map_drop,Nat.sub_zero,L,Xr,C0,Xx,M.bJ.en,EN,b7,b8]
  refine ⟨by first | exact pD aa | exact (pD aa).2 | exact (pD aa).2.2,?_⟩
  try simp +decide only [E,reduceIte,Nat.reduceAdd,Nat.reduceMul,qB,qC,<-List.map_take,<-List.map_drop,Nat.sub_zero,L,Xr,C0,Xx,M.bJ.en,EN,b7,b8]
  refine ⟨by first | exact Ds ae | exact (Ds ae).2 | exact (Ds ae).2.2,?_⟩
  try simp +decide only [E,reduceIte,Nat.reduceAdd,Nat.reduceMul,qB,qC,<-List.map_take,<-List.map_drop,Nat.sub_zero,L,Xr,C0,Xx,M.bJ.en,EN,b7,b8]
  refine ⟨by first | exact Ee (f:=M.bJ.en) (sz:=11) (λ_=>rfl) qe aa ae af | (have hb:=Ee (f:=M.bJ.en) (sz:=11) (λ_=>rfl) qe aa ae af;simpa using hb),?_⟩
  try simp +decide only [E,reduceIte,Nat.reduceAdd,Nat.reduceMul,qB,qC,<-List.map_take,<-List.map_drop,Nat.sub_zero,L,Xr,C0,Xx,M.bJ.en,EN,b7,b8]
  exact ⟨.mk qf,Is.mk _⟩
 refine an (sq ?_)
 refine cu (λs=>s.t 1=vI p1/\s.t 2=vP 2 1 0/\s.t 4=vP 4 1 0/\s.t 6=vP 6 1 0/\s.h 2=(1,oX 75 (M.World.en p0))/\s.h 4=(1,Qh)/\s.h 6=(1,oB 75 [cI x1.Now,cB x1.aHA,cI x1.aGp,.row 400009 1,.row 500009 2,cI x1.aGv,.row 700009 1,.row 800009 1,.row 900009 1,.row 1000009 1])/\s.h 400009=(1,oW 49 24 M.aG.en x1.aA.aGj)/\s.h 500009=(2,oW 96 11 M.bJ.en ((List.take x3.toNat x1.aGx)++(List.drop (IntKind.i64.wrap (x3+1)).toNat x1.aGx)))/\s.h 700009=(1,oW 154 4 M.nW.en x1.aGy.aGy)/\s.h 800009=(1,oW 157 3 M.Bk.en x1.aGt.aHN)/\s.h 900009=(1,oW 85 4 M.aGl.en x1.aG2)/\s.h 1000009=(1,oW 137 5 M.aGr.en x1.aGz)/\True) ?_
 rintro al f16
 obtain ⟨ao,ah,h⟩:=bind_some h
 refine rn1 (aGR _ _ _ ah) ?_
 refine an (sq ?_)
 obtain ⟨aq,ai,h⟩:=bind_some h
 refine rn1 (aFm _ _ _ ai) ?_
 refine an (sq (rn ?_))
 refine an (rt ?_)
 cases h
 simp [Ret,TB,EN, *]
instance:bF 264 (type_of% @aDC):=⟨@aDC⟩
theorem c10 (p0 p1 r) (h:gI p0 p1=some r):Sc 10 [aX (M.aA.en p0),aX (M.aG.en p1)] [(true,M.aA.rs r.1),rB r.2]:=by
 have i1:=λ(x1:M.aA)=>inv λm s=>∃v8:Int,(s.t 2=vP 2 1 0/\s.t 3=vP 3 1 0/\s.t 4=vP 4 1 0/\s.t 6=vP 6 1 0/\s.t 8=vI v8/\s.h 2=(1,oX 26 (M.aA.en p0))/\s.h 3=(1,oX 49 (M.aG.en p1))/\s.h 4=(1,oB 26 [.nil])/\s.h 6=(1,oB 26 [.row 100011 1])/\s.h 100011=(1,oW 49 24 M.aG.en x1.aGj))/\lM p0 p1 x1 m v8=some r
 have e1:=@lM.eq_2
 unfold gI at h
 exact sgo 74 [.cell 4 26,.tmp 5] Tryz.func10
instance:bF 10 (type_of% @c10):=⟨@c10⟩
theorem aFO (p0 p1 p2 p3 r) (h:kC p0 p1 p2 p3=some r):Sc 266 [aX (M.World.en p0),aS p1,aS p2,aL M.Instr.en p3] [(true,M.World.rs r.1),rI r.2.1,rB r.2.2]:=by unfold kC at h;exact sgo 130 [.cell 8 75,.tmp 9,.tmp 10] Tryz.func266
instance:bF 266 (type_of% @aFO):=⟨@aFO⟩
theorem aCx (p0 r) (h:zU p0=some r):Sc 167 [(false,[.ptr [.sl (List.map enB p0.b),.int .i64 p0.i,.int .i64 p0.h]])] [(false,[.edit (.lend 182 [.int .i64 r.1,.int .i64 r.2.1])]),(true,M.World.rs r.2.2)]:=by
 unfold zU at h
 simp only [EN]
 refine sgB 68 [.cell 2 75] Tryz.func167 λbase wd B0 u0 hw0 => ?_
 refine eA (J:=λs=>s.t 0=vP 7059000 1 0/\s.h 7059000=(1,oB 182 [.old B0 (.sl (List.map enB p0.b)) (some u0),cI p0.i,cI p0.h])/\True) ?_ ?_
 ·and_intros<;>(try simp only [LN,List.map_cons,List.map_nil])<;>rfl
 rintro s1 f2
 have i1:=D5 [.b 3 3 7050000 49 24,.b 3 4 7050001 96 11,.b 3 6 7050002 154 4,.b 3 7 7050003 157 3,.b 3 8 7050004 85 4,.b 3 9 7050005 137 5] λm s=>∃v4:Int,∃ay:Int,∃az:Bool,∃ba:Int,∃bd:Int,∃aa:Int,∃ae:Int,∃af:List M.aG,∃ah:List M.bJ,∃ai:List M.nW,∃aj:List M.Bk,∃ak:List M.aGl,∃al:List M.aGr,∃ao:Nat,∃aq:Nat,∃ar:Nat,∃av:Nat,∃aw:Nat,∃ax:Nat,(s.t 0=vP 7059000 1 0/\s.t 2=vP 2 ((s1.h 2).1+1) 0/\s.t 3=vP 3 ((s1.h 3).1+1) 0/\s.t 4=vI v4/\s.h 2=(((s1.h 2).1+1),Qh)/\s.h 3=(((s1.h 3).1+1),oB 75 [cI ay,cB az,cI ba,.row 7050000 ao,.row 7050001 aq,cI bd,.row 7050002 ar,.row 7050003 av,.row 7050004 aw,.row 7050005 ax])/\s.h 7050000=(ao,oW 49 24 M.aG.en af)/\s.h 7050001=(aq,oW 96 11 M.bJ.en ah)/\s.h 7050002=(ar,oW 154 4 M.nW.en ai)/\s.h 7050003=(av,oW 157 3 M.Bk.en aj)/\s.h 7050004=(aw,oW 85 4 M.aGl.en ak)/\s.h 7050005=(ax,oW 137 5 M.aGr.en al)/\s.h 7059000=(1,oB 182 [.old B0 (.sl (List.map enB p0.b)) (some u0),cI aa,cI ae]))/\fM p0 m v4 ay az ba bd aa ae af ah ai aj ak al=some r
 have e1:=@fM.eq_2
 exact sgX
instance:bF 167 (type_of% @aCx):=⟨@aCx⟩
theorem c43 (p0 p1 r) (h:fL p0 p1=some r):Sc 43 [aX (M.World.en p0),aS p1] [(true,M.World.rs r.1),rB r.2]:=by unfold fL at h;exact sgo 38 [.cell 4 75,.tmp 5] Tryz.func43
instance:bF 43 (type_of% @c43):=⟨@c43⟩
theorem aEE (p0 p1 p2 r) (h:nM p0 p1 p2=some r):Sc 380 [aX (M.aG.en p0),aX (M.aC.en p1),aX (M.aGf.en p2)] [(true,M.aG.rs r.1),rB r.2]:=by
 unfold nM at h
 simp only [EN]
 refine sgn 21 [.cell 6 49,.tmp 7] Tryz.func380 λbase wd => ?_
 refine sq (rn ?_)
 refine an (sq ?_)
 obtain ⟨x1,h2,h⟩:=bind_some h
 refine rn1 (c54 _ _ h2) ?_
 refine an (sq ?_)
 obtain ⟨x3,h4,h⟩:=bind_some h
 refine rn1 (Xb _ _ h4) ?_
 refine an (sq (rn ?_))
 refine an (sq ?_)
 obtain ⟨x5,h6,h⟩:=bind_some h
 rcases oQ x5.2 with b7 | b7
 ·replace h:=cT b7 h;refine rn1 (aBC _ _ _ h6 b7) ?_;refine an (rt ?_);cases h;simp [Ret,TB,EN, *]
 replace h:=cR b7 h
 refine rn1 (aA3 _ _ _ h6 b7) ?_
 refine an (rt ?_)
 cases h
 simp [Ret,TB,EN, *]
instance:bF 380 (type_of% @aEE):=⟨@aEE⟩
theorem aC5 (p0 p1 p2 r) (h:yE p0 p1 p2=some r):Sc 381 [aX (M.World.en p0),aX (M.aG.en p1),aB p2] [(true,M.World.rs r.1),rB r.2]:=by unfold yE at h;exact sgo 30 [.cell 6 75,.tmp 7] Tryz.func381
instance:bF 381 (type_of% @aC5):=⟨@aC5⟩
theorem aE0 (p0 p1 p2 r) (h:dJ p0 p1 p2=some r):Sc 339 [aX (M.World.en p0),aS p1,aS p2] [(true,M.World.rs r.1),rB r.2]:=by unfold dJ at h;exact sgo 117 [.cell 6 75,.tmp 7] Tryz.func339
instance:bF 339 (type_of% @aE0):=⟨@aE0⟩
theorem aEh (p0 p1 p2 r) (h:fT p0 p1 p2=some r):Sc 340 [aX (M.World.en p0),aS p1,aS p2] [(true,M.World.rs r.1),rB r.2]:=by unfold fT at h;exact sgo 73 [.cell 6 75,.tmp 7] Tryz.func340
instance:bF 340 (type_of% @aEh):=⟨@aEh⟩
theorem aAk (p0 p1 r) (h:oD p0 p1=some r):Sc 207 [aX (M.bW.en p0),aL M.Op.en p1] [(true,M.bW.rs r.1),rB r.2]:=by unfold oD at h;exact sgo 64 [.cell 4 37,.tmp 5] Tryz.func207
instance:bF 207 (type_of% @aAk):=⟨@aAk⟩
theorem aDo (p0 r) (h:vF p0=some r):Sc 123 [(false,[.ptr [.sl (List.map enB p0.b),.int .i64 p0.i,.int .i64 p0.h]])] [(false,[.edit (.lend 182 [.int .i64 r.1,.int .i64 r.2.1])]),(true,M.aG.rs r.2.2)]:=by
 unfold vF at h
 simp only [EN]
 refine sgB 90 [.cell 2 49] Tryz.func123 λbase wd B0 u0 hw0 => ?_
 refine eA (J:=λs=>s.t 0=vP 7059000 1 0/\s.h 7059000=(1,oB 182 [.old B0 (.sl (List.map enB p0.b)) (some u0),cI p0.i,cI p0.h])/\True) ?_ ?_
 ·and_intros<;>(try simp only [LN,List.map_cons,List.map_nil])<;>rfl
 rintro s1 f2
 refine sq (rn ?_)
 refine an (sq ?_)
 obtain ⟨x4,h5,h⟩:=bind_some h
 refine rn1 (Zs _ _ h5) ?_
 refine an (sq ?_)
 refine cu (λs=>s.t 0=vP 7059000 1 0/\s.t 2=vP 2 ((s1.h 2).1+1) 0/\s.t 3=vS x4.2.2/\s.h 2=(((s1.h 2).1+1),Pz)/\s.h 7059000=(1,oB 182 [.old B0 (.sl (List.map enB p0.b)) (some u0),cI x4.1,cI x4.2.1])/\True) ?_
 rintro s6 f7
 refine rn ?_
 refine an ?_
 obtain ⟨cy,cz,h⟩:=bind_some h
 refine wT (λs=>s.t 0=vP 7059000 1 0/\s.t 2=vP 2 ((s1.h 2).1+1) 0/\s.t 3=vS x4.2.2/\s.t 4=vS cy.1/\s.h 2=(((s1.h 2).1+1),Pz)/\s.h 7059000=(1,oB 182 [.old B0 (.sl (List.map enB p0.b)) (some u0),cI cy.2.1,cI cy.2.2])/\True) ?_ ?_
 ·replace h:=cz;clear cz;refine sq ?_;obtain ⟨cr,dz,h⟩:=bind_some h;refine rn1 (c75 _ _ _ dz) ?_;refine an ?_;refine cu (λs=>s.t 0=vP 7059000 1 0/\s.t 2=vP 2 ((s1.h 2).1+1) 0/\s.t 3=vS x4.2.2/\s.t 4=vS x4.2.2/\s.t 15=vB cr.2.2/\s.h 2=(((s1.h 2).1+1),Pz)/\s.h 7059000=(1,oB 182 [.old B0 (.sl (List.map enB p0.b)) (some u0),cI cr.1,cI cr.2.1])/\True) ?_;rintro fq f24;rcases CH cr.2.2 with da | da;(replace h:=cR da h;refine cf (sk ?_);cases h;refine lJ ⟨?_,?_,?_,?_,?_,?_,trivial⟩<;>(try simp +decide only [F,reduceIte,Nat.reduceAdd,qB,qC,EN, *,-h]));replace h:=cT da h;refine ct ?_;obtain ⟨ft,ef,h⟩:=bind_some h;refine rn1 (Zs _ _ ef) ?_;cases h;refine lJ ⟨?_,?_,?_,?_,?_,?_,trivial⟩<;>(try simp +decide only [F,reduceIte,Nat.reduceAdd,qB,qC,EN, *,-h])
 clear cz
 rintro ao f15
 refine sq ?_
 obtain ⟨dx,eh,h⟩:=bind_some h
 obtain ⟨aa,et,h⟩:=bind_some h
 refine rn2 (c65 _ _ _ eh) (aBh _ _ _ _ et) ?_
 refine an (sq (sq ?_))
 refine cu (λs=>s.t 0=vP 7059000 1 0/\s.t 2=vP 2 ((s1.h 2).1+1) 0/\s.t 5=vP 5 ((ao.h 5).1+1) 0/\s.h 2=(((s1.h 2).1+1),Pz)/\s.h 5=(((ao.h 5).1+1),oB 49 [cS aa.1.aGl,cS aa.1.Top,cS aa.1.aGf.aGl,cI aa.1.aGf.aG6,cI aa.1.aGf.aHC,cI aa.1.aGf.aHF,.row 700024 ((ao.h 700024).1+1),cS aa.1.bW.aG4.Name,cI aa.1.bW.aG4.aGg,.row 1000024 ((ao.h 1000024).1+1),.row 1100024 ((ao.h 1100024).1+1),.row 1200024 ((ao.h 1200024).1+1),cI aa.1.bW.aHM,cS aa.1.aH.aG4.Name,.row 1500024 ((ao.h 1500024).1+1),cI aa.1.aH.aG4.aHD,cI aa.1.aH.aHS,cI aa.1.aH.aG5.aM.aGp,cI aa.1.aH.aG5.aM.aHH,.row 2000024 ((ao.h 2000024).1+1),cI aa.1.aH.aG5.aHL,cI aa.1.aH.aG5.aHB,cI aa.1.aHI,cB aa.1.aHE])/\s.h 700024=(((ao.h 700024).1+1),oW 193 2 M.aGo.en aa.1.aGi.aGi)/\s.h 1000024=(((ao.h 1000024).1+1),oW 40 3 M.aD.en aa.1.bW.aG4.aGq)/\s.h 1100024=(((ao.h 1100024).1+1),oW 282 2 M.aO.en aa.1.bW.aG4.aG3)/\s.h 1200024=(((ao.h 1200024).1+1),oW 5 1 enB aa.1.bW.Log)/\s.h 1500024=(((ao.h 1500024).1+1),oW 284 4 M.aG1.en aa.1.aH.aG4.aGk)/\s.h 2000024=(((ao.h 2000024).1+1),oW 211 7 M.bC.en aa.1.aH.aG5.aM.aG0)/\s.h 7059000=(1,oB 182 [.old B0 (.sl (List.map enB p0.b)) (some u0),cI dx.1,cI dx.2.1])/\True) ?_
 rintro dy f39
 obtain ⟨cl,eu,h⟩:=bind_some h
 refine rn1 (c65 _ _ _ eu) ?_
 refine an (bk ?_)
 refine cu (λs=>s.h 5=dy.h 5/\s.h 2000024=dy.h 2000024/\s.t 0=vP 7059000 1 0/\s.t 2=vP 2 ((s1.h 2).1+1) 0/\s.t 5=vP 5 ((ao.h 5).1+1) 0/\s.t 7=vI cl.2.2/\s.h 2=(((s1.h 2).1+1),Pz)/\s.h 700024=(((ao.h 700024).1+1),oW 193 2 M.aGo.en aa.1.aGi.aGi)/\s.h 1000024=(((ao.h 1000024).1+1),oW 40 3 M.aD.en aa.1.bW.aG4.aGq)/\s.h 1100024=(((ao.h 1100024).1+1),oW 282 2 M.aO.en aa.1.bW.aG4.aG3)/\s.h 1200024=(((ao.h 1200024).1+1),oW 5 1 enB aa.1.bW.Log)/\s.h 1500024=(((ao.h 1500024).1+1),oW 284 4 M.aG1.en aa.1.aH.aG4.aGk)/\s.h 7059000=(1,oB 182 [.old B0 (.sl (List.map enB p0.b)) (some u0),cI cl.1,cI cl.2.1])/\True) ?_
 rintro cw ⟨f59,f65,f54⟩
 replace f59:=f59.trans f39.2.2.2.2.1
 replace f65:=f65.trans f39.2.2.2.2.2.2.2.2.2.2.1
 refine HM ((Gho.trans (Gho.trans (ghB 5 9 7050000 1000024) (ghB 5 10 7050001 1100024)) (ghB 5 11 7050002 1200024))) ?_
 refine Ge (λm s=>∃v7:Int,∃bq:ByteArray,∃br:Int,∃bn:Int,∃bl:Int,∃bm:Int,∃aq:List M.aD,∃ar:List M.aO,∃av:List Int,∃ah:Nat,∃ai:Nat,∃aj:Nat,s.h 2000024=cw.h 2000024/\s.t 0=vP 7059000 1 0/\s.t 2=vP 2 ((s1.h 2).1+1) 0/\s.t 5=vP 5 ((ao.h 5).1+1) 0/\s.t 7=vI v7/\s.h 2=(((s1.h 2).1+1),Pz)/\s.h 5=(((ao.h 5).1+1),oB 49 [cS aa.1.aGl,cS aa.1.Top,cS aa.1.aGf.aGl,cI aa.1.aGf.aG6,cI aa.1.aGf.aHC,cI aa.1.aGf.aHF,.row 700024 ((ao.h 700024).1+1),cS bq,cI br,.row 7050000 ah,.row 7050001 ai,.row 7050002 aj,cI bn,cS aa.1.aH.aG4.Name,.row 1500024 ((ao.h 1500024).1+1),cI aa.1.aH.aG4.aHD,cI aa.1.aH.aHS,cI aa.1.aH.aG5.aM.aGp,cI aa.1.aH.aG5.aM.aHH,.row 2000024 ((ao.h 2000024).1+1),cI aa.1.aH.aG5.aHL,cI aa.1.aH.aG5.aHB,cI aa.1.aHI,cB aa.1.aHE])/\s.h 700024=(((ao.h 700024).1+1),oW 193 2 M.aGo.en aa.1.aGi.aGi)/\s.h 1500024=(((ao.h 1500024).1+1),oW 284 4 M.aG1.en aa.1.aH.aG4.aGk)/\s.h 7050000=(ah,oW 40 3 M.aD.en aq)/\s.h 7050001=(ai,oW 282 2 M.aO.en ar)/\s.h 7050002=(aj,oW 5 1 enB av)/\s.h 7059000=(1,oB 182 [.old B0 (.sl (List.map enB p0.b)) (some u0),cI bl,cI bm])/\gC p0 aa m v7 bq br bn bl bm aq ar av=some r) fuel ?_ ?_
 ·refine ⟨cl.2.2,aa.1.bW.aG4.Name,aa.1.bW.aG4.aGg,aa.1.bW.aHM,cl.1,cl.2.1,aa.1.bW.aG4.aGq,aa.1.bW.aG4.aG3,aa.1.bW.Log,((cw.h 7050000).1+1),((cw.h 7050001).1+1),((cw.h 7050002).1+1),?_,?_,?_,?_,?_,?_,?_,?_,?_,?_,?_,?_,?_,h⟩;all_goals simp +decide only [F,reduceIte,Nat.reduceAdd,qB,qC,EN, *,-h]
 rintro mL1 bw ⟨v7,bq,br,bn,bl,bm,aq,ar,av,ah,ai,aj,f76,f68,f69,f70,f71,f72,f73,f74,f75,f77,f78,f79,f80,h⟩
 replace f76:=f76.trans f65
 rcases mL1 with _ | mL1
 ·exact absurd h (by simp [gC])
 simp only [gC] at h
 refine sq (sq (rn ?_))
 refine an ?_
 rcases oQ (decide (v7>0)) with cd | cd
 ·replace h:=cT cd h;refine ct (sk (an (sq (bk (sq ?_)))));obtain ⟨fw,fa,h⟩:=bind_some h;obtain ⟨cx,fc,h⟩:=bind_some h;obtain ⟨bx,fe,h⟩:=bind_some h;refine rd3 mixed (aAT _ _ fa) (aAb _ _ fc) (aAk _ _ _ fe) ?_;refine an ?_;refine cu (λs=>s.h 5=bw.h 5/\s.h 2000024=bw.h 2000024/\s.t 0=vP 7059000 1 0/\s.t 2=vP 2 ((s1.h 2).1+1) 0/\s.t 5=vP 5 ((ao.h 5).1+1) 0/\s.t 7=vI v7/\s.t 8=vP 8 ((bw.h 8).1+1) 0/\s.h 2=(((s1.h 2).1+1),Pz)/\s.h 8=(((bw.h 8).1+1),oB 37 [cS bx.1.aG4.Name,cI bx.1.aG4.aGg,.row 300042 ((bw.h 300042).1+1),.row 400042 ((bw.h 400042).1+1),.row 500042 ((bw.h 500042).1+1),cI bx.1.aHM])/\s.h 300042=(((bw.h 300042).1+1),oW 40 3 M.aD.en bx.1.aG4.aGq)/\s.h 400042=(((bw.h 400042).1+1),oW 282 2 M.aO.en bx.1.aG4.aG3)/\s.h 500042=(((bw.h 500042).1+1),oW 5 1 enB bx.1.Log)/\s.h 700024=(((ao.h 700024).1+1),oW 193 2 M.aGo.en aa.1.aGi.aGi)/\s.h 1500024=(((ao.h 1500024).1+1),oW 284 4 M.aG1.en aa.1.aH.aG4.aGk)/\s.h 7050000=(ah,oW 40 3 M.aD.en aq)/\s.h 7050001=(ai,oW 282 2 M.aO.en ar)/\s.h 7050002=(aj,oW 5 1 enB av)/\s.h 7059000=(1,oB 182 [.old B0 (.sl (List.map enB p0.b)) (some u0),cI cx.1,cI cx.2.1])/\True) ?_;rintro fx ⟨f95,f102,f89⟩;replace f95:=f95.trans f73;replace f102:=f102.trans f76;refine rn ?_;refine ab (an (rn ?_));refine lJ ⟨_,(Gho.trans (Gho.trans (ghB 5 9 7050000 300042) (ghB 5 10 7050001 400042)) (ghB 5 11 7050002 500042)),mL1,qb,(IntKind.i64.wrap (v7-1)),bx.1.aG4.Name,bx.1.aG4.aGg,bx.1.aHM,cx.1,cx.2.1,bx.1.aG4.aGq,bx.1.aG4.aG3,bx.1.Log,(ah+1),(ai+1),(aj+1),?_,?_,?_,?_,?_,?_,?_,?_,?_,?_,?_,?_,?_,h⟩;all_goals simp +decide only [F,reduceIte,Nat.reduceAdd,qB,qC,EN, *,-h]
 replace h:=cR cd h
 refine cf (xt (E2 (EV (J0 (an (sq (sq ?_)))))))
 obtain ⟨bu,db,h⟩:=bind_some h
 refine rn1 (c65 _ _ _ db) ?_
 refine an (bk ?_)
 refine cu (λs=>s.h 5=bw.h 5/\s.h 2000024=bw.h 2000024/\s.t 0=vP 7059000 1 0/\s.t 2=vP 2 ((s1.h 2).1+1) 0/\s.t 5=vP 5 ((ao.h 5).1+1) 0/\s.t 10=vI bu.2.2/\s.h 2=(((s1.h 2).1+1),Pz)/\s.h 700024=(((ao.h 700024).1+1),oW 193 2 M.aGo.en aa.1.aGi.aGi)/\s.h 1500024=(((ao.h 1500024).1+1),oW 284 4 M.aG1.en aa.1.aH.aG4.aGk)/\s.h 7050000=(ah,oW 40 3 M.aD.en aq)/\s.h 7050001=(ai,oW 282 2 M.aO.en ar)/\s.h 7050002=(aj,oW 5 1 enB av)/\s.h 7059000=(1,oB 182 [.old B0 (.sl (List.map enB p0.b)) (some u0),cI bu.1,cI bu.2.1])/\True) ?_
 rintro cn ⟨f115,f118,f110⟩
 replace f115:=f115.trans f73
 replace f118:=f118.trans f76
 refine HM ((Gho.trans (ghB 5 14 7050100 1500024) (ghB 5 19 7050101 2000024))) ?_
 refine Ge (λm s=>∃bo:Int,∃ay:ByteArray,∃az:Int,∃ba:Int,∃bd:Int,∃bf:Int,∃bg:Int,∃bh:Int,∃aw:Int,∃ax:Int,∃ak:List M.aG1,∃al:List M.bC,∃ae:Nat,∃af:Nat,s.t 0=vP 7059000 1 0/\s.t 2=vP 2 ((s1.h 2).1+1) 0/\s.t 5=vP 5 ((ao.h 5).1+1) 0/\s.t 10=vI bo/\s.h 2=(((s1.h 2).1+1),Pz)/\s.h 5=(((ao.h 5).1+1),oB 49 [cS aa.1.aGl,cS aa.1.Top,cS aa.1.aGf.aGl,cI aa.1.aGf.aG6,cI aa.1.aGf.aHC,cI aa.1.aGf.aHF,.row 700024 ((ao.h 700024).1+1),cS bq,cI br,.row 7050000 ah,.row 7050001 ai,.row 7050002 aj,cI bn,cS ay,.row 7050100 ae,cI az,cI ba,cI bd,cI bf,.row 7050101 af,cI bg,cI bh,cI aa.1.aHI,cB aa.1.aHE])/\s.h 700024=(((ao.h 700024).1+1),oW 193 2 M.aGo.en aa.1.aGi.aGi)/\s.h 7050000=(ah,oW 40 3 M.aD.en aq)/\s.h 7050001=(ai,oW 282 2 M.aO.en ar)/\s.h 7050002=(aj,oW 5 1 enB av)/\s.h 7050100=(ae,oW 284 4 M.aG1.en ak)/\s.h 7050101=(af,oW 211 7 M.bC.en al)/\s.h 7059000=(1,oB 182 [.old B0 (.sl (List.map enB p0.b)) (some u0),cI aw,cI ax])/\fZ p0 aa bq br bn aq ar av m bo ay az ba bd bf bg bh aw ax ak al=some r) fuel ?_ ?_
 ·refine ⟨bu.2.2,aa.1.aH.aG4.Name,aa.1.aH.aG4.aHD,aa.1.aH.aHS,aa.1.aH.aG5.aM.aGp,aa.1.aH.aG5.aM.aHH,aa.1.aH.aG5.aHL,aa.1.aH.aG5.aHB,bu.1,bu.2.1,aa.1.aH.aG4.aGk,aa.1.aH.aG5.aM.aG0,((cn.h 7050100).1+1),((cn.h 7050101).1+1),?_,?_,?_,?_,?_,?_,?_,?_,?_,?_,?_,?_,?_,h⟩;all_goals simp +decide only [F,reduceIte,Nat.reduceAdd,qB,qC,EN, *,-h]
 rintro mL2 bz ⟨bo,ay,az,ba,bd,bf,bg,bh,aw,ax,ak,al,ae,af,f124,f125,f126,f127,f128,f129,f130,f131,f132,f133,f134,f135,f136,h⟩
 rcases mL2 with _ | mL2
 ·exact absurd h (by simp [fZ])
 simp only [fZ] at h
 refine sq (sq (rn ?_))
 refine an ?_
 rcases oQ (decide (bo>0)) with bt | bt
 ·replace h:=cT bt h
  refine ct (sk (an (sq (bk ?_))))
  obtain ⟨ff,df,h⟩:=bind_some h
  obtain ⟨fg,dg,h⟩:=bind_some h
  obtain ⟨c9,dh,h⟩:=bind_some h
  obtain ⟨bj,di,h⟩:=bind_some h
  apply Bv mixed
  ·simp +decide only [E,reduceIte,Nat.reduceAdd,Nat.reduceMul,qB,qC,L,Zt,Hc,EN,cd,f124,f125,f126,f127,f128,f129,f130,f131,f132,f133,f134,f135,f136,bt]
   refine ⟨_,aAT _ _ df,?_⟩
   try simp +decide only [E,reduceIte,Nat.reduceAdd,Nat.reduceMul,qB,qC,L,Zt,Hc,EN,cd,f124,f125,f126,f127,f128,f129,f130,f131,f132,f133,f134,f135,f136,bt]
   refine ⟨_,aA9 _ _ dg,?_⟩
   try simp +decide only [E,reduceIte,Nat.reduceAdd,Nat.reduceMul,qB,qC,L,Zt,Hc,EN,cd,f124,f125,f126,f127,f128,f129,f130,f131,f132,f133,f134,f135,f136,bt]
   refine ⟨_,c65 _ _ _ dh,?_⟩
   try simp +decide only [E,reduceIte,Nat.reduceAdd,Nat.reduceMul,qB,qC,L,Zt,Hc,EN,cd,f124,f125,f126,f127,f128,f129,f130,f131,f132,f133,f134,f135,f136,bt]
   refine ⟨_,aA1 _ _ _ _ _ di,?_⟩
   try simp +decide only [E,reduceIte,Nat.reduceAdd,Nat.reduceMul,qB,qC,L,Zt,Hc,EN,cd,f124,f125,f126,f127,f128,f129,f130,f131,f132,f133,f134,f135,f136,bt]
   exact ⟨.mk qf,Is.mk _⟩
  refine ab (an ?_)
  refine cu (λs=>s.t 0=vP 7059000 1 0/\s.t 2=vP 2 ((s1.h 2).1+1) 0/\s.t 5=vP 5 ((ao.h 5).1+1) 0/\s.t 10=vI bo/\s.h 2=(((s1.h 2).1+1),Pz)/\s.h 5=(((ao.h 5).1+1),oB 49 [cS aa.1.aGl,cS aa.1.Top,cS aa.1.aGf.aGl,cI aa.1.aGf.aG6,cI aa.1.aGf.aHC,cI aa.1.aGf.aHF,.row 700024 ((ao.h 700024).1+1),cS bq,cI br,.row 7050000 ah,.row 7050001 ai,.row 7050002 aj,cI bn,cS bj.1.aG4.Name,.row 200062 ((bz.h 200062).1+1),cI bj.1.aG4.aHD,cI bj.1.aHS,cI bj.1.aG5.aM.aGp,cI bj.1.aG5.aM.aHH,.row 700062 ((bz.h 700062).1+1),cI bj.1.aG5.aHL,cI bj.1.aG5.aHB,cI aa.1.aHI,cB aa.1.aHE])/\s.h 200062=(((bz.h 200062).1+1),oW 284 4 M.aG1.en bj.1.aG4.aGk)/\s.h 700024=(((ao.h 700024).1+1),oW 193 2 M.aGo.en aa.1.aGi.aGi)/\s.h 700062=(((bz.h 700062).1+1),oW 211 7 M.bC.en bj.1.aG5.aM.aG0)/\s.h 7050000=(ah,oW 40 3 M.aD.en aq)/\s.h 7050001=(ai,oW 282 2 M.aO.en ar)/\s.h 7050002=(aj,oW 5 1 enB av)/\s.h 7059000=(1,oB 182 [.old B0 (.sl (List.map enB p0.b)) (some u0),cI c9.1,cI c9.2.1])/\True) ?_
  rintro cp f147
  refine rn ?_
  refine lJ ⟨_,(Gho.trans (ghB 5 14 7050100 200062) (ghB 5 19 7050101 700062)),mL2,qb,(IntKind.i64.wrap (bo-1)),bj.1.aG4.Name,bj.1.aG4.aHD,bj.1.aHS,bj.1.aG5.aM.aGp,bj.1.aG5.aM.aHH,bj.1.aG5.aHL,bj.1.aG5.aHB,c9.1,c9.2.1,bj.1.aG4.aGk,bj.1.aG5.aM.aG0,((cp.h 7050100).1+1),((cp.h 7050101).1+1),?_,?_,?_,?_,?_,?_,?_,?_,?_,?_,?_,?_,?_,h⟩
  all_goals simp +decide only [F,reduceIte,Nat.reduceAdd,qB,qC,EN, *,-h]
 replace h:=cR bt h
 refine cf (xt (E2 (EV (J0 (an (sq (sq ?_)))))))
 obtain ⟨ca,dj,h⟩:=bind_some h
 refine rn1 (c75 _ _ _ dj) ?_
 refine an ?_
 refine cu (λs=>s.h 5=bz.h 5/\s.t 0=vP 7059000 1 0/\s.t 2=vP 2 ((s1.h 2).1+1) 0/\s.t 5=vP 5 ((ao.h 5).1+1) 0/\s.t 67=vB ca.2.2/\s.h 2=(((s1.h 2).1+1),Pz)/\s.h 700024=(((ao.h 700024).1+1),oW 193 2 M.aGo.en aa.1.aGi.aGi)/\s.h 7050000=(ah,oW 40 3 M.aD.en aq)/\s.h 7050001=(ai,oW 282 2 M.aO.en ar)/\s.h 7050002=(aj,oW 5 1 enB av)/\s.h 7050100=(ae,oW 284 4 M.aG1.en ak)/\s.h 7050101=(af,oW 211 7 M.bC.en al)/\s.h 7059000=(1,oB 182 [.old B0 (.sl (List.map enB p0.b)) (some u0),cI ca.1,cI ca.2.1])/\True) ?_
 rintro fh ⟨f168,f163⟩
 replace f168:=f168.trans f129
 rcases CH ca.2.2 with cg | cg
 ·replace h:=cR cg h;refine cf (sk (an (sq ?_)));obtain ⟨cj,dk,h⟩:=bind_some h;refine rn1 (c65 _ _ _ dk) ?_;refine an (sq ?_);refine cu (λs=>s.t 0=vP 7059000 1 0/\s.t 2=vP 2 ((s1.h 2).1+1) 0/\s.t 5=vP 5 ((ao.h 5).1+1) 0/\s.h 2=(((s1.h 2).1+1),Pz)/\s.h 5=(((ao.h 5).1+1),oB 49 [cS aa.1.aGl,cS aa.1.Top,cS aa.1.aGf.aGl,cI aa.1.aGf.aG6,cI aa.1.aGf.aHC,cI aa.1.aGf.aHF,.row 700024 ((ao.h 700024).1+1),cS bq,cI br,.row 7050000 ah,.row 7050001 ai,.row 7050002 aj,cI bn,cS ay,.row 7050100 ae,cI az,cI ba,cI bd,cI bf,.row 7050101 af,cI bg,cI bh,cI cj.2.2,cB aa.1.aHE])/\s.h 700024=(((ao.h 700024).1+1),oW 193 2 M.aGo.en aa.1.aGi.aGi)/\s.h 7050000=(ah,oW 40 3 M.aD.en aq)/\s.h 7050001=(ai,oW 282 2 M.aO.en ar)/\s.h 7050002=(aj,oW 5 1 enB av)/\s.h 7050100=(ae,oW 284 4 M.aG1.en ak)/\s.h 7050101=(af,oW 211 7 M.bC.en al)/\s.h 7059000=(1,oB 182 [.old B0 (.sl (List.map enB p0.b)) (some u0),cI cj.1,cI cj.2.1])/\True) ?_;rintro fj f214;obtain ⟨fk,dm,h⟩:=bind_some h;refine rn1 (c75 _ _ _ dm) ?_;refine an (sq (rn ?_));refine an (rt ?_);cases h;simp [Iq,Ret,TB,EN, *]
 replace h:=cT cg h
 refine ct (sq ?_)
 obtain ⟨cc,dn,h⟩:=bind_some h
 refine rn1 (c65 _ _ _ dn) ?_
 refine an ?_
 refine cu (λs=>s.t 0=vP 7059000 1 0/\s.t 2=vP 2 ((s1.h 2).1+1) 0/\s.t 5=vP 5 ((ao.h 5).1+1) 0/\s.h 2=(((s1.h 2).1+1),Pz)/\s.h 5=(((ao.h 5).1+1),oB 49 [cS aa.1.aGl,cS aa.1.Top,cS aa.1.aGf.aGl,cI aa.1.aGf.aG6,cI aa.1.aGf.aHC,cI (IntKind.i64.wrap (1+cc.2.2)),.row 700024 ((ao.h 700024).1+1),cS bq,cI br,.row 7050000 ah,.row 7050001 ai,.row 7050002 aj,cI bn,cS ay,.row 7050100 ae,cI az,cI ba,cI bd,cI bf,.row 7050101 af,cI bg,cI bh,cI aa.1.aHI,cB aa.1.aHE])/\s.h 700024=(((ao.h 700024).1+1),oW 193 2 M.aGo.en aa.1.aGi.aGi)/\s.h 7050000=(ah,oW 40 3 M.aD.en aq)/\s.h 7050001=(ai,oW 282 2 M.aO.en ar)/\s.h 7050002=(aj,oW 5 1 enB av)/\s.h 7050100=(ae,oW 284 4 M.aG1.en ak)/\s.h 7050101=(af,oW 211 7 M.bC.en al)/\s.h 7059000=(1,oB 182 [.old B0 (.sl (List.map enB p0.b)) (some u0),cI cc.1,cI cc.2.1])/\True) ?_
 rintro cq f180
 obtain ⟨dq,dr,h⟩:=bind_some h
 refine rn1 (aAS _ _ _ dr) ?_
 refine an (sq ?_)
 obtain ⟨ck,du,h⟩:=bind_some h
 refine rn1 (c65 _ _ _ du) ?_
 refine an (sq ?_)
 refine cu (λs=>s.t 0=vP 7059000 1 0/\s.t 2=vP 2 ((s1.h 2).1+1) 0/\s.t 5=vP 5 ((ao.h 5).1+1) 0/\s.h 2=(((s1.h 2).1+1),Pz)/\s.h 5=(((ao.h 5).1+1),oB 49 [cS aa.1.aGl,cS aa.1.Top,cS aa.1.aGf.aGl,cI aa.1.aGf.aG6,cI aa.1.aGf.aHC,cI (IntKind.i64.wrap (1+cc.2.2)),.row 100079 ((cq.h 100079).1+1),cS bq,cI br,.row 7050000 ah,.row 7050001 ai,.row 7050002 aj,cI bn,cS ay,.row 7050100 ae,cI az,cI ba,cI bd,cI bf,.row 7050101 af,cI bg,cI bh,cI ck.2.2,cB aa.1.aHE])/\s.h 100079=(((cq.h 100079).1+1),oW 193 2 M.aGo.en dq.1.aGi)/\s.h 7050000=(ah,oW 40 3 M.aD.en aq)/\s.h 7050001=(ai,oW 282 2 M.aO.en ar)/\s.h 7050002=(aj,oW 5 1 enB av)/\s.h 7050100=(ae,oW 284 4 M.aG1.en ak)/\s.h 7050101=(af,oW 211 7 M.bC.en al)/\s.h 7059000=(1,oB 182 [.old B0 (.sl (List.map enB p0.b)) (some u0),cI ck.1,cI ck.2.1])/\True) ?_
 rintro fm f197
 obtain ⟨fo,dw,h⟩:=bind_some h
 refine rn1 (c75 _ _ _ dw) ?_
 refine an (sq (rn ?_))
 refine an (rt ?_)
 cases h
 simp [Iq,Ret,TB,EN, *]
instance:bF 123 (type_of% @aDo):=⟨@aDo⟩
theorem aCv (p0 r) (h:AY p0=some r):Sc 215 [(false,[.ptr [.sl (List.map enB p0.b),.int .i64 p0.i,.int .i64 p0.h]])] [(false,[.edit (.lend 182 [.int .i64 r.1,.int .i64 r.2.1])]),(true,M.bW.rs r.2.2)]:=by
 unfold AY at h
 simp only [EN]
 refine sgB 22 [.cell 2 37] Tryz.func215 λbase wd B0 u0 hw0 => ?_
 refine eA (J:=λs=>s.t 0=vP 7059000 1 0/\s.h 7059000=(1,oB 182 [.old B0 (.sl (List.map enB p0.b)) (some u0),cI p0.i,cI p0.h])/\True) ?_ ?_
 ·and_intros<;>(try simp only [LN,List.map_cons,List.map_nil])<;>rfl
 rintro s1 f2
 have i1:=D5 [.b 3 2 7050000 40 3,.b 3 3 7050001 282 2,.b 3 4 7050002 5 1] λm s=>∃v4:Int,∃ao:ByteArray,∃aq:Int,∃ar:Int,∃aa:Int,∃ae:Int,∃af:List M.aD,∃ah:List M.aO,∃ai:List Int,∃aj:Nat,∃ak:Nat,∃al:Nat,(s.t 0=vP 7059000 1 0/\s.t 2=vP 2 ((s1.h 2).1+1) 0/\s.t 3=vP 3 ((s1.h 3).1+1) 0/\s.t 4=vI v4/\s.h 2=(((s1.h 2).1+1),aEA)/\s.h 3=(((s1.h 3).1+1),oB 37 [cS ao,cI aq,.row 7050000 aj,.row 7050001 ak,.row 7050002 al,cI ar])/\s.h 7050000=(aj,oW 40 3 M.aD.en af)/\s.h 7050001=(ak,oW 282 2 M.aO.en ah)/\s.h 7050002=(al,oW 5 1 enB ai)/\s.h 7059000=(1,oB 182 [.old B0 (.sl (List.map enB p0.b)) (some u0),cI aa,cI ae]))/\pE p0 m v4 ao aq ar aa ae af ah ai=some r
 have e1:=@pE.eq_2
 exact sgX
instance:bF 215 (type_of% @aCv):=⟨@aCv⟩
theorem aEW (p0 r) (h:BN p0=some r):Sc 125 [(false,[.ptr [.sl (List.map enB p0.b),.int .i64 p0.i,.int .i64 p0.h]])] [(false,[.edit (.lend 182 [.int .i64 r.1,.int .i64 r.2.1])]),(true,M.bW.rs r.2.2)]:=by
 unfold BN at h
 simp only [EN]
 refine sgB 38 [.cell 2 37] Tryz.func125 λbase wd B0 u0 hw0 => ?_
 refine eA (J:=λs=>s.t 0=vP 7059000 1 0/\s.h 7059000=(1,oB 182 [.old B0 (.sl (List.map enB p0.b)) (some u0),cI p0.i,cI p0.h])/\True) ?_ ?_
 ·and_intros<;>(try simp only [LN,List.map_cons,List.map_nil])<;>rfl
 rintro s1 f2
 exact sgX
instance:bF 125 (type_of% @aEW):=⟨@aEW⟩
theorem aCl (p0 r) (h:BI p0=some r):Sc 126 [(false,[.ptr [.sl (List.map enB p0.b),.int .i64 p0.i,.int .i64 p0.h]])] [(false,[.edit (.lend 182 [.int .i64 r.1,.int .i64 r.2.1])]),(true,M.aH.rs r.2.2)]:=by
 unfold BI at h
 simp only [EN]
 refine sgB 30 [.cell 2 47] Tryz.func126 λbase wd B0 u0 hw0 => ?_
 refine eA (J:=λs=>s.t 0=vP 7059000 1 0/\s.h 7059000=(1,oB 182 [.old B0 (.sl (List.map enB p0.b)) (some u0),cI p0.i,cI p0.h])/\True) ?_ ?_
 ·and_intros<;>(try simp only [LN,List.map_cons,List.map_nil])<;>rfl
 rintro s1 f2
 exact sgX
instance:bF 126 (type_of% @aCl):=⟨@aCl⟩
end Go.Proofs.YtipmihbgjolaaaaGreat.gen
