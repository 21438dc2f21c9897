/-
  Helper text. No conditions.
-/
import Derived.Test.YtjlnkcoeghonfaaGreatRunningPagesWspec12
set_option linter.all false
namespace Go.Proofs.YtjlnkcoeghonfaaGreat.gen
open Go Go.Sh Tryz
set_option maxRecDepth 20000
set_option maxHeartbeats 4000000
instance c7:bK 7 (∀p0 p1 r (h:uI p0 p1=some r),Sc 7 [aX (M.aD.en p0),aI p1] [(true,M.aD.rs r.1),rI r.2]):=⟨λp0 p1 r h=>by unfold uI at h;exact sgo 133 [.cell 4 50,.tmp 5] func7⟩
theorem aKV(p0 r)(h:C3 p0=some r):Sc 193 [(false,[.ptr [.sl (List.map enB p0.b),.int .i64 p0.i,.int .i64 p0.h]])] [(false,[.edit (.lend 256 [.int .i64 r.1,.int .i64 r.2.1])]),(true,M.aD.rs r.2.2)]:=by
 unfold C3 at h
 simp only[EN]
 refine sgB 22 [.cell 2 50] func193 λbase wd j u0 hw0=> ?_
 refine cY (J:=λs=>s.t 0=vP 7059000 1 0/\s.h 7059000=(1,oB 256 [.old j (.sl (List.map enB p0.b)) (some u0),cI p0.i,cI p0.h])/\True) ?_ ?_
 ·and_intros<;>(try simp only[LN,jI,jJ])<;>rfl
 rintro s1 f2
 have i1:=G8 [.b 3 3 7050000 84 24,.b 3 4 7050001 91 11,.b 3 6 7050002 144 4,.b 3 7 7050003 147 3,.b 3 8 7050004 151 4,.b 3 9 7050005 156 5] λm s=>∃v4:Int,∃ay:Int,∃az:Bool,∃ba:Int,∃bd:Int,∃C:Int,∃I:Int,∃U:List M.Bucket,∃ah:List M.bO,∃ai:List M.uY,∃aj:List M.Fy,∃ak:List M.aLa,∃al:List M.aLj,∃ao:Nat,∃aq:Nat,∃ar:Nat,∃av:Nat,∃aw:Nat,∃ax:Nat,(s.t 0=vP 7059000 1 0/\s.t 2=vP 2 ((s1.h 2).1+1) 0/\s.t 3=vP 3 ((s1.h 3).1+1) 0/\s.t 4=vI v4/\s.h 2=((s1.h 2).1+1,Vo)/\s.h 3=((s1.h 3).1+1,oB 50 [cI ay,cB az,cI ba,.row 7050000 ao,.row 7050001 aq,cI bd,.row 7050002 ar,.row 7050003 av,.row 7050004 aw,.row 7050005 ax])/\s.h 7050000=(ao,oW 84 24 M.Bucket.en U)/\s.h 7050001=(aq,oW 91 11 M.bO.en ah)/\s.h 7050002=(ar,oW 144 4 M.uY.en ai)/\s.h 7050003=(av,oW 147 3 M.Fy.en aj)/\s.h 7050004=(aw,oW 151 4 M.aLa.en ak)/\s.h 7050005=(ax,oW 156 5 M.aLj.en al)/\s.h 7059000=(1,oB 256 [.old j (.sl (List.map enB p0.b)) (some u0),cI C,cI I]))/\vU p0 m v4 ay az ba bd C I U ah ai aj ak al=some r
 have e1:=@vU.eq_2
 exact sgX
instance:bK 428 (∀p0 r (h:EL p0=some r),Sc 428 [(false,[.ptr [.sl (List.map enB p0.b),.int .i64 p0.i,.int .i64 p0.h]])] [(false,[.edit (.lend 256 [.int .i64 r.1,.int .i64 r.2.1])]),(true,M.Bucket.rs r.2.2)]):=⟨λp0 r h=>by
 unfold EL at h
 simp only[EN]
 refine sgB 50 [.cell 2 84] func428 λbase wd B0 u0 hw0=> ?_
 refine cY (J:=λs=>s.t 0=vP 7059000 1 0/\s.h 7059000=(1,oB 256 [.old B0 (.sl (List.map enB p0.b)) (some u0),cI p0.i,cI p0.h])/\True) ?_ ?_
 ·and_intros<;>(try simp only[LN,jI,jJ])<;>rfl
 rintro s1 f2
 have i1:=λ(x4:(Int×Int×M.Bucket)) (ae:(Int×Int×Int)) (aa:St)=>inv λm s=>∃r5:List Int,∃u5:Nat,(s.h 2000005=aa.h 2000005/\s.h 7059000=aa.h 7059000/\s.t 0=vP 7059000 1 0/\s.t 2=vP 2 ((s1.h 2).1+1) 0/\s.t 3=vP 3 ((s1.h 3).1+1) 0/\s.h 2=((s1.h 2).1+1,aFG)/\s.h 3=((s1.h 3).1+1,oB 84 [cS x4.2.2.aLa,cS x4.2.2.Top,cS x4.2.2.aLU.aLa,cI x4.2.2.aLU.aL0,cI x4.2.2.aLU.aL6,cI x4.2.2.aLU.aMA,.row 700005 ((s1.h 700005).1+1),cS x4.2.2.bP.aLq.Name,cI x4.2.2.bP.aLq.aLT,.row 1000005 ((s1.h 1000005).1+1),.row 1100005 ((s1.h 1100005).1+1),.row 1200005 u5,cI x4.2.2.bP.aL5,cS x4.2.2.aG.aLq.Name,.row 1500005 ((s1.h 1500005).1+1),cI x4.2.2.aG.aLq.aLx,cI x4.2.2.aG.aMG,cI x4.2.2.aG.aLs.aN.aLZ,cI x4.2.2.aG.aLs.aN.aL2,.row 2000005 ((s1.h 2000005).1+1),cI x4.2.2.aG.aLs.aL7,cI x4.2.2.aG.aLs.aLw,cI x4.2.2.aL1,cB x4.2.2.aLy])/\s.h 700005=((s1.h 700005).1+1,oW 277 2 M.aLi.en x4.2.2.aLW.aLW)/\s.h 1000005=((s1.h 1000005).1+1,oW 75 3 M.aE.en x4.2.2.bP.aLq.aLc)/\s.h 1100005=((s1.h 1100005).1+1,oW 382 2 M.aU.en x4.2.2.bP.aLq.aLm)/\s.h 1200005=(u5,oW 5 1 enB r5)/\s.h 1500005=((s1.h 1500005).1+1,oW 320 4 M.aLo.en x4.2.2.aG.aLq.aLV))/\sC x4 ae m r5=some r
 have e1:=@sC.eq_2
 exact sgX⟩
theorem aKT(p0 r)(h:yR p0=some r):Sc 307 [(false,[.ptr [.sl (List.map enB p0.b),.int .i64 p0.i,.int .i64 p0.h]])] [(false,[.edit (.lend 256 [.int .i64 r.1,.int .i64 r.2.1])]),(true,M.aC.rs r.2.2)]:=by
 unfold yR at h
 simp only[EN]
 refine sgB 29 [.cell 2 39] func307 λbase wd j u0 hw0=> ?_
 refine cY (J:=λs=>s.t 0=vP 7059000 1 0/\s.h 7059000=(1,oB 256 [.old j (.sl (List.map enB p0.b)) (some u0),cI p0.i,cI p0.h])/\True) ?_ ?_
 ·and_intros<;>(try simp only[LN,jI,jJ])<;>rfl
 rintro s1 f2
 have i1:=G8 [.b 3 0 7050000 84 24] λm s=>∃v4:Int,∃C:Int,∃I:Int,∃U:List M.Bucket,∃ah:Nat,(s.t 0=vP 7059000 1 0/\s.t 2=vP 2 ((s1.h 2).1+1) 0/\s.t 3=vP 3 ((s1.h 3).1+1) 0/\s.t 4=vI v4/\s.h 2=((s1.h 2).1+1,oB 39 [.nil])/\s.h 3=((s1.h 3).1+1,oB 39 [.row 7050000 ah])/\s.h 7050000=(ah,oW 84 24 M.Bucket.en U)/\s.h 7059000=(1,oB 256 [.old j (.sl (List.map enB p0.b)) (some u0),cI C,cI I]))/\mF p0 m v4 C I U=some r
 have e1:=@mF.eq_2
 exact sgX
instance:bK 75 (∀p0 r (h:ES p0=some r),Sc 75 [(false,[.ptr [.sl (List.map enB p0.b),.int .i64 p0.i,.int .i64 p0.h]])] [(false,[.edit (.lend 256 [.int .i64 r.1,.int .i64 r.2.1])]),(true,M.aD.rs r.2.2)]):=⟨λp0 r h=>by
 unfold ES at h
 simp only[EN]
 refine sgB 13 [.cell 2 50] func75 λbase wd B0 u0 hw0 => ?_
 refine cY (J:=λs=>s.t 0=vP 7059000 1 0/\s.h 7059000=(1,oB 256 [.old B0 (.sl (List.map enB p0.b)) (some u0),cI p0.i,cI p0.h])/\True) ?_ ?_
 ·and_intros<;>(try simp only[LN,jI,jJ])<;>rfl
 rintro s1 f2
 refine sq ?_
 refine xn ?_
 refine an (sq ?_)
 obtain⟨x4,h5,h⟩:=aA h
 refine xn1 (aKV _ _ h5) ?_
 refine an (sq ?_)
 obtain⟨V2,eV2⟩:=nmH (((s1.h 400005).1+1,oW 84 24 M.Bucket.en x4.2.2.aC.Buckets))
 obtain⟨V3,eV3⟩:=nmH (((s1.h 800005).1+1,oW 147 3 M.Fy.en x4.2.2.aLe.aL8))
 obtain⟨V4,eV4⟩:=nmH (((s1.h 700005).1+1,oW 144 4 M.uY.en x4.2.2.aLk.aLk))
 obtain⟨V5,eV5⟩:=nmH (((s1.h 1000005).1+1,oW 156 5 M.aLj.en x4.2.2.aLh))
 obtain⟨V6,eV6⟩:=nmH (((s1.h 500005).1+1,oW 91 11 M.bO.en x4.2.2.aLf))
 obtain⟨V7,eV7⟩:=nmH (((s1.h 900005).1+1,oW 151 4 M.aLa.en x4.2.2.aLp))
 obtain⟨V8,eV8⟩:=nmH (((s1.h 2).1+1,Vo))
 obtain⟨V9,eV9⟩:=nmT (vP 2 ((s1.h 2).1+1) 0)
 obtain⟨V10,eV10⟩:=nmT (vP 7059000 1 0)
 refine cY (J:=λs=>s.t 0=V10/\s.t 2=V9/\s.t 3=vP 3 ((s1.h 3).1+1) 0/\s.h 2=V8/\s.h 3=((s1.h 3).1+1,oB 50 [cI x4.2.2.Now,cB x4.2.2.aLt,cI x4.2.2.aLZ,.row 400005 ((s1.h 400005).1+1),.row 500005 ((s1.h 500005).1+1),cI x4.2.2.aLd,.row 700005 ((s1.h 700005).1+1),.row 800005 ((s1.h 800005).1+1),.row 900005 ((s1.h 900005).1+1),.row 1000005 ((s1.h 1000005).1+1)])/\s.h 400005=V2/\s.h 500005=V6/\s.h 700005=V4/\s.h 800005=V3/\s.h 900005=V7/\s.h 1000005=V5/\s.h 7059000=(1,oB 256 [.old B0 (.sl (List.map enB p0.b)) (some u0),cI x4.1,cI x4.2.1])/\True) zM ?_
 rintro s6 f7
 obtain⟨aa,ax,h⟩:=aA h
 refine xn1 (c76.1 _ _ _ ax) ?_
 refine an (sq ?_)
 obtain⟨V1,eV1⟩:=nmH ((1,oB 256 [.old B0 (.sl (List.map enB p0.b)) (some u0),cI aa.1,cI aa.2.1]))
 refine cY (J:=λs=>s.t 0=V10/\s.t 2=V9/\s.t 3=vP 3 ((s1.h 3).1+1) 0/\s.h 2=V8/\s.h 3=((s1.h 3).1+1,oB 50 [cI x4.2.2.Now,cB (!aa.2.2),cI x4.2.2.aLZ,.row 400005 ((s1.h 400005).1+1),.row 500005 ((s1.h 500005).1+1),cI x4.2.2.aLd,.row 700005 ((s1.h 700005).1+1),.row 800005 ((s1.h 800005).1+1),.row 900005 ((s1.h 900005).1+1),.row 1000005 ((s1.h 1000005).1+1)])/\s.h 400005=V2/\s.h 500005=V6/\s.h 700005=V4/\s.h 800005=V3/\s.h 900005=V7/\s.h 1000005=V5/\s.h 7059000=V1/\True) zM ?_
 rintro bn f22
 apply Sd (n:=2) (f:=194) (d:=12) (N':=47) (vars:=[.cell 4 50]) rfl rfl rfl rfl wh func194 rfl rfl rfl wM wh
 ·simp +decide only[LN,LI,E,reduceIte,Nat.reduceAdd,Nat.reduceMul,qB,qC,L,Ir,EN, *,-h];exact Is.mk _
 intro fv
 refine cY (J:=λs=>s.t 0=V10/\s.t 1 = .v true [.dat (.int .i64 x4.2.2.Now),.dat (.bool (!aa.2.2)),.dat (.int .i64 x4.2.2.aLZ),.row 400005 ((s1.h 400005).1+1),.row 500005 ((s1.h 500005).1+1),.dat (.int .i64 x4.2.2.aLd),.row 700005 ((s1.h 700005).1+1),.row 800005 ((s1.h 800005).1+1),.row 900005 ((s1.h 900005).1+1),.row 1000005 ((s1.h 1000005).1+1)]/\s.fr 0=vP 7059000 1 0/\s.fr 2=vP 2 ((s1.h 2).1+1) 0/\s.h 2=V8/\s.h 400005=V2/\s.h 500005=V6/\s.h 700005=V4/\s.h 800005=V3/\s.h 900005=V7/\s.h 1000005=V5/\s.h 7059000=V1/\True) zM ?_
 rintro aq f35
 refine sq ?_
 refine xn ?_
 refine an (sq (sq ?_))
 obtain⟨af,ay,h⟩:=aA h
 refine xn1 (c77.1 _ _ _ ay) ?_
 refine an (bk (sq ?_))
 refine cY (J:=λs=>s.t 0=V10/\s.t 3=vP 3 ((aq.h 3).1+1) 0/\s.t 4=vP 4 ((aq.h 4).1+1) 0/\s.t 6=vI af.2.2/\s.fr 0=vP 7059000 1 0/\s.fr 2=vP 2 ((s1.h 2).1+1) 0/\s.h 2=V8/\s.h 3=((aq.h 3).1+1,oB 50 [cI x4.2.2.Now,cB (!aa.2.2),cI x4.2.2.aLZ,.row 400005 ((s1.h 400005).1+1),.row 500005 ((s1.h 500005).1+1),cI x4.2.2.aLd,.row 700005 ((s1.h 700005).1+1),.row 800005 ((s1.h 800005).1+1),.row 900005 ((s1.h 900005).1+1),.row 1000005 ((s1.h 1000005).1+1)])/\s.h 4=((aq.h 4).1+1,Vo)/\s.h 400005=V2/\s.h 500005=V6/\s.h 700005=V4/\s.h 800005=V3/\s.h 900005=V7/\s.h 1000005=V5/\s.h 7059000=(1,oB 256 [.old B0 (.sl (List.map enB p0.b)) (some u0),cI af.1,cI af.2.1])/\True) zM ?_
 rintro aw f50
 refine xn ?_
 refine an ?_
 rcases dX (af.2.2==0)with ae | ae
 ·replace h:=bN ae h;refine BA zM ?_;obtain⟨az,ba,h⟩:=aA h;refine xn1 (aDL.1 _ _ _ ba) ?_;refine ab (an (sq ?_));refine xn ?_;refine an (rt ?_);apply VM.mk (l:=[(true,[.dat (.int .i64 az.2.2),.dat (.bool (!aa.2.2)),.dat (.int .i64 x4.2.2.aLZ),.row 400005 ((s1.h 400005).1+1),.row 500005 ((s1.h 500005).1+1),.dat (.int .i64 x4.2.2.aLd),.row 700005 ((s1.h 700005).1+1),.row 800005 ((s1.h 800005).1+1),.row 900005 ((s1.h 900005).1+1),.row 1000005 ((s1.h 1000005).1+1)])]) (by simp[LN,LI,Ir,EN,f50,ae,eV2,eV3,eV4,eV5,eV6,eV7,eV8,eV9,eV10,eV1]);(simp +decide only[MC,LN,LI,E,reduceIte,Nat.reduceAdd,Nat.reduceMul,qB,qC,L,Ir,EN, *,-h];exact Is.mk _);refine an (rt ?_);cases h;simp[Mi,Ret,LN,LI,TB,EN, *]
 replace h:=bM ae h
 refine Co zM ?_
 refine sq ?_
 refine xn ?_
 refine an ?_
 rcases dX (af.2.2==1)with ah | ah
 ·replace h:=bN ah h;refine BA zM ?_;refine xn ?_;refine ab (an (sq ?_));refine xn ?_;refine an (rt ?_);apply VM.mk (l:=[(true,[.dat (.int .i64 x4.2.2.Now),.dat (.bool (!aa.2.2)),.dat (.int .i64 0),.row 400005 ((s1.h 400005).1+1),.row 500005 ((s1.h 500005).1+1),.dat (.int .i64 x4.2.2.aLd),.row 700005 ((s1.h 700005).1+1),.row 800005 ((s1.h 800005).1+1),.row 900005 ((s1.h 900005).1+1),.row 1000005 ((s1.h 1000005).1+1)])]) (by simp[LN,LI,Ir,EN,f50,ae,ah,eV2,eV3,eV4,eV5,eV6,eV7,eV8,eV9,eV10,eV1]);(simp +decide only[MC,LN,LI,E,reduceIte,Nat.reduceAdd,Nat.reduceMul,qB,qC,L,Ir,EN, *,-h];exact Is.mk _);refine an (rt ?_);cases h;simp[Mi,Ret,LN,LI,TB,EN, *]
 replace h:=bM ah h
 refine Co zM ?_
 refine sq ?_
 refine xn ?_
 refine an ?_
 rcases dX (af.2.2==2)with ai | ai
 ·replace h:=bN ai h
  refine BA zM ?_
  obtain⟨bo,ar,h⟩:=aA h
  apply Bk
  ·simp +decide only[LN,LI,E,reduceIte,Nat.reduceAdd,Nat.reduceMul,qB,qC,<-List.map_take,<-List.map_drop,L,aFB,Ir,aCU,M.aLa.en,EN, *,-h]
   refine⟨by first | exact xZ ar | exact(xZ ar).2 | exact(xZ ar).2.2,?_⟩
   try simp +decide only[LN,LI,E,reduceIte,Nat.reduceAdd,Nat.reduceMul,qB,qC,<-List.map_take,<-List.map_drop,L,aFB,Ir,aCU,M.aLa.en,EN, *,-h]
   exact Is.mk _
  refine ab (an (sq ?_))
  refine xn ?_
  refine an (rt ?_)
  apply VM.mk (l:=[(true,[.dat (.int .i64 x4.2.2.Now),.dat (.bool (!aa.2.2)),.dat (.int .i64 x4.2.2.aLZ),.row 400005 ((s1.h 400005).1+1),.row 500005 ((s1.h 500005).1+1),.dat (.int .i64 x4.2.2.aLd),.row 700005 ((s1.h 700005).1+1),.row 800005 ((s1.h 800005).1+1),.part 900005 ((s1.h 900005).1+1) 0 (2:Int).toNat,.row 1000005 ((s1.h 1000005).1+1)])]) (by simp[LN,LI,Ir,EN,f50,ae,ah,ai,eV2,eV3,eV4,eV5,eV6,eV7,eV8,eV9,eV10,eV1])
  ·simp +decide only[MC,LN,LI,E,reduceIte,Nat.reduceAdd,Nat.reduceMul,qB,qC,L,Ir,EN, *,-h];exact Is.mk _
  refine an ?_
  refine Ey (Gho.Zm (b:=2) (vb:=(s1.h 2).1+1) (t:=50) (cells:=[.dat (.int .i64 x4.2.2.Now),.dat (.bool (!aa.2.2)),.dat (.int .i64 x4.2.2.aLZ),.row 400005 ((s1.h 400005).1+1),.row 500005 ((s1.h 500005).1+1),.dat (.int .i64 x4.2.2.aLd),.row 700005 ((s1.h 700005).1+1),.row 800005 ((s1.h 800005).1+1),.part 900005 ((s1.h 900005).1+1) 0 (2:Int).toNat,.row 1000005 ((s1.h 1000005).1+1)]) (c:=8) (j:=900005) (vj:=(s1.h 900005).1+1) (K:=900005) (n:=(2:Int).toNat) (e:=151) (sz:=4) (dp:=true) (xs:=List.map M.aLa.en x4.2.2.aLp) (List.map M.aLa.en (List.take (2:Int).toNat x4.2.2.aLp)) zM rfl zM wh (by rw[qU];exact(xZ ar).2) (by rw[List.map_take])) ?_
  refine cY (J:=λs=>s.h 7059000=aw.h 7059000/\s.t 0=V10/\s.t 2=V9/\s.h 2=((s1.h 2).1+1,oB 50 [cI x4.2.2.Now,cB (!aa.2.2),cI x4.2.2.aLZ,.row 400005 ((s1.h 400005).1+1),.row 500005 ((s1.h 500005).1+1),cI x4.2.2.aLd,.row 700005 ((s1.h 700005).1+1),.row 800005 ((s1.h 800005).1+1),.row 900005 (((s1.h 900005).1+1)+1),.row 1000005 ((s1.h 1000005).1+1)])/\s.h 400005=V2/\s.h 500005=V6/\s.h 700005=V4/\s.h 800005=V3/\s.h 900005=(((s1.h 900005).1+1)+1,oW 151 4 M.aLa.en (List.take (2:Int).toNat x4.2.2.aLp))/\s.h 1000005=V5/\True) zM ?_
  rintro bq ⟨f83,f74⟩
  replace f83:=f83.trans f50.2.2.2.2.2.2.2.2.2.2.2.2.2.2.2.1
  refine rt ?_
  cases h
  simp[Mi,Ret,LN,LI,TB,EN, *]
 replace h:=bM ai h
 refine Co zM ?_
 refine sq ?_
 refine xn ?_
 refine an ?_
 rcases dX (af.2.2==3)with aj | aj
 ·replace h:=bN aj h;refine BA zM ?_;obtain⟨br,bd,h⟩:=aA h;refine xn1 (aKT _ _ bd) ?_;refine ab (an (sq ?_));refine xn ?_;refine an (rt ?_);apply VM.mk (l:=[(true,[.dat (.int .i64 x4.2.2.Now),.dat (.bool (!aa.2.2)),.dat (.int .i64 x4.2.2.aLZ),.row 100025 ((aw.h 100025).1+1),.row 500005 ((s1.h 500005).1+1),.dat (.int .i64 x4.2.2.aLd),.row 700005 ((s1.h 700005).1+1),.row 800005 ((s1.h 800005).1+1),.row 900005 ((s1.h 900005).1+1),.row 1000005 ((s1.h 1000005).1+1)])]) (by simp[LN,LI,Ir,EN,f50,ae,ah,ai,aj,eV2,eV3,eV4,eV5,eV6,eV7,eV8,eV9,eV10,eV1]);(simp +decide only[MC,LN,LI,E,reduceIte,Nat.reduceAdd,Nat.reduceMul,qB,qC,L,Ir,EN, *,-h];exact Is.mk _);refine an (rt ?_);cases h;simp[Mi,Ret,LN,LI,TB,EN, *]
 replace h:=bM aj h
 refine Co zM ?_
 refine sq ?_
 refine xn ?_
 refine an ?_
 rcases dX (af.2.2==4)with ak | ak
 ·replace h:=bN ak h
  refine BA zM ?_
  obtain⟨bt,bf,h⟩:=aA h
  obtain⟨bu,bg,h⟩:=aA h
  apply D8 mixed
  ·simp +decide only[LN,LI,E,reduceIte,Nat.reduceAdd,Nat.reduceMul,qB,qC,L,aBc,Ir,aBN,M.bO.en,EN, *,-h]
   refine⟨_,aLE _ _ bf,?_⟩
   try simp +decide only[LN,LI,E,reduceIte,Nat.reduceAdd,Nat.reduceMul,qB,qC,L,aBc,Ir,aBN,M.bO.en,EN, *,-h]
   refine⟨by(have hb:=fP bg);simp[M.bO.en,qE,aP]at hb ⊢ <;> omega,?_⟩
   try simp +decide only[LN,LI,E,reduceIte,Nat.reduceAdd,Nat.reduceMul,qB,qC,L,aBc,Ir,aBN,M.bO.en,EN, *,-h]
   exact⟨.mk wM,Is.mk _⟩
  refine ab (an (sq ?_))
  refine xn ?_
  refine an (rt ?_)
  apply VM.mk (l:=[(true,[.dat (.int .i64 x4.2.2.Now),.dat (.bool (!aa.2.2)),.dat (.int .i64 x4.2.2.aLZ),.row 400005 ((s1.h 400005).1+1),.row 500005 (((s1.h 500005).1+1)+1),.dat (.int .i64 x4.2.2.aLd),.row 700005 ((s1.h 700005).1+1),.row 800005 ((s1.h 800005).1+1),.row 900005 ((s1.h 900005).1+1),.row 1000005 ((s1.h 1000005).1+1)])]) (by simp[LN,LI,Ir,EN,f50,ae,ah,ai,aj,ak,eV2,eV3,eV4,eV5,eV6,eV7,eV8,eV9,eV10,eV1])
  ·simp +decide only[MC,LN,LI,E,reduceIte,Nat.reduceAdd,Nat.reduceMul,qB,qC,L,Ir,EN, *,-h];exact Is.mk _
  refine an (rt ?_)
  cases h
  simp[Mi,Ret,LN,LI,TB,EN, *]
 replace h:=bM ak h
 refine Co zM ?_
 refine sq ?_
 refine xn ?_
 refine an ?_
 rcases dX (af.2.2==5)with al | al
 ·replace h:=bN al h;refine BA zM ?_;refine xn ?_;refine ab (an (sq ?_));refine xn ?_;refine an (rt ?_);apply VM.mk (l:=[(true,[.dat (.int .i64 x4.2.2.Now),.dat (.bool (!aa.2.2)),.dat (.int .i64 x4.2.2.aLZ),.row 400005 ((s1.h 400005).1+1),.row 500005 ((s1.h 500005).1+1),.dat (.int .i64 0),.row 700005 ((s1.h 700005).1+1),.row 800005 ((s1.h 800005).1+1),.row 900005 ((s1.h 900005).1+1),.row 1000005 ((s1.h 1000005).1+1)])]) (by simp[LN,LI,Ir,EN,f50,ae,ah,ai,aj,ak,al,eV2,eV3,eV4,eV5,eV6,eV7,eV8,eV9,eV10,eV1]);(simp +decide only[MC,LN,LI,E,reduceIte,Nat.reduceAdd,Nat.reduceMul,qB,qC,L,Ir,EN, *,-h];exact Is.mk _);refine an (rt ?_);cases h;simp[Mi,Ret,LN,LI,TB,EN, *]
 replace h:=bM al h
 refine Co zM ?_
 refine sq ?_
 refine xn ?_
 refine an ?_
 rcases Dz (af.2.2==6)with ao | ao
 ·replace h:=bM ao h;refine Co zM ?_;refine sk (ab (an (sq ?_)));refine xn ?_;refine an (rt ?_);apply VM.mk (l:=[(true,[.dat (.int .i64 x4.2.2.Now),.dat (.bool (!aa.2.2)),.dat (.int .i64 x4.2.2.aLZ),.row 400005 ((s1.h 400005).1+1),.row 500005 ((s1.h 500005).1+1),.dat (.int .i64 x4.2.2.aLd),.row 700005 ((s1.h 700005).1+1),.row 800005 ((s1.h 800005).1+1),.row 900005 ((s1.h 900005).1+1),.row 1000005 ((s1.h 1000005).1+1)])]) (by simp[LN,LI,Ir,EN,f50,ae,ah,ai,aj,ak,al,ao,eV2,eV3,eV4,eV5,eV6,eV7,eV8,eV9,eV10,eV1]);(simp +decide only[MC,LN,LI,E,reduceIte,Nat.reduceAdd,Nat.reduceMul,qB,qC,L,Ir,EN, *,-h];exact Is.mk _);refine an (rt ?_);cases h;simp[Mi,Ret,LN,LI,TB,EN, *]
 replace h:=bN ao h
 refine BA zM ?_
 obtain⟨bw,bh,h⟩:=aA h
 obtain⟨bx,bj,h⟩:=aA h
 obtain⟨bl,bm,av⟩:=nJ bj
 refine xd1 mixed (aLR _ _ bh) ?_
 refine ab (an (sq ?_))
 refine xn ?_
 refine an (rt ?_)
 apply VM.mk (l:=[(true,[.dat (.int .i64 x4.2.2.Now),.dat (.bool (!aa.2.2)),.dat (.int .i64 x4.2.2.aLZ),.row 400005 ((s1.h 400005).1+1),.row 500005 ((s1.h 500005).1+1),.dat (.int .i64 x4.2.2.aLd),.row 700005 ((s1.h 700005).1+1),.row 800005 ((s1.h 800005).1+1),.row 900005 ((s1.h 900005).1+1),.row 1000005 ((s1.h 1000005).1+1)])]) (by simp[LN,LI,Ir,EN,f50,ae,ah,ai,aj,ak,al,ao,bl,bm,av,eV2,eV3,eV4,eV5,eV6,eV7,eV8,eV9,eV10,eV1])
 ·simp +decide only[MC,LN,LI,E,reduceIte,Nat.reduceAdd,Nat.reduceMul,qB,qC,L,Ir,EN, *,-h];exact Is.mk _
 refine an (rt ?_)
 cases h
 simp[Mi,Ret,LN,LI,TB,EN, *]⟩
theorem c16(p0 r)(h:zP p0=some r):Sc 16 [aL enB p0] [(true,M.aD.rs r.1),rI r.2]:=by unfold zP at h;exact sgo 33 [.cell 2 50,.tmp 3] func16
theorem c13(p0 p1 r)(h:DF p0 p1=some r):Sc 13 [aX (M.aD.en p0),aI p1] [(true,M.aD.rs r)]:=by
 have i1:=G8 [.b 5 3 7050000 84 24,.b 5 4 7050001 91 11,.b 5 6 7050002 144 4,.b 5 7 7050003 147 3,.b 5 8 7050004 151 4,.b 5 9 7050005 156 5] λm s=>∃v6:Int,∃aw:Int,∃ax:Bool,∃ay:Int,∃az:Int,∃j:List M.Bucket,∃C:List M.bO,∃I:List M.uY,∃J:List M.Fy,∃U:List M.aLa,∃aj:List M.aLj,∃ak:Nat,∃al:Nat,∃ao:Nat,∃aq:Nat,∃ar:Nat,∃av:Nat,(s.t 1=vI p1/\s.t 4=vP 4 1 0/\s.t 5=vP 5 1 0/\s.t 6=vI v6/\s.h 4=(1,Vo)/\s.h 5=(1,oB 50 [cI aw,cB ax,cI ay,.row 7050000 ak,.row 7050001 al,cI az,.row 7050002 ao,.row 7050003 aq,.row 7050004 ar,.row 7050005 av])/\s.h 7050000=(ak,oW 84 24 M.Bucket.en j)/\s.h 7050001=(al,oW 91 11 M.bO.en C)/\s.h 7050002=(ao,oW 144 4 M.uY.en I)/\s.h 7050003=(aq,oW 147 3 M.Fy.en J)/\s.h 7050004=(ar,oW 151 4 M.aLa.en U)/\s.h 7050005=(av,oW 156 5 M.aLj.en aj))/\tA p1 m v6 aw ax ay az j C I J U aj=some r
 have e1:=@tA.eq_2
 unfold DF at h
 exact sgo 26 [.cell 4 50] func13
