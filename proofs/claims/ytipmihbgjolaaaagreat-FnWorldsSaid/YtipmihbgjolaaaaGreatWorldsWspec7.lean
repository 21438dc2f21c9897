/-
  Helper text. No conditions.
-/
import Derived.Test.YtipmihbgjolaaaaGreatWorldsTi
import Derived.Test.YtipmihbgjolaaaaGreatWorldsWspec0
import Derived.Test.YtipmihbgjolaaaaGreatWorldsWspec1
import Derived.Test.YtipmihbgjolaaaaGreatWorldsWspec2
import Derived.Test.YtipmihbgjolaaaaGreatWorldsWspec3
import Derived.Test.YtipmihbgjolaaaaGreatWorldsWspec4
import Derived.Test.YtipmihbgjolaaaaGreatWorldsWspec5
import Derived.Test.YtipmihbgjolaaaaGreatWorldsWspec6
set_option linter.unusedVariables false
set_option linter.unusedSimpArgs false
namespace Go.Proofs.YtipmihbgjolaaaaGreat.gen
open Go Go.Sh
set_option maxRecDepth 20000
set_option maxHeartbeats 4000000
theorem Yc (p0 r) (h:xH p0=some r):Sc 238 [aX (M.aO.en p0)] [rI r]:=by unfold xH at h;exact sgo 23 [.tmp 2] Tryz.func238
instance:cA 238 (type_of% @Yc):=⟨@Yc⟩
theorem WL (p0 p1 r) (h:xR p0 p1=some r):Sc 343 [aX (M.aAA.en p0),aX (M.Op.en p1)] [(true,M.aAA.rs r.1),rI r.2.1,rB r.2.2]:=by unfold xR at h;exact sgo 58 [.cell 4 35,.tmp 5,.tmp 6] Tryz.func343
instance:cA 343 (type_of% @WL):=⟨@WL⟩
theorem Wo (p0 r) (h:wK p0=some r):Sc 284 [aX (M.aG.en p0)] [(true,M.aA.rs r)]:=by unfold wK at h;exact sgo 10 [.cell 2 40] Tryz.func284
instance:cA 284 (type_of% @Wo):=⟨@Wo⟩
theorem WE (p0 p1 r) (h:jE p0 p1=some r):Sc 351 [aX (M.aAA.en p0),aX (M.iW.en p1)] [(true,M.aAA.rs r.1),rB r.2]:=by
 unfold jE at h
 simp only [EN]
 refine sgn 130 [.cell 4 35,.tmp 5] Tryz.func351 λbase wd => ?_
 refine sq (rn ?_)
 refine an (sq ?_)
 obtain ⟨x1,h2,h⟩:=bind_some h
 refine rn1 (SR _ _ h2) ?_
 refine an (sq ?_)
 obtain ⟨x3,h4,h⟩:=bind_some h
 refine rn1 (V4 _ _ _ h4) ?_
 refine an (sq ?_)
 obtain ⟨x5,h6,h⟩:=bind_some h
 refine rn1 (Zw _ _ _ h6) ?_
 refine an (sq (bk ?_))
 obtain ⟨x7,h8,h⟩:=bind_some h
 refine sJ (λs=>s.t 2=vP 2 1 0/\s.t 3=vP 3 1 0/\s.t 4=vP 4 1 0/\s.t 6=vP 6 1 0/\s.t 7=vI x3/\s.t 8=vI x5/\s.t 21=vB x7/\s.h 2=(1,oX 35 (M.aAA.en p0))/\s.h 3=(1,oX 380 (M.iW.en p1))/\s.h 4=(1,H5)/\s.h 6=(1,oB 35 [cS x1.Name,cI x1.aAB,.row 300012 1,.row 400012 1])/\s.h 300012=(1,oW 40 3 M.aA.en x1.aAH)/\s.h 400012=(1,oW 282 2 M.aN.en x1.aAS)/\True) ?_ ?_
 ·replace h:=h8;clear h8;rcases nY (p1.aAV==1) with cn | cn;(replace h:=cF cn h;refine rn ?_;cases h;refine gF ⟨?_,?_,?_,?_,?_,?_,?_,?_,?_,?_,?_,?_,?_,trivial⟩<;>(try simp +decide only [F,reduceIte,Nat.reduceAdd,qB,qC,EN, *,-h]));replace h:=cE cn h;refine rn ?_;cases h;refine gF ⟨?_,?_,?_,?_,?_,?_,?_,?_,?_,?_,?_,?_,?_,trivial⟩<;>(try simp +decide only [F,reduceIte,Nat.reduceAdd,qB,qC,EN, *,-h])
 clear h8
 rintro s9 f10
 rcases nY x7 with ah | ah
 ·replace h:=cF ah h
  refine ct (sq (rn ?_))
  refine an (sq (bk ?_))
  refine ES (λm s=>∃v9:Int,s.t 2=vP 2 1 0/\s.t 3=vP 3 1 0/\s.t 4=vP 4 1 0/\s.t 6=vP 6 1 0/\s.t 9=vI v9/\s.h 2=(1,oX 35 (M.aAA.en p0))/\s.h 3=(1,oX 380 (M.iW.en p1))/\s.h 4=(1,H5)/\s.h 6=(1,oB 35 [cS x1.Name,cI x1.aAB,.row 300012 1,.row 400012 1])/\s.h 300012=(1,oW 40 3 M.aA.en x1.aAH)/\s.h 400012=(1,oW 282 2 M.aN.en x1.aAS)/\lH p0 p1 x1 m v9=some r) fuel ?_ ?_
  ·refine ⟨0,?_,?_,?_,?_,?_,?_,?_,?_,?_,?_,?_,h⟩;all_goals simp +decide only [F,reduceIte,Nat.reduceAdd,qB,qC,EN, *,-h]
  rintro mL1 fx ⟨v9,f26,f27,f28,f29,f30,f31,f32,f33,f34,f35,f36,h⟩
  rcases mL1 with _ | mL1
  ·exact absurd h (by simp [lH])
  simp only [lH] at h
  refine sq ?_
  obtain ⟨dr,cp,h⟩:=bind_some h
  refine sJ (λs=>s.t 2=vP 2 1 0/\s.t 3=vP 3 1 0/\s.t 4=vP 4 1 0/\s.t 6=vP 6 1 0/\s.t 9=vI v9/\s.t 44=vB dr/\s.h 2=(1,oX 35 (M.aAA.en p0))/\s.h 3=(1,oX 380 (M.iW.en p1))/\s.h 4=(1,H5)/\s.h 6=(1,oB 35 [cS x1.Name,cI x1.aAB,.row 300012 1,.row 400012 1])/\s.h 300012=(1,oW 40 3 M.aA.en x1.aAH)/\s.h 400012=(1,oW 282 2 M.aN.en x1.aAS)/\True) ?_ ?_
  ·replace h:=cp;clear cp;rcases zD (decide (v9<(List.length p0.aAH:Int))) with cq | cq;(replace h:=cE cq h;refine rd mixed ?_;cases h;refine gF ⟨?_,?_,?_,?_,?_,?_,?_,?_,?_,?_,?_,?_,trivial⟩<;>(try simp +decide only [F,reduceIte,Nat.reduceAdd,qB,qC,EN, *,-h]));replace h:=cF cq h;obtain ⟨fy,dw,h⟩:=bind_some h;obtain ⟨fz,g0,g7⟩:=tT dw;refine rd mixed ?_;cases h;refine gF ⟨?_,?_,?_,?_,?_,?_,?_,?_,?_,?_,?_,?_,trivial⟩<;>(try simp +decide only [F,reduceIte,Nat.reduceAdd,qB,qC,EN, *,-h])
  clear cp
  rintro br f40
  rcases nY dr with ak | ak
  ·replace h:=cF ak h;refine ct (sk (an (bk (rn ?_))));refine ab ?_;refine gF ⟨mL1,qb,(IntKind.i64.wrap (v9+1)),?_,?_,?_,?_,?_,?_,?_,?_,?_,?_,?_,h⟩;all_goals simp +decide only [F,reduceIte,Nat.reduceAdd,qB,qC,EN, *,-h]
  replace h:=cE ak h
  refine cf (xt (BA (Br (E7 (an (sq ?_))))))
  obtain ⟨g8,bt,h⟩:=bind_some h
  obtain ⟨g9,dx,h⟩:=bind_some h
  apply bW
  ·simp +decide only [E,reduceIte,Nat.reduceAdd,Nat.reduceMul,qB,qC,<-List.map_take,<-List.map_drop,L,TP,PD,TJ,M.aA.en,EN,ah,f40,ak]
   refine ⟨by first | exact sK bt | exact (sK bt).2 | exact (sK bt).2.2,?_⟩
   try simp +decide only [E,reduceIte,Nat.reduceAdd,Nat.reduceMul,qB,qC,<-List.map_take,<-List.map_drop,L,TP,PD,TJ,M.aA.en,EN,ah,f40,ak]
   refine ⟨by (have hb:=fJ dx);simp [M.aA.en,qE,aP,<-List.map_take,<-List.map_drop,-List.map_take,-List.map_drop] at hb ⊢ <;> omega,?_⟩
   try simp +decide only [E,reduceIte,Nat.reduceAdd,Nat.reduceMul,qB,qC,<-List.map_take,<-List.map_drop,L,TP,PD,TJ,M.aA.en,EN,ah,f40,ak]
   exact Is.mk _
  refine an (sq ?_)
  refine cu (λs=>s.t 2=vP 2 1 0/\s.t 3=vP 3 1 0/\s.t 4=vP 4 1 0/\s.t 6=vP 6 1 0/\s.t 9=vI v9/\s.t 10=vR 100047 (((br.h 100047).1+1)+1)/\s.h 2=(1,oX 35 (M.aAA.en p0))/\s.h 3=(1,oX 380 (M.iW.en p1))/\s.h 4=(1,H5)/\s.h 6=(1,oB 35 [cS x1.Name,cI x1.aAB,.row 300012 1,.row 400012 1])/\s.h 100047=((((br.h 100047).1+1)+1),oW 40 3 M.aA.en (List.take v9.toNat x1.aAH))/\s.h 300012=(1,.row 40 3 (Gv 3 0 v9.toNat (List.map M.aA.en x1.aAH)) true)/\s.h 400012=(1,oW 282 2 M.aN.en x1.aAS)/\True) ?_
  rintro ga f64
  obtain ⟨gb,dy,h⟩:=bind_some h
  refine rn1 dy ?_
  refine an ?_
  refine cu (λs=>s.t 2=vP 2 1 0/\s.t 4=vP 4 1 0/\s.t 6=vP 6 1 0/\s.t 9=vI v9/\s.t 10=vR 100047 ((((br.h 100047).1+1)+1)+1)/\s.h 2=(1,oX 35 (M.aAA.en p0))/\s.h 4=(1,H5)/\s.h 6=(1,oB 35 [cS x1.Name,cI x1.aAB,.row 300012 1,.row 400012 1])/\s.h 100047=(((((br.h 100047).1+1)+1)+1),oW 40 3 M.aA.en ((List.take v9.toNat x1.aAH)++[(⟨p1.aA,([]:List M.aAQ),0⟩:M.aA)]))/\s.h 300012=(1,.row 40 3 (Gv 3 0 v9.toNat (List.map M.aA.en x1.aAH)) true)/\s.h 400012=(1,oW 282 2 M.aN.en x1.aAS)/\True) ?_
  rintro gd f80
  obtain ⟨gh,dz,h⟩:=bind_some h
  apply bW
  ·simp +decide only [E,reduceIte,Nat.reduceAdd,Nat.reduceMul,qB,qC,<-List.map_take,<-List.map_drop,L,TP,PD,TJ,M.aA.en,EN,ah,ak,f80]
   refine ⟨by first | exact Kz (sK bt).1 | exact (Kz (sK bt).1).2 | exact (Kz (sK bt).1).2.2,?_⟩
   try simp +decide only [E,reduceIte,Nat.reduceAdd,Nat.reduceMul,qB,qC,<-List.map_take,<-List.map_drop,L,TP,PD,TJ,M.aA.en,EN,ah,ak,f80]
   refine ⟨by (have hb:=fJ dz);simp [M.aA.en,qE,aP,<-List.map_take,<-List.map_drop,-List.map_take,-List.map_drop] at hb ⊢ <;> omega,?_⟩
   try simp +decide only [E,reduceIte,Nat.reduceAdd,Nat.reduceMul,qB,qC,<-List.map_take,<-List.map_drop,L,TP,PD,TJ,M.aA.en,EN,ah,ak,f80]
   exact Is.mk _
  refine ab (an (sq ?_))
  refine cu (λs=>s.t 2=vP 2 1 0/\s.t 4=vP 4 1 0/\s.t 6=vP 6 1 0/\s.h 2=(1,oX 35 (M.aAA.en p0))/\s.h 4=(1,H5)/\s.h 6=(1,oB 35 [cS x1.Name,cI x1.aAB,.row 100047 (((((br.h 100047).1+1)+1)+1)+1),.row 400012 1])/\s.h 100047=((((((br.h 100047).1+1)+1)+1)+1),oW 40 3 M.aA.en (((List.take v9.toNat x1.aAH)++[(⟨p1.aA,([]:List M.aAQ),0⟩:M.aA)])++(List.drop v9.toNat x1.aAH)))/\s.h 400012=(1,oW 282 2 M.aN.en x1.aAS)/\True) ?_
  rintro du f94
  obtain ⟨bu,aq,h⟩:=bind_some h
  refine sJ (λs=>s.h 6=du.h 6/\s.h 100047=du.h 100047/\s.t 2=vP 2 1 0/\s.t 4=vP 4 1 0/\s.t 6=vP 6 1 0/\s.t 126=vB bu/\s.h 2=(1,oX 35 (M.aAA.en p0))/\s.h 4=(1,H5)/\s.h 400012=(1,oW 282 2 M.aN.en x1.aAS)/\True) ?_ ?_
  ·replace h:=aq;clear aq;obtain ⟨cr,bw,h⟩:=bind_some h;rcases nY (!cr) with ar | ar;(replace h:=cF ar h;refine rn1 (MZ _ _ bw) ?_;cases h;refine gF ⟨?_,?_,?_,?_,?_,?_,?_,?_,?_,trivial⟩<;>(try simp +decide only [F,reduceIte,Nat.reduceAdd,qB,qC,EN, *,-h]));replace h:=cE ar h;obtain ⟨ef,cw,h⟩:=bind_some h;refine rn2 (MZ _ _ bw) (MZ _ _ cw) ?_;cases h;refine gF ⟨?_,?_,?_,?_,?_,?_,?_,?_,?_,trivial⟩<;>(try simp +decide only [F,reduceIte,Nat.reduceAdd,qB,qC,EN, *,-h])
  clear aq
  rintro eg ⟨f111,f112,f105⟩
  replace f111:=f111.trans f94.2.2.2.2.2.1
  replace f112:=f112.trans f94.2.2.2.2.2.2.1
  rcases zD bu with av | av
  ·replace h:=cE av h;refine cf (sk (an (sq (rn ?_))));refine an (rt ?_);cases h;simp [Ret,TB,EN, *]
  replace h:=cF av h
  refine ct (sq ?_)
  obtain ⟨eh,cx,h⟩:=bind_some h
  refine rn1 (SR _ _ cx) ?_
  refine an (rt ?_)
  cases h
  simp [Ret,TB,EN, *]
 replace h:=cE ah h
 refine cf ?_
 obtain ⟨bx,aw,h⟩:=bind_some h
 refine sJ (λs=>s.t 2=vP 2 1 0/\s.t 3=vP 3 1 0/\s.t 4=vP 4 1 0/\s.t 6=vP 6 1 0/\s.t 7=vI x3/\s.t 8=vI x5/\s.t 66=vB bx/\s.h 2=(1,oX 35 (M.aAA.en p0))/\s.h 3=(1,oX 380 (M.iW.en p1))/\s.h 4=(1,H5)/\s.h 6=(1,oB 35 [cS x1.Name,cI x1.aAB,.row 300012 1,.row 400012 1])/\s.h 300012=(1,oW 40 3 M.aA.en x1.aAH)/\s.h 400012=(1,oW 282 2 M.aN.en x1.aAS)/\True) ?_ ?_
 ·replace h:=aw;clear aw;rcases nY (p1.aAV==2) with ax | ax;(replace h:=cF ax h;refine rn ?_;cases h;refine gF ⟨?_,?_,?_,?_,?_,?_,?_,?_,?_,?_,?_,?_,?_,trivial⟩<;>(try simp +decide only [F,reduceIte,Nat.reduceAdd,qB,qC,EN, *,-h]));replace h:=cE ax h;refine rn ?_;cases h;refine gF ⟨?_,?_,?_,?_,?_,?_,?_,?_,?_,?_,?_,?_,?_,trivial⟩<;>(try simp +decide only [F,reduceIte,Nat.reduceAdd,qB,qC,EN, *,-h])
 clear aw
 rintro al f125
 rcases nY bx with aa | aa
 ·replace h:=cF aa h;refine ct ?_;obtain ⟨ao,cy,h⟩:=bind_some h;refine rn1 (ZX _ _ _ cy) ?_;refine ab (an (sq ?_));obtain ⟨bz,ay,h⟩:=bind_some h;refine sJ (λs=>s.t 2=vP 2 1 0/\s.t 4=vP 4 1 0/\s.t 6=vP 6 1 0/\s.t 126=vB bz/\s.h 2=(1,oX 35 (M.aAA.en p0))/\s.h 4=(1,H5)/\s.h 6=(1,oB 35 [cS ao.Name,cI ao.aAB,.row 300077 ((al.h 300077).1+1),.row 400077 ((al.h 400077).1+1)])/\s.h 300077=(((al.h 300077).1+1),oW 40 3 M.aA.en ao.aAH)/\s.h 400077=(((al.h 400077).1+1),oW 282 2 M.aN.en ao.aAS)/\True) ?_ ?_;(replace h:=ay;clear ay;obtain ⟨cz,c9,h⟩:=bind_some h;rcases nY (!cz) with az | az;(replace h:=cF az h;refine rn1 (MZ _ _ c9) ?_;cases h;refine gF ⟨?_,?_,?_,?_,?_,?_,?_,?_,?_,trivial⟩<;>(try simp +decide only [F,reduceIte,Nat.reduceAdd,qB,qC,EN, *,-h]));replace h:=cE az h;obtain ⟨et,da,h⟩:=bind_some h;refine rn2 (MZ _ _ c9) (MZ _ _ da) ?_;cases h;refine gF ⟨?_,?_,?_,?_,?_,?_,?_,?_,?_,trivial⟩<;>(try simp +decide only [F,reduceIte,Nat.reduceAdd,qB,qC,EN, *,-h]));clear ay;rintro eu f145;rcases zD bz with b7 | b7;(replace h:=cE b7 h;refine cf (sk (an (sq (rn ?_))));refine an (rt ?_);cases h;simp [Ret,TB,EN, *]);replace h:=cF b7 h;refine ct (sq ?_);obtain ⟨fa,db,h⟩:=bind_some h;refine rn1 (SR _ _ db) ?_;refine an (rt ?_);cases h;simp [Ret,TB,EN, *]
 replace h:=cE aa h
 refine cf ?_
 obtain ⟨ca,ba,h⟩:=bind_some h
 refine sJ (λs=>s.t 2=vP 2 1 0/\s.t 3=vP 3 1 0/\s.t 4=vP 4 1 0/\s.t 6=vP 6 1 0/\s.t 8=vI x5/\s.t 78=vB ca/\s.h 2=(1,oX 35 (M.aAA.en p0))/\s.h 3=(1,oX 380 (M.iW.en p1))/\s.h 4=(1,H5)/\s.h 6=(1,oB 35 [cS x1.Name,cI x1.aAB,.row 300012 1,.row 400012 1])/\s.h 300012=(1,oW 40 3 M.aA.en x1.aAH)/\s.h 400012=(1,oW 282 2 M.aN.en x1.aAS)/\True) ?_ ?_
 ·replace h:=ba;clear ba;rcases zD (p1.aAV==3) with bd | bd;(replace h:=cE bd h;refine rn ?_;cases h;refine gF ⟨?_,?_,?_,?_,?_,?_,?_,?_,?_,?_,?_,?_,trivial⟩<;>(try simp +decide only [F,reduceIte,Nat.reduceAdd,qB,qC,EN, *,-h]));replace h:=cF bd h;rcases nY (decide (x3>=0)) with bf | bf;(replace h:=cF bf h;refine rn ?_;cases h;refine gF ⟨?_,?_,?_,?_,?_,?_,?_,?_,?_,?_,?_,?_,trivial⟩<;>(try simp +decide only [F,reduceIte,Nat.reduceAdd,qB,qC,EN, *,-h]));replace h:=cE bf h;refine rn ?_;cases h;refine gF ⟨?_,?_,?_,?_,?_,?_,?_,?_,?_,?_,?_,?_,trivial⟩<;>(try simp +decide only [F,reduceIte,Nat.reduceAdd,qB,qC,EN, *,-h])
 clear ba
 rintro fc f165
 rcases nY ca with ae | ae
 ·replace h:=cF ae h;refine ct ?_;obtain ⟨fe,df,h⟩:=bind_some h;refine rn1 df ?_;refine ab (an (sq ?_));refine cu (λs=>s.t 2=vP 2 1 0/\s.t 4=vP 4 1 0/\s.t 6=vP 6 1 0/\s.h 2=(1,oX 35 (M.aAA.en p0))/\s.h 4=(1,H5)/\s.h 6=(1,oB 35 [cS x1.Name,cI x1.aAB,.row 300012 1,.row 400012 2])/\s.h 300012=(1,oW 40 3 M.aA.en x1.aAH)/\s.h 400012=(2,oW 282 2 M.aN.en (x1.aAS++[(⟨p1.aA,p1.Field⟩:M.aN)]))/\True) ?_;rintro dg f183;obtain ⟨cc,bg,h⟩:=bind_some h;refine sJ (λs=>s.h 400012=dg.h 400012/\s.t 2=vP 2 1 0/\s.t 4=vP 4 1 0/\s.t 6=vP 6 1 0/\s.t 126=vB cc/\s.h 2=(1,oX 35 (M.aAA.en p0))/\s.h 4=(1,H5)/\s.h 6=(1,oB 35 [cS x1.Name,cI x1.aAB,.row 300012 1,.row 400012 2])/\s.h 300012=(1,oW 40 3 M.aA.en x1.aAH)/\True) ?_ ?_;(replace h:=bg;clear bg;obtain ⟨dh,cd,h⟩:=bind_some h;rcases nY (!dh) with bh | bh;(replace h:=cF bh h;refine rn1 (MZ _ _ cd) ?_;cases h;refine gF ⟨?_,?_,?_,?_,?_,?_,?_,?_,?_,trivial⟩<;>(try simp +decide only [F,reduceIte,Nat.reduceAdd,qB,qC,EN, *,-h]));replace h:=cE bh h;obtain ⟨ff,di,h⟩:=bind_some h;refine rn2 (MZ _ _ cd) (MZ _ _ di) ?_;cases h;refine gF ⟨?_,?_,?_,?_,?_,?_,?_,?_,?_,trivial⟩<;>(try simp +decide only [F,reduceIte,Nat.reduceAdd,qB,qC,EN, *,-h]));clear bg;rintro fg ⟨f202,f194⟩;replace f202:=f202.trans f183.2.2.2.2.2.2.2.1;rcases zD cc with bj | bj;(replace h:=cE bj h;refine cf (sk (an (sq (rn ?_))));refine an (rt ?_);cases h;simp [Ret,TB,EN, *]);replace h:=cF bj h;refine ct (sq ?_);obtain ⟨fh,dj,h⟩:=bind_some h;refine rn1 (SR _ _ dj) ?_;refine an (rt ?_);cases h;simp [Ret,TB,EN, *]
 replace h:=cE ae h
 refine cf ?_
 obtain ⟨cg,bl,h⟩:=bind_some h
 refine sJ (λs=>s.t 2=vP 2 1 0/\s.t 4=vP 4 1 0/\s.t 6=vP 6 1 0/\s.t 8=vI x5/\s.t 100=vB cg/\s.h 2=(1,oX 35 (M.aAA.en p0))/\s.h 4=(1,H5)/\s.h 6=(1,oB 35 [cS x1.Name,cI x1.aAB,.row 300012 1,.row 400012 1])/\s.h 300012=(1,oW 40 3 M.aA.en x1.aAH)/\s.h 400012=(1,oW 282 2 M.aN.en x1.aAS)/\True) ?_ ?_
 ·replace h:=bl;clear bl;rcases nY (p1.aAV==4) with bm | bm;(replace h:=cF bm h;refine rn ?_;cases h;refine gF ⟨?_,?_,?_,?_,?_,?_,?_,?_,?_,?_,trivial⟩<;>(try simp +decide only [F,reduceIte,Nat.reduceAdd,qB,qC,EN, *,-h]));replace h:=cE bm h;refine rn ?_;cases h;refine gF ⟨?_,?_,?_,?_,?_,?_,?_,?_,?_,?_,trivial⟩<;>(try simp +decide only [F,reduceIte,Nat.reduceAdd,qB,qC,EN, *,-h])
 clear bl
 rintro fj f214
 rcases zD cg with af | af
 ·replace h:=cE af h;refine cf (sq (rn ?_));refine an (rt ?_);cases h;simp [Ret,TB,EN, *]
 replace h:=cF af h
 refine ct ?_
 obtain ⟨fk,ai,h⟩:=bind_some h
 obtain ⟨fm,aj,h⟩:=bind_some h
 obtain ⟨fo,cj,h⟩:=bind_some h
 apply tP mixed
 ·simp +decide only [E,reduceIte,Nat.reduceAdd,Nat.reduceMul,qB,qC,<-List.map_take,<-List.map_drop,Nat.sub_zero,L,UM,PD,O6,M.aN.en,EN,ah,aa,ae,f214,af]
  refine ⟨by first | exact sK ai | exact (sK ai).2 | exact (sK ai).2.2,?_⟩
  try simp +decide only [E,reduceIte,Nat.reduceAdd,Nat.reduceMul,qB,qC,<-List.map_take,<-List.map_drop,Nat.sub_zero,L,UM,PD,O6,M.aN.en,EN,ah,aa,ae,f214,af]
  refine ⟨by first | exact HR aj | exact (HR aj).2 | exact (HR aj).2.2,?_⟩
  try simp +decide only [E,reduceIte,Nat.reduceAdd,Nat.reduceMul,qB,qC,<-List.map_take,<-List.map_drop,Nat.sub_zero,L,UM,PD,O6,M.aN.en,EN,ah,aa,ae,f214,af]
  refine ⟨by first | exact KR (f:=M.aN.en) (sz:=2) (λ_=>rfl) qe ai aj cj | (have hb:=KR (f:=M.aN.en) (sz:=2) (λ_=>rfl) qe ai aj cj;simpa using hb),?_⟩
  try simp +decide only [E,reduceIte,Nat.reduceAdd,Nat.reduceMul,qB,qC,<-List.map_take,<-List.map_drop,Nat.sub_zero,L,UM,PD,O6,M.aN.en,EN,ah,aa,ae,f214,af]
  exact ⟨.mk qf,Is.mk _⟩
 refine ab (an (sq ?_))
 refine cu (λs=>s.t 2=vP 2 1 0/\s.t 4=vP 4 1 0/\s.t 6=vP 6 1 0/\s.h 2=(1,oX 35 (M.aAA.en p0))/\s.h 4=(1,H5)/\s.h 6=(1,oB 35 [cS x1.Name,cI x1.aAB,.row 300012 1,.row 400012 2])/\s.h 300012=(1,oW 40 3 M.aA.en x1.aAH)/\s.h 400012=(2,oW 282 2 M.aN.en ((List.take x5.toNat x1.aAS)++(List.drop (IntKind.i64.wrap (x5+1)).toNat x1.aAS)))/\True) ?_
 rintro dk f233
 obtain ⟨ck,bn,h⟩:=bind_some h
 refine sJ (λs=>s.h 400012=dk.h 400012/\s.t 2=vP 2 1 0/\s.t 4=vP 4 1 0/\s.t 6=vP 6 1 0/\s.t 126=vB ck/\s.h 2=(1,oX 35 (M.aAA.en p0))/\s.h 4=(1,H5)/\s.h 6=(1,oB 35 [cS x1.Name,cI x1.aAB,.row 300012 1,.row 400012 2])/\s.h 300012=(1,oW 40 3 M.aA.en x1.aAH)/\True) ?_ ?_
 ·replace h:=bn;clear bn;obtain ⟨dm,cl,h⟩:=bind_some h;rcases nY (!dm) with bo | bo;(replace h:=cF bo h;refine rn1 (MZ _ _ cl) ?_;cases h;refine gF ⟨?_,?_,?_,?_,?_,?_,?_,?_,?_,trivial⟩<;>(try simp +decide only [F,reduceIte,Nat.reduceAdd,qB,qC,EN, *,-h]));replace h:=cE bo h;obtain ⟨fq,dn,h⟩:=bind_some h;refine rn2 (MZ _ _ cl) (MZ _ _ dn) ?_;cases h;refine gF ⟨?_,?_,?_,?_,?_,?_,?_,?_,?_,trivial⟩<;>(try simp +decide only [F,reduceIte,Nat.reduceAdd,qB,qC,EN, *,-h])
 clear bn
 rintro ft ⟨f252,f244⟩
 replace f252:=f252.trans f233.2.2.2.2.2.2.2.1
 rcases zD ck with bq | bq
 ·replace h:=cE bq h;refine cf (sk (an (sq (rn ?_))));refine an (rt ?_);cases h;simp [Ret,TB,EN, *]
 replace h:=cF bq h
 refine ct (sq ?_)
 obtain ⟨fw,dq,h⟩:=bind_some h
 refine rn1 (SR _ _ dq) ?_
 refine an (rt ?_)
 cases h
 simp [Ret,TB,EN, *]
instance:cA 351 (type_of% @WE):=⟨@WE⟩
theorem XE (p0 r) (h:pW p0=some r):Sc 255 [(false,[.ptr [.sl (List.map enB p0.b),.int .i64 p0.i,.int .i64 p0.h]])] [(false,[.edit (.lend 182 [.int .i64 r.1,.int .i64 r.2.1])]),(true,M.aAI.rs r.2.2)]:=by
 unfold pW at h
 simp only [EN]
 refine sgB 36 [.cell 2 137] Tryz.func255 λbase wd B0 u0 hw0 => ?_
 refine eJ (J:=λs=>s.t 0=vP 7059000 1 0/\s.h 7059000=(1,oB 182 [.old B0 (.sl (List.map enB p0.b)) (some u0),cI p0.i,cI p0.h])/\True) ?_ ?_
 ·and_intros<;>(try simp only [LN,List.map_cons,List.map_nil])<;>rfl
 rintro s1 f2
 have i1:=DW [.b 3 1 7050000 284 4,.b 3 3 7050001 207 2,.b 3 4 7050002 211 7] λm s=>∃v4:Int,∃ao:ByteArray,∃aq:Int,∃aa:Int,∃ae:Int,∃af:List M.aAQ,∃ah:List M.aK,∃ai:List M.bA,∃aj:Nat,∃ak:Nat,∃al:Nat,(s.t 0=vP 7059000 1 0/\s.t 2=vP 2 ((s1.h 2).1+1) 0/\s.t 3=vP 3 ((s1.h 3).1+1) 0/\s.t 4=vI v4/\s.h 2=(((s1.h 2).1+1),Q1)/\s.h 3=(((s1.h 3).1+1),oB 137 [cS ao,.row 7050000 aj,cI aq,.row 7050001 ak,.row 7050002 al])/\s.h 7050000=(aj,oW 284 4 M.aAQ.en af)/\s.h 7050001=(ak,oW 207 2 M.aK.en ah)/\s.h 7050002=(al,oW 211 7 M.bA.en ai)/\s.h 7059000=(1,oB 182 [.old B0 (.sl (List.map enB p0.b)) (some u0),cI aa,cI ae]))/\jD p0 m v4 ao aq aa ae af ah ai=some r
 have e1:=@jD.eq_2
 exact sgX
instance:cA 255 (type_of% @XE):=⟨@XE⟩
theorem XA (p0 p1 p2 p3 r) (h:vT p0 p1 p2 p3=some r):Sc 292 [aX (M.aAT.en p0),aX (M.aAI.en p1),aI p2,aI p3] [(true,M.aAT.rs r.1),(true,M.aAI.rs r.2.1),rI r.2.2]:=by unfold vT at h;exact sgo 113 [.cell 8 45,.cell 9 137,.tmp 10] Tryz.func292
instance:cA 292 (type_of% @XA):=⟨@XA⟩
theorem YH (p0 p1 r) (h:rY p0 p1=some r):Sc 295 [aX (M.aG.en p0),aX (M.aAI.en p1)] [(true,M.aG.rs r.1),rI r.2]:=by unfold rY at h;exact sgo 64 [.cell 4 47,.tmp 5] Tryz.func295
instance:cA 295 (type_of% @YH):=⟨@YH⟩
theorem YR (p0 r) (h:xS p0=some r):Sc 219 [(false,[.ptr [.sl (List.map enB p0.b),.int .i64 p0.i,.int .i64 p0.h]])] [(false,[.edit (.lend 182 [.int .i64 r.1,.int .i64 r.2.1])]),(true,M.aA.rs r.2.2)]:=by
 unfold xS at h
 simp only [EN]
 refine sgB 50 [.cell 2 40] Tryz.func219 λbase wd B0 u0 hw0 => ?_
 refine eJ (J:=λs=>s.t 0=vP 7059000 1 0/\s.h 7059000=(1,oB 182 [.old B0 (.sl (List.map enB p0.b)) (some u0),cI p0.i,cI p0.h])/\True) ?_ ?_
 ·and_intros<;>(try simp only [LN,List.map_cons,List.map_nil])<;>rfl
 rintro s1 f2
 have i1:=λ(ai:(Int×Int×Int)) (s16:St)=>DW [.b 3 1 7050000 284 4] λm s=>∃af:ByteArray,∃ah:Int,∃aa:List M.aAQ,∃ae:Nat,(s.h 7059000=s16.h 7059000/\s.t 0=vP 7059000 1 0/\s.t 2=vP 2 ((s1.h 2).1+1) 0/\s.t 3=vP 3 ((s1.h 3).1+1) 0/\s.h 2=(((s1.h 2).1+1),oB 40 [cS (⟨#[]⟩:ByteArray),.nil,cI 0])/\s.h 3=(((s1.h 3).1+1),oB 40 [cS af,.row 7050000 ae,cI ah])/\s.h 7050000=(ae,oW 284 4 M.aAQ.en aa))/\tN ai m af ah aa=some r
 have e1:=@tN.eq_2
 exact sgX
instance:cA 219 (type_of% @YR):=⟨@YR⟩
theorem Zo (p0 r) (h:wF p0=some r):Sc 155 [(false,[.ptr [.sl (List.map enB p0.b),.int .i64 p0.i,.int .i64 p0.h]])] [(false,[.edit (.lend 182 [.int .i64 r.1,.int .i64 r.2.1])]),(true,M.bV.rs r.2.2)]:=by
 unfold wF at h
 simp only [EN]
 refine sgB 51 [.cell 2 96] Tryz.func155 λbase wd B0 u0 hw0 => ?_
 refine eJ (J:=λs=>s.t 0=vP 7059000 1 0/\s.h 7059000=(1,oB 182 [.old B0 (.sl (List.map enB p0.b)) (some u0),cI p0.i,cI p0.h])/\True) ?_ ?_
 ·and_intros<;>(try simp only [LN,List.map_cons,List.map_nil])<;>rfl
 rintro s1 f2
 have i1:=λ(x4:(Int×Int×M.bV)) (aa:(Int×Int×Int)) (ae:St)=>inv λm s=>∃r5:List M.aU,∃u5:Nat,(s.h 7059000=ae.h 7059000/\s.t 0=vP 7059000 1 0/\s.t 2=vP 2 ((s1.h 2).1+1) 0/\s.t 3=vP 3 ((s1.h 3).1+1) 0/\s.h 2=(((s1.h 2).1+1),RE)/\s.h 3=(((s1.h 3).1+1),oB 96 [cI x4.2.2.Id,cS x4.2.2.aAO,cS x4.2.2.Top,cI x4.2.2.aAB,.row 500005 u5,.row 600005 ((s1.h 600005).1+1),cI x4.2.2.aAJ.Pc,.row 800005 ((s1.h 800005).1+1),cI x4.2.2.aAJ.aAy,cB x4.2.2.aAJ.aA6,cB x4.2.2.aAJ.aA7])/\s.h 500005=(u5,oW 98 2 M.aU.en r5)/\s.h 600005=(((s1.h 600005).1+1),oW 216 4 M.Instr.en x4.2.2.aAJ.aAp)/\s.h 800005=(((s1.h 800005).1+1),oW 3 1 enI x4.2.2.aAJ.aA1))/\pT x4 aa m r5=some r
 have e1:=@pT.eq_2
 exact sgX
end Go.Proofs.YtipmihbgjolaaaaGreat.gen
