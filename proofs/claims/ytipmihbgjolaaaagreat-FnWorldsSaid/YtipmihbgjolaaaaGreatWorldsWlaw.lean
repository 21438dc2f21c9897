/-
  Helper text. No conditions.
-/
import Derived.Test.YtipmihbgjolaaaaGreatWorldsTi
import Derived.Test.YtipmihbgjolaaaaGreatWorldsWimpl2
import Derived.Test.YtipmihbgjolaaaaGreatWorldsWimpl5
import Derived.Test.YtipmihbgjolaaaaGreatWorldsWmark
import Derived.Test.YtipmihbgjolaaaaGreatWorldsWspec0
import Derived.Test.YtipmihbgjolaaaaGreatWorldsWspec1
import Derived.Test.YtipmihbgjolaaaaGreatWorldsWspec3
import Derived.Test.YtipmihbgjolaaaaGreatWorldsWspec8
import Derived.Test.YtipmihbgjolaaaaGreatWorldsWspec9
set_option linter.unusedVariables false
set_option linter.unusedSimpArgs false
namespace Go.Proofs.YtipmihbgjolaaaaGreat.gen
open Go Go.Sh
set_option maxRecDepth 20000
set_option maxHeartbeats 4000000
theorem Hm (p0 r) (h:uZ p0=some r):Sc 4 [aL enB p0] [rB r]:=by
 unfold uZ at h
 simp only [EN]
 refine sgn 87 [.tmp 2] Tryz.func4 λbase wd => ?_
 refine sq (rn ?_)
 refine an (sq (sq ?_))
 obtain ⟨x1,h2,h⟩:=bind_some h
 refine rn1 (c7 _ _ h2) ?_
 refine an ?_
 rcases nY x1 with b3 | b3
 ·replace h:=cF b3 h;refine ct (sq (rn ?_));refine an (rt ?_);cases h;simp [Ret,TB,EN, *]
 replace h:=cE b3 h
 refine cf (sk (an (sq ?_)))
 obtain ⟨x4,h5,h⟩:=bind_some h
 refine rn1 (c18 _ _ h5) ?_
 refine an (sq ?_)
 obtain ⟨x6,h7,h⟩:=bind_some h
 refine rn1 (c19 _ _ h7) ?_
 refine an (sq ?_)
 obtain ⟨x8,h9,h⟩:=bind_some h
 refine sJ (λs=>s.t 0=vL enB p0/\s.t 3=vI x4/\s.t 4=vP 4 1 0/\s.t 23=vB x8/\s.h 4=(1,oB 75 [cI x6.Now,cB x6.aAi,cI x6.aAK,.row 400014 1,.row 500014 1,cI x6.aAg,.row 700014 1,.row 800014 1,.row 900014 1,.row 1000014 1])/\s.h 400014=(1,oW 49 24 M.aO.en x6.aJ.aAG)/\s.h 500014=(1,oW 96 11 M.bV.en x6.aAX)/\s.h 700014=(1,oW 154 4 M.tV.en x6.aAW.aAW)/\s.h 800014=(1,oW 157 3 M.xV.en x6.aAa.aAx)/\s.h 900014=(1,oW 85 4 M.aAO.en x6.aAe)/\s.h 1000014=(1,oW 137 5 M.aAI.en x6.aAY)/\True) ?_ ?_
 ·replace h:=h9;clear h9;obtain ⟨cd,bh,h⟩:=bind_some h;rcases nY (decide (x4>=1)) with ba | ba;(replace h:=cF ba h;refine rn1 (c20 _ _ bh) ?_;cases h;refine gF ⟨?_,?_,?_,?_,?_,?_,?_,?_,?_,?_,?_,trivial⟩<;>(try simp +decide only [F,reduceIte,Nat.reduceAdd,qB,qC,EN, *,-h]));replace h:=cE ba h;refine rn1 (c20 _ _ bh) ?_;cases h;refine gF ⟨?_,?_,?_,?_,?_,?_,?_,?_,?_,?_,?_,trivial⟩<;>(try simp +decide only [F,reduceIte,Nat.reduceAdd,qB,qC,EN, *,-h])
 clear h9
 rintro cg f11
 rcases nY x8 with aa | aa
 ·replace h:=cF aa h;refine ct (sq (rn ?_));refine an (rt ?_);cases h;simp [Ret,TB,EN, *]
 replace h:=cE aa h
 refine cf (sk (an (sq ?_)))
 obtain ⟨cj,bl,h⟩:=bind_some h
 refine rn1 (c21 _ _ bl) ?_
 refine an (sq ?_)
 obtain ⟨ck,bm,h⟩:=bind_some h
 refine rn1 (c22 _ _ _ bm) ?_
 refine an (sq ?_)
 obtain ⟨bn,bo,h⟩:=bind_some h
 refine rn1 (c23 _ _ _ bo) ?_
 refine an (sq ?_)
 obtain ⟨cl,bq,h⟩:=bind_some h
 obtain ⟨bj,br,h⟩:=bind_some h
 refine rn2 (c25 _ _ bq) (c24 _ _ br) ?_
 refine an ?_
 obtain ⟨bt,bd,h⟩:=bind_some h
 refine sJ (λs=>s.t 2=vB bt/\True) ?_ ?_
 ·replace h:=bd
  clear bd
  obtain ⟨bu,aq,h⟩:=bind_some h
  obtain ⟨bw,ar,h⟩:=bind_some h
  rcases zD (bu==bw) with ae | ae
  ·replace h:=cE ae h;refine rd2 mixed (c20 _ _ aq) (c26 _ _ ar) ?_;cases h;refine gF ⟨?_,trivial⟩<;>(try simp +decide only [F,reduceIte,Nat.reduceAdd,qB,qC,EN, *,-h])
  replace h:=cF ae h
  obtain ⟨bx,av,h⟩:=bind_some h
  rcases zD bx with af | af
  ·replace h:=cE af h;refine rd3 mixed (c20 _ _ aq) (c26 _ _ ar) (c27 _ _ _ av) ?_;cases h;refine gF ⟨?_,trivial⟩<;>(try simp +decide only [F,reduceIte,Nat.reduceAdd,qB,qC,EN, *,-h])
  replace h:=cF af h
  obtain ⟨bz,az,h⟩:=bind_some h
  rcases zD (bn==bz) with ah | ah
  ·replace h:=cE ah h
   apply tP mixed
   ·simp +decide only [E,reduceIte,Nat.reduceAdd,Nat.reduceMul,qB,qC,L,ti4,mI,EN,b3,f11,aa,ae,af,ah]
    refine ⟨_,c20 _ _ aq,?_⟩
    try simp +decide only [E,reduceIte,Nat.reduceAdd,Nat.reduceMul,qB,qC,L,ti4,mI,EN,b3,f11,aa,ae,af,ah]
    refine ⟨_,c26 _ _ ar,?_⟩
    try simp +decide only [E,reduceIte,Nat.reduceAdd,Nat.reduceMul,qB,qC,L,ti4,mI,EN,b3,f11,aa,ae,af,ah]
    refine ⟨_,c27 _ _ _ av,?_⟩
    try simp +decide only [E,reduceIte,Nat.reduceAdd,Nat.reduceMul,qB,qC,L,ti4,mI,EN,b3,f11,aa,ae,af,ah]
    refine ⟨_,c28 _ _ _ az,?_⟩
    try simp +decide only [E,reduceIte,Nat.reduceAdd,Nat.reduceMul,qB,qC,L,ti4,mI,EN,b3,f11,aa,ae,af,ah]
    exact ⟨.mk qf,Is.mk _⟩
   cases h
   refine gF ⟨?_,trivial⟩<;>(try simp +decide only [F,reduceIte,Nat.reduceAdd,qB,qC,EN, *,-h])
  replace h:=cF ah h
  rcases zD (decide (bj>=(-1))) with ai | ai
  ·replace h:=cE ai h
   apply tP mixed
   ·simp +decide only [E,reduceIte,Nat.reduceAdd,Nat.reduceMul,qB,qC,L,ti4,mI,EN,b3,f11,aa,ae,af,ah,ai]
    refine ⟨_,c20 _ _ aq,?_⟩
    try simp +decide only [E,reduceIte,Nat.reduceAdd,Nat.reduceMul,qB,qC,L,ti4,mI,EN,b3,f11,aa,ae,af,ah,ai]
    refine ⟨_,c26 _ _ ar,?_⟩
    try simp +decide only [E,reduceIte,Nat.reduceAdd,Nat.reduceMul,qB,qC,L,ti4,mI,EN,b3,f11,aa,ae,af,ah,ai]
    refine ⟨_,c27 _ _ _ av,?_⟩
    try simp +decide only [E,reduceIte,Nat.reduceAdd,Nat.reduceMul,qB,qC,L,ti4,mI,EN,b3,f11,aa,ae,af,ah,ai]
    refine ⟨_,c28 _ _ _ az,?_⟩
    try simp +decide only [E,reduceIte,Nat.reduceAdd,Nat.reduceMul,qB,qC,L,ti4,mI,EN,b3,f11,aa,ae,af,ah,ai]
    exact ⟨.mk qf,Is.mk _⟩
   cases h
   refine gF ⟨?_,trivial⟩<;>(try simp +decide only [F,reduceIte,Nat.reduceAdd,qB,qC,EN, *,-h])
  replace h:=cF ai h
  rcases zD (decide (bj<=2)) with aj | aj
  ·replace h:=cE aj h
   apply tP mixed
   ·simp +decide only [E,reduceIte,Nat.reduceAdd,Nat.reduceMul,qB,qC,L,ti4,mI,EN,b3,f11,aa,ae,af,ah,ai,aj]
    refine ⟨_,c20 _ _ aq,?_⟩
    try simp +decide only [E,reduceIte,Nat.reduceAdd,Nat.reduceMul,qB,qC,L,ti4,mI,EN,b3,f11,aa,ae,af,ah,ai,aj]
    refine ⟨_,c26 _ _ ar,?_⟩
    try simp +decide only [E,reduceIte,Nat.reduceAdd,Nat.reduceMul,qB,qC,L,ti4,mI,EN,b3,f11,aa,ae,af,ah,ai,aj]
    refine ⟨_,c27 _ _ _ av,?_⟩
    try simp +decide only [E,reduceIte,Nat.reduceAdd,Nat.reduceMul,qB,qC,L,ti4,mI,EN,b3,f11,aa,ae,af,ah,ai,aj]
    refine ⟨_,c28 _ _ _ az,?_⟩
    try simp +decide only [E,reduceIte,Nat.reduceAdd,Nat.reduceMul,qB,qC,L,ti4,mI,EN,b3,f11,aa,ae,af,ah,ai,aj]
    exact ⟨.mk qf,Is.mk _⟩
   cases h
   refine gF ⟨?_,trivial⟩<;>(try simp +decide only [F,reduceIte,Nat.reduceAdd,qB,qC,EN, *,-h])
  replace h:=cF aj h
  obtain ⟨c9,b7,h⟩:=bind_some h
  rcases nY (!c9) with ak | ak
  ·replace h:=cF ak h
   apply tP mixed
   ·simp +decide only [E,reduceIte,Nat.reduceAdd,Nat.reduceMul,qB,qC,L,ti4,mI,EN,b3,f11,aa,ae,af,ah,ai,aj,ak]
    refine ⟨_,c20 _ _ aq,?_⟩
    try simp +decide only [E,reduceIte,Nat.reduceAdd,Nat.reduceMul,qB,qC,L,ti4,mI,EN,b3,f11,aa,ae,af,ah,ai,aj,ak]
    refine ⟨_,c26 _ _ ar,?_⟩
    try simp +decide only [E,reduceIte,Nat.reduceAdd,Nat.reduceMul,qB,qC,L,ti4,mI,EN,b3,f11,aa,ae,af,ah,ai,aj,ak]
    refine ⟨_,c27 _ _ _ av,?_⟩
    try simp +decide only [E,reduceIte,Nat.reduceAdd,Nat.reduceMul,qB,qC,L,ti4,mI,EN,b3,f11,aa,ae,af,ah,ai,aj,ak]
    refine ⟨_,c28 _ _ _ az,?_⟩
    try simp +decide only [E,reduceIte,Nat.reduceAdd,Nat.reduceMul,qB,qC,L,ti4,mI,EN,b3,f11,aa,ae,af,ah,ai,aj,ak]
    refine ⟨_,c20 _ _ b7,?_⟩
    try simp +decide only [E,reduceIte,Nat.reduceAdd,Nat.reduceMul,qB,qC,L,ti4,mI,EN,b3,f11,aa,ae,af,ah,ai,aj,ak]
    exact ⟨.mk qf,Is.mk _⟩
   cases h
   refine gF ⟨?_,trivial⟩<;>(try simp +decide only [F,reduceIte,Nat.reduceAdd,qB,qC,EN, *,-h])
  replace h:=cE ak h
  obtain ⟨cn,bf,h⟩:=bind_some h
  obtain ⟨ca,bg,h⟩:=bind_some h
  rcases zD ca with al | al
  ·replace h:=cE al h
   apply tP mixed
   ·simp +decide only [E,reduceIte,Nat.reduceAdd,Nat.reduceMul,qB,qC,L,ti4,mI,EN,b3,f11,aa,ae,af,ah,ai,aj,ak,al]
    refine ⟨_,c20 _ _ aq,?_⟩
    try simp +decide only [E,reduceIte,Nat.reduceAdd,Nat.reduceMul,qB,qC,L,ti4,mI,EN,b3,f11,aa,ae,af,ah,ai,aj,ak,al]
    refine ⟨_,c26 _ _ ar,?_⟩
    try simp +decide only [E,reduceIte,Nat.reduceAdd,Nat.reduceMul,qB,qC,L,ti4,mI,EN,b3,f11,aa,ae,af,ah,ai,aj,ak,al]
    refine ⟨_,c27 _ _ _ av,?_⟩
    try simp +decide only [E,reduceIte,Nat.reduceAdd,Nat.reduceMul,qB,qC,L,ti4,mI,EN,b3,f11,aa,ae,af,ah,ai,aj,ak,al]
    refine ⟨_,c28 _ _ _ az,?_⟩
    try simp +decide only [E,reduceIte,Nat.reduceAdd,Nat.reduceMul,qB,qC,L,ti4,mI,EN,b3,f11,aa,ae,af,ah,ai,aj,ak,al]
    refine ⟨_,c20 _ _ b7,?_⟩
    try simp +decide only [E,reduceIte,Nat.reduceAdd,Nat.reduceMul,qB,qC,L,ti4,mI,EN,b3,f11,aa,ae,af,ah,ai,aj,ak,al]
    refine ⟨_,c29 _ _ bf,?_⟩
    try simp +decide only [E,reduceIte,Nat.reduceAdd,Nat.reduceMul,qB,qC,L,ti4,mI,EN,b3,f11,aa,ae,af,ah,ai,aj,ak,al]
    refine ⟨_,c27 _ _ _ bg,?_⟩
    try simp +decide only [E,reduceIte,Nat.reduceAdd,Nat.reduceMul,qB,qC,L,ti4,mI,EN,b3,f11,aa,ae,af,ah,ai,aj,ak,al]
    exact ⟨.mk qf,Is.mk _⟩
   cases h
   refine gF ⟨?_,trivial⟩<;>(try simp +decide only [F,reduceIte,Nat.reduceAdd,qB,qC,EN, *,-h])
  replace h:=cF al h
  rcases zD ((List.length x6.aAe:Int)==3) with ao | ao
  ·replace h:=cE ao h
   apply tP mixed
   ·simp +decide only [E,reduceIte,Nat.reduceAdd,Nat.reduceMul,qB,qC,L,ti4,Ja,mI,EN,b3,f11,aa,ae,af,ah,ai,aj,ak,al,ao]
    refine ⟨_,c20 _ _ aq,?_⟩
    try simp +decide only [E,reduceIte,Nat.reduceAdd,Nat.reduceMul,qB,qC,L,ti4,Ja,mI,EN,b3,f11,aa,ae,af,ah,ai,aj,ak,al,ao]
    refine ⟨_,c26 _ _ ar,?_⟩
    try simp +decide only [E,reduceIte,Nat.reduceAdd,Nat.reduceMul,qB,qC,L,ti4,Ja,mI,EN,b3,f11,aa,ae,af,ah,ai,aj,ak,al,ao]
    refine ⟨_,c27 _ _ _ av,?_⟩
    try simp +decide only [E,reduceIte,Nat.reduceAdd,Nat.reduceMul,qB,qC,L,ti4,Ja,mI,EN,b3,f11,aa,ae,af,ah,ai,aj,ak,al,ao]
    refine ⟨_,c28 _ _ _ az,?_⟩
    try simp +decide only [E,reduceIte,Nat.reduceAdd,Nat.reduceMul,qB,qC,L,ti4,Ja,mI,EN,b3,f11,aa,ae,af,ah,ai,aj,ak,al,ao]
    refine ⟨_,c20 _ _ b7,?_⟩
    try simp +decide only [E,reduceIte,Nat.reduceAdd,Nat.reduceMul,qB,qC,L,ti4,Ja,mI,EN,b3,f11,aa,ae,af,ah,ai,aj,ak,al,ao]
    refine ⟨_,c29 _ _ bf,?_⟩
    try simp +decide only [E,reduceIte,Nat.reduceAdd,Nat.reduceMul,qB,qC,L,ti4,Ja,mI,EN,b3,f11,aa,ae,af,ah,ai,aj,ak,al,ao]
    refine ⟨_,c27 _ _ _ bg,?_⟩
    try simp +decide only [E,reduceIte,Nat.reduceAdd,Nat.reduceMul,qB,qC,L,ti4,Ja,mI,EN,b3,f11,aa,ae,af,ah,ai,aj,ak,al,ao]
    exact ⟨.mk qf,Is.mk _⟩
   cases h
   refine gF ⟨?_,trivial⟩<;>(try simp +decide only [F,reduceIte,Nat.reduceAdd,qB,qC,EN, *,-h])
  replace h:=cF ao h
  obtain ⟨cp,cc,h⟩:=bind_some h
  obtain ⟨aw,ax,ay⟩:=tT cc
  apply tP mixed
  ·simp +decide only [E,reduceIte,Nat.reduceAdd,Nat.reduceMul,qB,qC,L,ti3,ti4,Ja,mI,O0,M.aAO.en,EN,b3,f11,aa,ae,af,ah,ai,aj,ak,al,ao,aw,ax,ay]
   refine ⟨_,c20 _ _ aq,?_⟩
   try simp +decide only [E,reduceIte,Nat.reduceAdd,Nat.reduceMul,qB,qC,L,ti3,ti4,Ja,mI,O0,M.aAO.en,EN,b3,f11,aa,ae,af,ah,ai,aj,ak,al,ao,aw,ax,ay]
   refine ⟨_,c26 _ _ ar,?_⟩
   try simp +decide only [E,reduceIte,Nat.reduceAdd,Nat.reduceMul,qB,qC,L,ti3,ti4,Ja,mI,O0,M.aAO.en,EN,b3,f11,aa,ae,af,ah,ai,aj,ak,al,ao,aw,ax,ay]
   refine ⟨_,c27 _ _ _ av,?_⟩
   try simp +decide only [E,reduceIte,Nat.reduceAdd,Nat.reduceMul,qB,qC,L,ti3,ti4,Ja,mI,O0,M.aAO.en,EN,b3,f11,aa,ae,af,ah,ai,aj,ak,al,ao,aw,ax,ay]
   refine ⟨_,c28 _ _ _ az,?_⟩
   try simp +decide only [E,reduceIte,Nat.reduceAdd,Nat.reduceMul,qB,qC,L,ti3,ti4,Ja,mI,O0,M.aAO.en,EN,b3,f11,aa,ae,af,ah,ai,aj,ak,al,ao,aw,ax,ay]
   refine ⟨_,c20 _ _ b7,?_⟩
   try simp +decide only [E,reduceIte,Nat.reduceAdd,Nat.reduceMul,qB,qC,L,ti3,ti4,Ja,mI,O0,M.aAO.en,EN,b3,f11,aa,ae,af,ah,ai,aj,ak,al,ao,aw,ax,ay]
   refine ⟨_,c29 _ _ bf,?_⟩
   try simp +decide only [E,reduceIte,Nat.reduceAdd,Nat.reduceMul,qB,qC,L,ti3,ti4,Ja,mI,O0,M.aAO.en,EN,b3,f11,aa,ae,af,ah,ai,aj,ak,al,ao,aw,ax,ay]
   refine ⟨_,c27 _ _ _ bg,?_⟩
   try simp +decide only [E,reduceIte,Nat.reduceAdd,Nat.reduceMul,qB,qC,L,ti3,ti4,Ja,mI,O0,M.aAO.en,EN,b3,f11,aa,ae,af,ah,ai,aj,ak,al,ao,aw,ax,ay]
   exact ⟨.mk qf,Is.mk _⟩
  cases h
  refine gF ⟨?_,trivial⟩<;>(try simp +decide only [F,reduceIte,Nat.reduceAdd,qB,qC,EN, *,-h])
 clear bd
 rintro cq ⟨f39,_⟩
 refine rt ?_
 cases h
 simp [Ret,TB,EN, *]
end Go.Proofs.YtipmihbgjolaaaaGreat.gen
