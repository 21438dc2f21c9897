/-
  Helper text. No conditions.
-/
import Derived.Test.YtjlnkcoeghonfaaGreatRunningPagesWimpl10
import Derived.Test.YtjlnkcoeghonfaaGreatRunningPagesWmark
import Derived.Test.YtjlnkcoeghonfaaGreatRunningPagesWspec13
set_option linter.all false
namespace Go.Proofs.YtjlnkcoeghonfaaGreat.gen
open Go Go.Sh
set_option maxRecDepth 20000
set_option maxHeartbeats 4000000
theorem Jq(p0 r)(h:uT p0=some r):Sc 5 [aL enB p0] [rB r]:=by
 unfold uT at h
 simp only[EN]
 refine sgn 135 [.tmp 2] Tryz.func5 λbase wd=> ?_
 refine sq (rn ?_)
 refine an (sq (sq ?_))
 obtain⟨x1,h2,h⟩:=aA h
 refine rn1 (c15 _ _ h2) ?_
 refine an ?_
 rcases dX x1 with b3|b3
 ·replace h:=bN b3 h;refine ct (sq (rn ?_));exact an (rt zR)
 replace h:=bM b3 h
 refine cf (sk (an (sq ?_)))
 obtain⟨x4,h5,h⟩:=aA h
 refine rn1 (c16 _ _ h5) ?_
 refine an (sq ?_)
 obtain⟨x6,h7,h⟩:=aA h
 refine rn1 (c9.1 _ _ _ h7) ?_
 refine an (sq ?_)
 obtain⟨x8,h9,h⟩:=aA h
 refine rn1 (c7.1 _ _ _ h9) ?_
 refine an (sq ?_)
 obtain⟨cj,bf,h⟩:=aA h
 obtain⟨V1,j⟩:=nmH ((1,oW 147 3 M.Fy.en x4.1.aLe.aL8))
 obtain⟨V2,C⟩:=nmH ((1,oW 147 3 M.Fy.en x6.1.aLe.aL8))
 obtain⟨V3,I⟩:=nmH ((1,oW 144 4 M.uY.en x4.1.aLk.aLk))
 obtain⟨V4,J⟩:=nmH ((1,oW 144 4 M.uY.en x6.1.aLk.aLk))
 obtain⟨V5,U⟩:=nmH ((1,oW 156 5 M.aLj.en x4.1.aLh))
 obtain⟨V6,eV6⟩:=nmH ((1,oW 156 5 M.aLj.en x6.1.aLh))
 obtain⟨V7,eV7⟩:=nmH ((1,oW 91 11 M.bO.en x4.1.aLf))
 obtain⟨V8,eV8⟩:=nmH ((1,oW 91 11 M.bO.en x6.1.aLf))
 refine tV (λs=>s.t 3=vP 3 1 0/\s.t 4=vI x4.2/\s.t 5=vP 5 1 0/\s.t 6=vI x6.2/\s.t 40=vB cj/\s.h 3=(1,oB 50 [cI x4.1.Now,cB x4.1.aLt,cI x4.1.aLZ,.row 400017 1,.row 500017 1,cI x4.1.aLd,.row 700017 1,.row 800017 1,.row 900017 1,.row 1000017 1])/\s.h 5=(1,oB 50 [cI x6.1.Now,cB x6.1.aLt,cI x6.1.aLZ,.row 400023 1,.row 500023 1,cI x6.1.aLd,.row 700023 1,.row 800023 1,.row 900023 1,.row 1000023 1])/\s.h 400017=(1,oW 84 24 M.Bucket.en x4.1.aC.Buckets)/\s.h 400023=(1,oW 84 24 M.Bucket.en x6.1.aC.Buckets)/\s.h 500017=V7/\s.h 500023=V8/\s.h 700017=V3/\s.h 700023=V4/\s.h 800017=V1/\s.h 800023=V2/\s.h 900017=(1,oW 151 4 M.aLa.en x4.1.aLp)/\s.h 900023=(1,oW 151 4 M.aLa.en x6.1.aLp)/\s.h 1000017=V5/\s.h 1000023=V6/\True) ?_ ?_
 ·replace h:=bf;clear bf;rcases dX (x6.2 !=x8.2)with bg|bg;(replace h:=bN bg h;refine rn ?_;cases h;exact cZ zM);replace h:=bM bg h;obtain⟨fc,cw,h⟩:=aA h;refine rn1 (c17 _ _ _ cw) ?_;cases h;exact cZ zM
 clear bf
 rintro ck f13
 rcases dX cj with aj|aj
 ·replace h:=bN aj h;refine ct (sq (rn ?_));exact an (rt zR)
 replace h:=bM aj h
 refine cf (sk (an (sq ?_)))
 obtain⟨ba,cx,h⟩:=aA h
 refine rn1 (c18.1 _ _ _ cx) ?_
 refine an (sq (sq (rn ?_)))
 refine an (bk ?_)
 refine Hn (λm s=>∃v10:Int,s.h 3=ck.h 3/\s.h 5=ck.h 5/\s.t 3=vP 3 1 0/\s.t 4=vI x4.2/\s.t 5=vP 5 1 0/\s.t 6=vI x6.2/\s.t 9=vI ba/\s.t 10=vI v10/\s.h 400017=(1,oW 84 24 M.Bucket.en x4.1.aC.Buckets)/\s.h 400023=(1,oW 84 24 M.Bucket.en x6.1.aC.Buckets)/\s.h 500017=V7/\s.h 500023=V8/\s.h 700017=V3/\s.h 700023=V4/\s.h 800017=V1/\s.h 800023=V2/\s.h 900017=(1,oW 151 4 M.aLa.en x4.1.aLp)/\s.h 900023=(1,oW 151 4 M.aLa.en x6.1.aLp)/\s.h 1000017=V5/\s.h 1000023=V6/\gQ x4 x6 ba m v10=some r) aH ?_ ?_
 ·exact⟨0,zM⟩
 rintro mL1 cl ⟨v10,f45,f46,f39,f40,f41,f42,f43,f44,f47,f48,f49,f50,f51,f52,f53,f54,f55,f56,f57,f58,h⟩
 replace f45:=f45.trans f13.2.2.2.2.2.1
 replace f46:=f46.trans f13.2.2.2.2.2.2.1
 rcases mL1 with _|mL1
 ·exact absurd h (by simp[gQ])
 simp only[gQ]at h
 refine sq ?_
 obtain⟨cn,bh,h⟩:=aA h
 refine tV (λs=>s.h 3=cl.h 3/\s.h 5=cl.h 5/\s.t 3=vP 3 1 0/\s.t 4=vI x4.2/\s.t 5=vP 5 1 0/\s.t 6=vI x6.2/\s.t 9=vI ba/\s.t 10=vI v10/\s.t 57=vB cn/\s.h 400017=(1,oW 84 24 M.Bucket.en x4.1.aC.Buckets)/\s.h 400023=(1,oW 84 24 M.Bucket.en x6.1.aC.Buckets)/\s.h 500017=V7/\s.h 500023=V8/\s.h 700017=V3/\s.h 700023=V4/\s.h 800017=V1/\s.h 800023=V2/\s.h 900017=(1,oW 151 4 M.aLa.en x4.1.aLp)/\s.h 900023=(1,oW 151 4 M.aLa.en x6.1.aLp)/\s.h 1000017=V5/\s.h 1000023=V6/\True) ?_ ?_
 ·replace h:=bh;clear bh;rcases Dz (decide (v10<(List.length x4.1.aC.Buckets:Int)))with bj|bj;(replace h:=bM bj h;refine rn ?_;cases h;exact cZ zM);replace h:=bN bj h;rcases Dz (decide (ba>=0))with bl|bl;(replace h:=bM bl h;refine rn ?_;cases h;exact cZ zM);replace h:=bN bl h;obtain⟨fe,cy,h⟩:=aA h;refine rn1 (c19.1 _ _ cy) ?_;cases h;exact cZ zM
 clear bh
 rintro cp ⟨f69,f70,f62⟩
 replace f69:=f69.trans f45
 replace f70:=f70.trans f46
 rcases dX cn with ak|ak
 ·replace h:=bN ak h;refine ct (sk (an (sq (bk (sq ?_)))));obtain⟨cq,cz,h⟩:=aA h;obtain⟨ff,fg,fh⟩:=nJ cz;refine rn ?_;refine an ?_;obtain⟨cr,bm,h⟩:=aA h;refine tV (λs=>s.h 3=cp.h 3/\s.h 5=cp.h 5/\s.t 3=vP 3 1 0/\s.t 4=vI x4.2/\s.t 5=vP 5 1 0/\s.t 6=vI x6.2/\s.t 9=vI ba/\s.t 10=vI v10/\s.t 104=vB cr/\s.h 400017=(1,oW 84 24 M.Bucket.en x4.1.aC.Buckets)/\s.h 400023=(1,oW 84 24 M.Bucket.en x6.1.aC.Buckets)/\s.h 500017=V7/\s.h 500023=V8/\s.h 700017=V3/\s.h 700023=V4/\s.h 800017=V1/\s.h 800023=V2/\s.h 900017=(1,oW 151 4 M.aLa.en x4.1.aLp)/\s.h 900023=(1,oW 151 4 M.aLa.en x6.1.aLp)/\s.h 1000017=V5/\s.h 1000023=V6/\True) ?_ ?_;(replace h:=bm;clear bm;obtain⟨bd,bn,h⟩:=aA h;obtain⟨da,db,df⟩:=nJ bn;rcases dX (!(cq.aLa.toList==bd.aLa.toList))with aq|aq;(replace h:=bN aq h;rcases dX (decide (v10>=(List.length x6.1.aC.Buckets:Int)))with ar|ar;(replace h:=bN ar h;refine rd mixed ?_;cases h;exact cZ zM);replace h:=bM ar h;obtain⟨dg,bo,h⟩:=aA h;obtain⟨dh,di,dj⟩:=nJ bo;obtain⟨dk,bq,h⟩:=aA h;refine rd1 mixed (c20 _ _ _ bq) ?_;cases h;exact cZ zM);replace h:=bM aq h;rcases Dz (!(cq.Top.toList==bd.Top.toList))with av|av;(replace h:=bM av h;refine rd mixed ?_;cases h;exact cZ zM);replace h:=bN av h;rcases dX (decide (v10>=(List.length x6.1.aC.Buckets:Int)))with aw|aw;(replace h:=bN aw h;refine rd mixed ?_;cases h;exact cZ zM);replace h:=bM aw h;obtain⟨dm,br,h⟩:=aA h;obtain⟨dn,dq,du⟩:=nJ br;obtain⟨dw,bt,h⟩:=aA h;refine rd1 mixed (c20 _ _ _ bt) ?_;cases h;exact cZ zM);clear bm;rintro fj ⟨f103,f104,f96⟩;replace f103:=f103.trans f69;replace f104:=f104.trans f70;rcases dX cr with ax|ax;(replace h:=bN ax h;refine ct (sq (rn ?_));exact an (rt zR));replace h:=bM ax h;refine cf (sk (ab (an (rn ?_))));exact cZ ⟨mL1,wi,IntKind.i64.wrap (v10+1),zM⟩
 replace h:=bM ak h
 refine cf (xt (Da (CW (GI (an (sq ?_))))))
 obtain⟨dx,bu,h⟩:=aA h
 refine rn1 (c14 _ _ _ bu) ?_
 refine an ?_
 obtain⟨bw,ay,h⟩:=aA h
 refine tV (λs=>s.t 2=vB bw/\True) ?_ ?_
 ·replace h:=ay
  clear ay
  obtain⟨dy,al,h⟩:=aA h
  obtain⟨bx,ao,h⟩:=aA h
  rcases Dz bx with aa|aa
  ·replace h:=bM aa h;refine rd2 mixed (c13 _ _ _ al) (c17 _ _ _ ao) ?_;cases h;exact cZ zM
  replace h:=bN aa h
  rcases dX (decide (x6.2>=0))with ae|ae
  ·replace h:=bN ae h
   rcases dX (decide (x6.2<0))with ai|ai
   ·replace h:=bN ai h;refine rd2 mixed (c13 _ _ _ al) (c17 _ _ _ ao) ?_;cases h;exact cZ zM
   replace h:=bM ai h
   obtain⟨dz,bz,h⟩:=aA h
   obtain⟨ef,ca,h⟩:=aA h
   apply D8 mixed
   ·simp+decide only[E,reduceIte,Nat.reduceAdd,Nat.reduceMul,qB,qC,L,ti4,Ir,EN,b3,aj,f69,f70,f62,ak,aa,ae,ai,j,C,I,J,U,eV6,eV7,eV8]
    refine⟨_,c13 _ _ _ al,?_⟩
    try simp+decide only[E,reduceIte,Nat.reduceAdd,Nat.reduceMul,qB,qC,L,ti4,Ir,EN,b3,aj,f69,f70,f62,ak,aa,ae,ai,j,C,I,J,U,eV6,eV7,eV8]
    refine⟨_,c17 _ _ _ ao,?_⟩
    try simp+decide only[E,reduceIte,Nat.reduceAdd,Nat.reduceMul,qB,qC,L,ti4,Ir,EN,b3,aj,f69,f70,f62,ak,aa,ae,ai,j,C,I,J,U,eV6,eV7,eV8]
    refine⟨_,c21 _ _ _ bz,?_⟩
    try simp+decide only[E,reduceIte,Nat.reduceAdd,Nat.reduceMul,qB,qC,L,ti4,Ir,EN,b3,aj,f69,f70,f62,ak,aa,ae,ai,j,C,I,J,U,eV6,eV7,eV8]
    refine⟨_,c22 _ _ _ ca,?_⟩
    try simp+decide only[E,reduceIte,Nat.reduceAdd,Nat.reduceMul,qB,qC,L,ti4,Ir,EN,b3,aj,f69,f70,f62,ak,aa,ae,ai,j,C,I,J,U,eV6,eV7,eV8]
    exact⟨.mk wM,Is.mk _⟩
   cases h
   exact cZ zM
  replace h:=bM ae h
  obtain⟨cc,az,h⟩:=aA h
  rcases Dz cc with af|af
  ·replace h:=bM af h;refine rd3 mixed (c13 _ _ _ al) (c17 _ _ _ ao) (c17 _ _ _ az) ?_;cases h;exact cZ zM
  replace h:=bN af h
  rcases dX (decide (x6.2<0))with ah|ah
  ·replace h:=bN ah h;refine rd3 mixed (c13 _ _ _ al) (c17 _ _ _ ao) (c17 _ _ _ az) ?_;cases h;exact cZ zM
  replace h:=bM ah h
  obtain⟨et,cd,h⟩:=aA h
  obtain⟨eu,cg,h⟩:=aA h
  apply D8 mixed
  ·simp+decide only[E,reduceIte,Nat.reduceAdd,Nat.reduceMul,qB,qC,L,ti4,Ir,EN,b3,aj,f69,f70,f62,ak,aa,ae,af,ah,j,C,I,J,U,eV6,eV7,eV8]
   refine⟨_,c13 _ _ _ al,?_⟩
   try simp+decide only[E,reduceIte,Nat.reduceAdd,Nat.reduceMul,qB,qC,L,ti4,Ir,EN,b3,aj,f69,f70,f62,ak,aa,ae,af,ah,j,C,I,J,U,eV6,eV7,eV8]
   refine⟨_,c17 _ _ _ ao,?_⟩
   try simp+decide only[E,reduceIte,Nat.reduceAdd,Nat.reduceMul,qB,qC,L,ti4,Ir,EN,b3,aj,f69,f70,f62,ak,aa,ae,af,ah,j,C,I,J,U,eV6,eV7,eV8]
   refine⟨_,c17 _ _ _ az,?_⟩
   try simp+decide only[E,reduceIte,Nat.reduceAdd,Nat.reduceMul,qB,qC,L,ti4,Ir,EN,b3,aj,f69,f70,f62,ak,aa,ae,af,ah,j,C,I,J,U,eV6,eV7,eV8]
   refine⟨_,c21 _ _ _ cd,?_⟩
   try simp+decide only[E,reduceIte,Nat.reduceAdd,Nat.reduceMul,qB,qC,L,ti4,Ir,EN,b3,aj,f69,f70,f62,ak,aa,ae,af,ah,j,C,I,J,U,eV6,eV7,eV8]
   refine⟨_,c22 _ _ _ cg,?_⟩
   try simp+decide only[E,reduceIte,Nat.reduceAdd,Nat.reduceMul,qB,qC,L,ti4,Ir,EN,b3,aj,f69,f70,f62,ak,aa,ae,af,ah,j,C,I,J,U,eV6,eV7,eV8]
   exact⟨.mk wM,Is.mk _⟩
  cases h
  exact cZ zM
 clear ay
 rintro fa ⟨f146,_⟩
 exact rt zR
