/-
  Helper text. No conditions.
-/
import Derived.Test.YtbpbocchokbggaaGreatUpdatesPd9
set_option linter.all false
namespace Go.Proofs.YtbpbocchokbggaaGreat.gen
open Go Go.Sh
theorem aBP{w:M.World}{a b:ByteArray}(hw:w.ok)(hz:M.World.sz w<=1048576):∃R:M.World×Bool,dC w a b=some R/\rO w a b=some R/\(R=(w,false)\/aGB w a b R):=by
 have hz':=hz
 simp only[M.World.sz,M.aA.sz]at hz'
 obtain⟨T,eT,t0,tk⟩:=Rk w a
 unfold dC rO gR
 rw[uV hw.aA,vH hw.aA,Ce w jB,BU hw hz,E3 hw hz,AM w jB,vC,eT]
 simp only[qA]
 by_cases h:iJ (nAt a b) w.aA.aI4<0
 ·simp only[h,decide_true,if_true,qA];refine⟨(w,false),?_,?_,.inl rfl⟩<;>cases zO w<;>simp
 ·obtain⟨j,ej,hj⟩:=dK h
  simp only[h,decide_false,qD,if_false]
  rw[ej,aJ hj]
  simp only[qA,qB,qD,if_false]
  cases hn:zO w with
  |false=>exact⟨(w,false),jD,jD,.inl rfl⟩
  |true=>
   simp only[qB,qD,if_false]
   have hb:=hw.aA.aI4.2 _ (qG hj)
   have z1:=cN (f:=M.aI3.sz) (qG hj)
   have nb:=TP hn hj
   generalize hqe:w.aA.aI4[j]=q at hb z1 nb
   unfold oI at nb
   simp only[qM]at nb
   have nr:=XO nb.2.2.1
   have nc:=nb.2.2.2.2.1
   have zn:0<=FH q.aIz:=by unfold FH;omega
   rw[HK,HG]
   simp only[qA]
   by_cases h2:Ah a<0
   ·have e:=t0 h2
    have h3:T.aI0<=FH q.aIz:=by omega
    simp only[h2,h3,decide_true,if_true]
    exact⟨(w,false),rfl,rfl,.inl rfl⟩
   ·obtain⟨k,ek,hk⟩:=JU h2
    have C:k<w.aJL.length:=by rw[GN hn];exact hk
    have eT2:=tk k C ek
    simp only[h2,decide_false,qD,if_false]
    rw[ek,aJ C,<-eT2]
    have ht:T.ok:=by rw[eT2];exact hw.aJL.2 _ (qG C)
    have zt:M.aI7.sz T<=1048576:=by have:=cN (f:=M.aI7.sz) (qG C);rw[<-eT2]at this;omega
    clear eT tk t0
    simp only[qA]
    rw[Ix hb.aIz ht.aI0,Ik hb.aIz ht.aI0]
    simp only[qA]
    have okb:=Uz hb.aIz ht.aI0
    have szb:=TC q.aIz T.aI0
    generalize hBe:Ct q.aIz T.aI0=B at okb szb
    have z2:M.aC.sz q.aI1+M.aIz.sz q.aIz<=M.aI3.sz q:=by simp only[M.aI3.sz];omega
    cases hB:B.2 with
    |false=>
     refine⟨(w,false),jD,?_,.inl rfl⟩
     by_cases h3:T.aI0<=FH q.aIz<;>simp[h3]
    |true=>
     simp only[qB,qD,if_false]
     by_cases h3:T.aI0<=FH q.aIz
     ·simp only[h3,decide_true,if_true];exact⟨(w,false),rfl,rfl,.inl rfl⟩
     ·simp only[h3,decide_false,qD,if_false]
      rw[Ic hb.aI1 jB ht ht.aI0 zt,Ir hb.aI1 jB ht ht.aI0 zt]
      obtain⟨oki,nci⟩:=Uy (o:=w.aJV) hb.aI1 nc ht ht.aI0 zt
      generalize P7 q.aI1 T T.aI0 w.aJV=I at oki nci
      have zi:=Bn nci
      simp only[qA]
      rw[Ke okb,JT okb]
      have U:=aAV (ok:=I.2) okb
      have sze:=aAU B.1 I.2
      generalize hEe:UD B.1 I.2=E at U sze
      simp only[qA]
      rw[Gf oki jB,Gk oki jB]
      simp only[qA]
      have hd:(if(E.2 !=0)=true then(gX w q (ET I.1 E.2).1 E.1).bind λaa=>if(!aa.2)=true then some (w,false)else some (aa.1,I.2)else(gX w q I.1 E.1).bind λae=>if(!ae.2)=true then some (w,false)else some (ae.1,I.2))=(gX w q (ET I.1 E.2).1 E.1).bind λaa=>if(!aa.2)=true then some (w,false)else some (aa.1,I.2):=by
       by_cases h0:E.2=0
       ·have:(ET I.1 E.2).1=I.1:=by unfold ET;rw[h0,if_pos (Pe nci)]
        rw[this,ite_self]
       ·rw[if_pos (by simpa using h0)]
      rw[hd]
      have J:=Pp (v:=E.2) oki
      have szd:=Oz I.1 E.2
      generalize (ET I.1 E.2).1=s at J szd
      have zs:(M.aC.sz s+M.aIz.sz E.1)<=536870912:=by omega
      have zo:M.aI2.sz (bD q s E.1).bR.aJQ<=1048576:=xV (b:=q) jB
      have zr:=B1 q s E.1
      have zc:=Sk q (bD q s E.1)
      have zd:=Se (b:=q) (o:=bD q s E.1) jB zo
      have ok3:=RO hb (AK hb J U)
      rw[DU hb J U jB zs zo,qA,Ff hw hb J U hz jB zs,FP hw ok3 hz jB zd]
      generalize hYe:LQ q (bD q s E.1)=Y at zc ok3
      simp only[qA]
      have ok4:=Y0 (ok:=Y.2) hw ok3 hz
      have sz4:=Ya w Y.1 Y.2
      have hf:(ER w Y.1 Y.2).2=false->(ER w Y.1 Y.2).1=w:=by unfold ER;split;(split<;>simp);·simp
      generalize hZe:ER w Y.1 Y.2=Z at ok4 sz4 hf
      cases hZ:Z.2 with
      |false=>exact⟨(w,false),by simp[hf hZ],jD,.inl rfl⟩
      |true=>
       refine⟨(Z.1,I.2),jD,jD,.inr ⟨hn,?_⟩⟩
       obtain⟨z1',z2',z3'⟩:=QY (w:=w) (b:=Y.1) (ok:=Y.2) (by rw[hZe];exact hZ)
       rw[hZe]at z3'
       obtain⟨y1,y2⟩:=SX (b:=q) (o:=bD q s E.1) (by rw[hYe];exact z1')
       rw[hYe]at y1
       rw[y1]at z2' z3'
       subst hqe
       refine⟨j,hj,k,C,s,E.1,ej,ek,J,U,jB,jB,λhI=> ?_,z2',z3'⟩
       have hBT:(Ct w.aA.aI4[j].aIz T.aI0).2=true:=by rw[hBe];exact hB
       have:=Z2 hBT (show I.2=true from hI)
       rw[hBe,hEe]at this
       rw[<-eT2]
       exact this
def aGv(w:M.World)(a b:ByteArray)(R:M.World×Bool):Prop:=zO w=true/\∃(j:Nat) (C:j<w.aA.aI4.length) (v:Int) (r:M.aIz),iJ (nAt a b) w.aA.aI4=(j:Int)/\UI w.aA.aI4[j].aIz (IV (w.aJI.filter (Vw a b)) a)=(r,v,true)/\r.ok/\M.aIz.sz r=M.aIz.sz w.aA.aI4[j].aIz/\(E6 w.aA (bD w.aA.aI4[j] (ET w.aA.aI4[j].aI1 v).1 r)).2=true/\R.1={ w with aA:=(E6 w.aA (bD w.aA.aI4[j] (ET w.aA.aI4[j].aI1 v).1 r)).1 }
theorem aBf{w:M.World}{a b:ByteArray}(J:w.ok)(U:M.World.sz w<=1048576):∃R:M.World×Bool,eI w a b=some R/\nQ w a b=some R/\(R=(w,false)\/(R.2=true/\aGv w a b R)):=by
 have hz':=U
 simp only[M.World.sz,M.aA.sz]at hz'
 unfold eI nQ gR
 rw[uV J.aA,vH J.aA,Ce w jB,BU J U,E3 J U,AM w jB]
 simp only[qA]
 by_cases h:iJ (nAt a b) w.aA.aI4<0
 ·simp only[h,decide_true,if_true,qA];refine⟨(w,false),?_,?_,.inl rfl⟩<;>cases zO w<;>simp
 ·obtain⟨j,ej,hj⟩:=dK h
  simp only[h,decide_false,qD,if_false]
  rw[ej,aJ hj]
  simp only[qA,qB,qD,if_false]
  cases hn:zO w with
  |false=>exact⟨(w,false),jD,jD,.inl rfl⟩
  |true=>
   simp only[qB,qD,if_false]
   have hb:=J.aA.aI4.2 _ (qG hj)
   have z1:=cN (f:=M.aI3.sz) (qG hj)
   have hlf:=List.length_filter_le (Vw a b) w.aJI
   generalize hqe:w.aA.aI4[j]=q at hb z1
   have z2:M.aC.sz q.aI1+M.aIz.sz q.aIz<=M.aI3.sz q:=by simp only[M.aI3.sz];omega
   have hu:(IV (w.aJI.filter (Vw a b)) a).length<=1048576:=qf (Wy _ _) jB
   rw[Nv U,Nt U,qA,qA,Io jB,Iu jB,qA,qA,M5 hb.aIz hu,MJ hb.aIz hu,qA,qA]
   have C:=aAI (l:=IV (w.aJI.filter (Vw a b)) a) hb.aIz
   have sz1:=ZD q.aIz (IV (w.aJI.filter (Vw a b)) a)
   generalize hTe:UI q.aIz (IV (w.aJI.filter (Vw a b)) a)=T at C sz1
   obtain⟨r,v,c⟩:=T
   simp only at C sz1⊢
   have I:=Pp (v:=v) hb.aI1
   have sz2:=Oz q.aI1 v
   rw[Gf hb.aI1 jB,Gk hb.aI1 jB,qA,qA]
   generalize hse:(ET q.aI1 v).1=s at I sz2
   have zs:(M.aC.sz s+M.aIz.sz r)<=536870912:=by omega
   have zo:M.aI2.sz (bD q s r).bR.aJQ<=1048576:=xV (b:=q) jB
   have zr:=B1 q s r
   have zc:=Sk q (bD q s r)
   have zd:=Se (b:=q) (o:=bD q s r) jB zo
   have ok3:=RO hb (AK hb I C)
   rw[DU hb I C jB zs zo,qA,Ff J hb I C U jB zs,FP J ok3 U jB zd,FP J ok3 U jB zd]
   generalize hYe:LQ q (bD q s r)=Y at zc ok3
   simp only[qA]
   cases c with
   |false=>exact⟨(w,false),by simp[ER],jD,.inl rfl⟩
   |true=>
    refine⟨ER w Y.1 Y.2,jD,jD,?_⟩
    cases hZ:(ER w Y.1 Y.2).2 with
    |false=>exact .inl (X5 hZ)
    |true=>
     obtain⟨z1',z2',z3'⟩:=QY hZ
     obtain⟨y1,y2⟩:=SX (b:=q) (o:=bD q s r) (by rw[hYe];exact z1')
     rw[hYe]at y1
     rw[y1,<-hse]at z2' z3'
     subst hqe
     rw[y1,<-hse]
     exact .inr ⟨rfl,hn,j,hj,v,r,ej,hTe,C,sz1,z2',z3'⟩
theorem LO{a b:ByteArray}{q:M.aI3}(h:nAt a b q=true):nAt q.aI7 q.Top=nAt a b:=by unfold nAt at h;rw[qM]at h;funext x;unfold nAt;rw[eq_of_beq h.1,eq_of_beq h.2]
theorem aBF{m n Z:Nat}{w:M.World}{a:ByteArray}(h:wd3 m n Z w)(I:lit m n Z):∃R,lD w a=some R/\(CH w a=some R/\wd3 m n Z R.1):=by obtain⟨R,e1,e2,_,hR⟩:=aBc (a:=a) (h.1.ok' I) (h.1.sz' I);refine⟨R,e1,e2,?_⟩;rcases hR with rfl|⟨k,hk,rfl⟩;(exact h);·obtain⟨⟨U,a2,a3,a4,a5,a6,a7,C,a9⟩,aa,ae⟩:=h;have J:=C.2 _ (qG hk);refine⟨⟨U,a2,a3,a4,a5,a6,a7,⟨by show(w.aJL.set k _).length<=3;rw[qN];exact C.1,λs j=> ?_⟩,a9⟩,by show(w.aJL.set k _).length=3;rw[qN];exact aa,ae⟩;rcases jA j with j|rfl;(exact C.2 s j);·exact⟨WE J.1,by rw[WG];exact J.2⟩
theorem Qc{q:M.aI3}{s:M.aC}{r:M.aIz}(j:bkJ q)(I:s.ok)(C:r.ok):bkJ (bD q s r):=⟨j.1,j.2.1,AK j.2.2 I C⟩
theorem PH{q:M.aI3}{s:M.aC}{r:M.aIz}{c:Nat}(j:M.aIz.sz r=M.aIz.sz q.aIz)(C:M.aC.sz s<=M.aC.sz q.aI1+c):M.aI3.sz (bD q s r)<=M.aI3.sz q+c:=by simp only[bD,M.aI3.sz];omega
theorem WW{m n Z:Nat}{w:M.World}{a b:ByteArray}(h:wdG m n Z w)(hm:lit m n Z):∃R,dC w a b=some R/\(rO w a b=some R/\(wdG m n (Z+66000) R.1/\R.1.aJL=w.aJL/\R.1.aJK=w.aJK)/\(R=(w,false)\/aGB w a b R)):=by obtain⟨R,e1,e2,U⟩:=aBP (a:=a) (b:=b) (h.ok' hm) (h.sz' hm);refine⟨R,e1,e2,?_,U⟩;rcases U with rfl|⟨_,j,hj,k,hk,s,r,J,_,ks,kr,zs,zr,_,_,e⟩;(exact⟨h.mono jB jB jB,rfl,rfl⟩);·rw[e];obtain⟨a1,a2,I,a4⟩:=h;have hq:=I.2.1 _ (qG hj);obtain⟨_,C⟩:=xI J;refine⟨⟨a1,a2,(RS (c:=65536) I (Qc hq ks kr) hj (by show iJ (nAt w.aA.aI4[j].aI7 w.aA.aI4[j].Top) _=_;rw[LO C];exact J) (PH zr jB)).mono (qe _) jB,a4⟩,rfl,rfl⟩
theorem Y5{m n Z:Nat}{w:M.World}{a b:ByteArray}(h:wdG m n Z w)(hm:lit m n Z):∃R,eI w a b=some R/\(nQ w a b=some R/\(wdG m n Z R.1/\R.1.aJL=w.aJL/\R.1.aJK=w.aJK)/\(R=(w,false)\/(R.2=true/\aGv w a b R))):=by obtain⟨R,e1,e2,U⟩:=aBf (a:=a) (b:=b) (h.ok' hm) (h.sz' hm);refine⟨R,e1,e2,?_,U⟩;rcases U with rfl|⟨_,_,j,hj,v,r,J,_,kr,zr,_,e⟩;(exact⟨h,rfl,rfl⟩);·rw[e];obtain⟨a1,a2,I,a4⟩:=h;have hq:=I.2.1 _ (qG hj);obtain⟨_,C⟩:=xI J;have hd:=Oz w.aA.aI4[j].aI1 v;refine⟨⟨a1,a2,(RS (c:=0) I (Qc hq (Pp hq.2.2.aI1) kr) hj (by show iJ (nAt w.aA.aI4[j].aI7 w.aA.aI4[j].Top) _=_;rw[LO C];exact J) (PH zr jB)).mono (qe _) jB,a4⟩,rfl,rfl⟩
theorem Z4{b:List Int}{i h:Int}{m n Z:Nat}{w:M.World}(c0:okC b i h)(I:wd3 m n Z w)(hm:lit m n Z):Dr b (wd3 (m+1) (n+1) (Z+66000)) (Ca (⟨b,i,h⟩:M.aM) w):=by
 have up:∀{v:M.World},wd3 m n Z v->wd3 (m+1) (n+1) (Z+66000) v:=λhv=>hv.mono jB jB jB
 have fin:∀{ci ch:Int} {a t:ByteArray},okC b ci ch->a.size<=16->t.size<=16->Dr b (wd3 (m+1) (n+1) (Z+66000)) ((aF (⟨b,ci,ch⟩:M.aM) 6).bind λj=>if(j.2.2==0)=true then(lD w a).bind λah=>some (j.1,j.2.1,ah.1)else if(j.2.2==1)=true then(dC w a t).bind λai=>some (j.1,j.2.1,ai.1)else if(j.2.2==2)=true then(dC w a t).bind λaj=>some (j.1,j.2.1,aj.1)else if(j.2.2==3)=true then(eI w a t).bind λak=>some (j.1,j.2.1,ak.1)else if(j.2.2==4)=true then(jY (⟨b,j.1,j.2.1⟩:M.aM)).bind λae=>(lM w a t ae.2.2).bind λal=>some (ae.1,ae.2.1,al.1)else(aF (⟨b,j.1,j.2.1⟩:M.aM) 4).bind λaf=>(lX w (IntKind.i64.wrap (1+af.2.2))).bind λao=>some (af.1,af.2.1,ao.1)):=by
  intro ci ch a t hc ha ht
  refine .bnd (aT hc) λi1 v1 r1 J q1=> ?_
  dsimp only
  split
  ·exact .Gl (aBF I hm) λR C=>.ret J (up C.2)
  split
  ·exact .Gl (WW (w:=w) I.1 hm) λR C=>.ret J ((I.to C.2.1).mono jB jB jB)
  split
  ·exact .Gl (WW (w:=w) I.1 hm) λR C=>.ret J ((I.to C.2.1).mono jB jB jB)
  split
  ·exact .Gl (Y5 (w:=w) I.1 hm) λR C=>.ret J (up (I.to C.2.1))
  split
  ·exact .bnd (FE J) λi2 v2 r2 U q2=>.Gl (R5 (w:=w) I.1 hm ha ht q2) λR C=>.ret U ((I.to C.1).mono jB jB jB)
  ·exact .bnd (aT J) λi2 v2 r2 U q2=>.Gl (Tf (w:=w) I.1 hm) λR C=>.ret U (up (I.to C.1))
 unfold Ca
 refine .bnd (DE c0) λi1 v1 a J q1=>.bnd (Ab J) λi2 v2 r2 U q2=> ?_
 dsimp only
 split
 ·exact .bnd (DE U) λi3 v3 t c3 q3=>fin c3 q1 q3
 ·exact fin U q1 q1
theorem T0{b:List Int}{i h:Int}(J:okC b i h):Dr b (wd3 10 10 400400) (Bk (⟨b,i,h⟩:M.aM)):=by
 unfold Bk
 refine .bnd (UC J) λi1 v1 w0 U q1=>.bnd (aT U) λi2 v2 r2 c2 I=> ?_
 obtain⟨N,rfl⟩:=BE I.1
 have hN:=I.2.1 jB
 have key:∀(n k:Nat) (w:M.World) (ci j:Int),k<n->k<=6->okC b ci j->wd3 (10-k) (10-k) (4400+66000*(6-k)) w->Dr b (wd3 10 10 400400) (sU (⟨b,i,h⟩:M.aM) n (k:Int) w.Now w.aJV w.aJA w.aJG ci j w.aA.aI4 w.aJI w.aJJ.aJJ w.aJD.aJe w.aJL w.aJK):=by
  intro n
  induction n with
  |zero=>intro k w ci j h _ _ _;omega
  |succ n ih=>
   intro k w ci j hn hk hc C
   simp only[sU]
   cases k with
   |zero=>
    rw[if_neg jD]
    exact .ret hc (C.mono jB jB jB)
   |succ k=>
    rw[if_pos (decide_eq_true jB),Zi k jB]
    refine .bnd (Z4 (w:=w) hc C ⟨jB,jB,jB⟩) λi3 v3 r3 c3 q3=> ?_
    exact ih k r3 i3 v3 jB jB c3 (q3.mono jB jB jB)
 exact key fuel N w0 i2 v2 (mI jB) jB c2 (q1.mono jB jB jB)
theorem YO{b:List Int}{i h:Int}(j:okC b i h):Dr b (wdG 10 11 720000) (CU (⟨b,i,h⟩:M.aM)):=by
 unfold CU
 refine .bnd (T0 j) λi1 v1 U C J=>.bnd (Ab C) λi2 v2 r2 I q2=> ?_
 exact aAm (w:=U) (o:= !r2) I J jB jB jB
theorem Sv{α:Type}{f:α->Bool}:∀{l:List α} {k:Nat},l.findIdx? f=some k->l.find? f=l[k]?
 |[],k,h=>by simp at h
 |x::l,k,h=>by
  rw[List.findIdx?_cons]at h
  rw[List.find?_cons]
  cases hx:f x with
  |true=>
   rw[hx]at h
   simp only[if_true,qb]at h
   subst h
   simp
  |false=>
   rw[hx]at h
   simp only[qD,if_false,Option.map_eq_some_iff]at h
   obtain⟨j,C,rfl⟩:=h
   rw[List.getElem?_cons_succ]
   exact Sv C
theorem UX{α:Type}{f:α->Bool}{l:List α}{k:Nat}(h:iJ f l=(k:Int)):l.find? f=l[k]? :=by
 unfold iJ at h
 cases e:l.findIdx? f with
 |none=>rw[e]at h;simp only at h;omega
 |some j=>
  rw[e]at h
  have:j=k:=by simp only at h;omega
  subst this
  exact Sv e
def X6(s:M.aC)(v:Int)(a b:ByteArray):Bool:=(s.aI1.find? (λc:M.aI5=>c.aI0==v)).any λc=>decide (0<=iJ (DV a b) c.aJB)
theorem Xw{s:M.aC}{u v:Int}{a b:ByteArray}(h:u≠v):X6 (ET s v).1 u a b=X6 s u a b:=by
 unfold ET
 by_cases h0:iJ (λc:M.aI5=>c.aI0==v) s.aI1<0
 ·rw[if_pos h0]
 ·rw[if_neg h0]
  obtain⟨k,e,hk⟩:=dK h0
  obtain⟨_,j⟩:=xI e
  rw[e,qH]
  unfold X6 L3
  dsimp only
  have C:(s.aI1[k].aI0==u)=false:=by rw[beq_eq_false_iff_ne];have:=eq_of_beq j;omega
  have e2:s.aI1=s.aI1.take k++(s.aI1[k]::s.aI1.drop (k+1)):=by rw[<-qW hk,qm]
  have e3:s.aI1.find? (λc:M.aI5=>c.aI0==u)=(s.aI1.take k++s.aI1.drop (k+1)).find? (λc:M.aI5=>c.aI0==u):=by
   rw[List.find?_append]
   have:s.aI1.find? (λc:M.aI5=>c.aI0==u)=(s.aI1.take k++(s.aI1[k]::s.aI1.drop (k+1))).find? (λc:M.aI5=>c.aI0==u):=by rw[<-e2]
   rw[this,List.find?_append,List.find?_cons,C]
  rw[e3]
theorem Um{s:M.aC}{v:Int}{a b:ByteArray}(J:s.ok)(U:s.sz<=1048576):∃r,zV s v a b=some r/\r.2=X6 s v a b:=by
 unfold zV kW X6
 rw[DL J]
 simp only[qA]
 by_cases h:iJ (λc:M.aI5=>c.aI0==v) s.aI1<0
 ·simp only[h,decide_true,if_true]
  have I:s.aI1.find? (λc:M.aI5=>c.aI0==v)=none:=by rw[List.find?_eq_none];intro c hc;rw[Hp h c hc];simp
  rw[I]
  exact⟨_,rfl,rfl⟩
 ·obtain⟨k,e,hk⟩:=dK h
  simp only[h,decide_false,qD,if_false]
  rw[e,aJ hk,UX e,qF hk]
  have hc:=J.aI1.2 _ (qG hk)
  simp only[qA]
  rw[H4 hc]
  simp only[qA]
  by_cases h2:iJ (DV a b) s.aI1[k].aJB<0
  ·simp only[h2,decide_true,if_true];exact⟨_,rfl,by simp only[qd];symm;exact decide_eq_false jB⟩
  ·obtain⟨j,e2,C⟩:=dK h2
   simp only[h2,decide_false,qD,if_false]
   rw[e2,aJ C]
   have hx:=hc.aJB.2 _ (qG C)
   have z1:=cN (f:=M.aI5.sz) (qG hk)
   have z2:=cN (f:=M.aJE.sz) (qG C)
   unfold M.aC.sz at U
   have q1:M.aI5.sz s.aI1[k]=s.aI1[k].aJB.length+dH M.aJE.sz s.aI1[k].aJB:=rfl
   have q2:M.aJE.sz s.aI1[k].aJB[j]=s.aI1[k].aJB[j].aI7.size+(s.aI1[k].aJB[j].aJk.size+s.aI1[k].aJB[j].aI8.aJr.length):=rfl
   have hb:(s.aI1[k].aJB[j].aI8.aJr).length<=1048576:=by omega
   simp only[qA,gI,mB]
   rw[dS jC]
   exact⟨_,rfl,by simp only[qd];symm;exact decide_eq_true jB⟩
theorem Yl{C:List Int}(hl:C.length<=1048576)(hb:∀x∈C,0<=x/\x<=255):∃x,oD C=some x/\wdG 10 11 720000 x.1:=by
 unfold oD
 obtain⟨h,e,c0⟩:=aAq hl hb
 rw[e,qA]
 have D:Dr C (λx:M.World×ByteArray×ByteArray=>wdG 10 11 720000 x.1) (Bi (⟨C,0,h⟩:M.aM)):=by
  unfold Bi
  refine .bnd (YO c0) λi1 v1 w c1 I=> ?_
  dsimp only
  split
  ·rename_i hp
   refine .bnd (Ab c1) λi2 v2 r2 c2 q2=> ?_
   dsimp only
   split
   ·refine .bnd (aT c2) λi3 v3 r3 j J=> ?_
    obtain⟨k,rfl⟩:=BE J.1
    have hk:=J.2.1 (by simpa using hp)
    have hk':k<w.aA.aI4.length:=by omega
    dsimp only
    rw[aJ hk',qA]
    exact .ret j I
   ·exact .bnd (DE c2) λi3 v3 a j J=>.bnd (DE j) λi4 v4 t U q4=>.ret U I
  ·exact .bnd (DE c1) λi3 v3 a j J=>.bnd (DE j) λi4 v4 t U q4=>.ret U I
 obtain⟨i1,v1,r,e1,_,I⟩:=D
 rw[e1,qA]
 exact⟨_,rfl,I⟩
theorem Zk{s:M.aA}{b:M.aI3}{a t:ByteArray}{j:Nat}(I:j<s.aI4.length)(e:iJ (nAt a t) s.aI4=(j:Int))(hb:nAt b.aI7 b.Top=nAt a t)(C:(E6 s b).2=true):iJ (nAt a t) (E6 s b).1.aI4=(j:Int)/\(E6 s b).1.aI4[j]? =some b:=by rw[(Pu C).1];dsimp only;unfold CJ;rw[hb,e,if_pos jB,qH];exact SH e (by rw[<-hb];exact Px b)
theorem WI{w:M.World}{a b:ByteArray}{q:M.aI3}{j:Nat}(U:w.ok)(I:iJ (nAt a b) w.aA.aI4=(j:Int))(J:w.aA.aI4[j]? =some q):fW w a b=some [q.aIz.aJX,q.aIz.aJT,q.aIz.aJP]:=by obtain⟨C,rfl⟩:=qc.1 J;unfold fW;rw[Na U I C,qA,if_neg jD]
theorem V0{w:M.World}{a b:ByteArray}(I:w.ok):∃r,fW w a b=some r:=by by_cases h:iJ (nAt a b) w.aA.aI4<0;(unfold fW;rw[Rp I h,qA];exact⟨_,rfl⟩);·obtain⟨j,J,C⟩:=dK h;exact⟨_,WI I J (qF C)⟩
theorem Te{w:M.World}{p:M.bG}{f:ByteArray}{q:M.aI3}{j:Nat}(I:w.ok)(hz:M.World.sz w<=1048576)(J:iJ (nAt p.aI7 p.Top) w.aA.aI4=(j:Int))(U:w.aA.aI4[j]? =some q):lI w p f=some (X6 q.aI1 p.aI0 p.aI7 f):=by
 obtain⟨C,rfl⟩:=qc.1 U
 have hz1:=cN (f:=M.aI3.sz) (qG C)
 have hz2:M.aC.sz w.aA.aI4[j].aI1<=M.aI3.sz w.aA.aI4[j]:=by simp only[M.aI3.sz];omega
 simp only[M.World.sz,M.aA.sz]at hz
 obtain⟨r,e1,e2⟩:=Um (v:=p.aI0) (a:=p.aI7) (b:=f) (I.aA.aI4.2 _ (qG C)).aI1 jB
 unfold lI
 rw[Na I J C,qA,if_neg jD,e1,<-e2]
 rfl
theorem ZT{x:M.World}{a b:ByteArray}{r g:M.aIz}{v:Int}(h:UI g (IV (x.aJI.filter (Vw a b)) a)=(r,v,true)){p:M.bG}(C:p∈x.aJI)(h1:p.aI7.toList=a.toList)(h2:p.Top.toList=b.toList):p.aI0≠v:=by
 unfold UI at h
 split at h
 ·rename_i hc
  injection h with _ h
  injection h with h _
  unfold Zv at hc
  simp only[qM,Bool.not_eq_true',List.any_eq_false]at hc
  have j:p.aI0∈IV (x.aJI.filter (Vw a b)) a:=by unfold IV;refine qv.2 ⟨p,qy.2 ⟨qy.2 ⟨C,?_⟩,by rw[h1];simp⟩,rfl⟩;unfold Vw;rw[h1,h2];simp
  have:=hc.2.2 _ j
  rw[<-h]
  simpa using this
 ·injection h with _ h;injection h with _ h;cases h
set_option maxHeartbeats 4000000 in
theorem aBG(p0:List Int)(hb:∀b∈p0,0<=b/\b<=255):Au p0=some true:=by
 unfold Au Hu
 rw[qA]
 by_cases hl:(p0.length:Int)>1048576
 ·rw[if_pos (by simpa using hl)]
 rw[if_neg (by simpa using hl)]
 have hl':p0.length<=1048576:=by omega
 obtain⟨⟨w,a,t⟩,ed,hW⟩:=Yl hl' hb
 rw[ed,qA]
 dsimp only at hW⊢
 have hlit:lit 10 11 720000:=⟨jB,jB,jB⟩
 have hlit2:lit 10 11 786000:=⟨jB,jB,jB⟩
 obtain⟨R,e1,e2,⟨I,_,_⟩,hR⟩:=WW (w:=w) (a:=a) (b:=t) hW hlit
 have C:=I.ok' hlit2
 have hRz:=I.sz' hlit2
 rw[e2,qA,e1,qA]
 refine jn (v:=false) ?_ ?_
 ·rw[if_neg jD,EO C,qA,Mo];rfl
 rw[if_neg jD]
 have hver:∃l,fW R.1 a t=some l/\(R.2=true->∃(k:Nat) (hk:k<w.aJL.length) (c:Int),Ah a=(k:Int)/\l=[c,w.aJL[k].aI0,0]):=by rcases hR with rfl|⟨_,j,hj,k,hk,s,r,U,ek,_,_,_,_,hv,hp,e⟩;(obtain⟨l,el⟩:=V0 (a:=a) (b:=t) C;exact⟨l,el,λh=>by cases h⟩);·obtain⟨_,J⟩:=xI U;obtain⟨p1,p2⟩:=Zk hj U (b:=bD w.aA.aI4[j] s r) (LO J) hp;refine⟨_,WI (j:=j) (q:=bD w.aA.aI4[j] s r) C (by rw[e];exact p1) (by rw[e];exact p2),λh=> ?_⟩;obtain⟨g1,g2⟩:=hv h;exact⟨k,hk,r.aJX,ek,by rw[<-g1,<-g2];rfl⟩
 obtain⟨l,el,hl3⟩:=hver
 rw[el,qA]
 refine jn (v:=false) ?_ ?_
 ·cases hR2:R.2 with
  |false=>rw[if_neg jD]
  |true=>
   obtain⟨k,hk,c,ek,rfl⟩:=hl3 hR2
   rw[if_pos rfl,if_neg jD,show idx [c,w.aJL[k].aI0,0] 1=some w.aJL[k].aI0 from rfl,qA,vC,qA,ek,aJ hk,qA,if_neg jD,show idx [c,w.aJL[k].aI0,0] 2=some 0 from rfl,qA]
   rfl
 rw[if_neg jD]
 obtain⟨Q,a1,a2,⟨hQw,_,_⟩,hQ⟩:=Y5 (w:=R.1) (a:=a) (b:=t) I hlit2
 have hQo:=hQw.ok' hlit2
 have hQz:=hQw.sz' hlit2
 rw[a2,qA,a1,qA]
 refine jn (v:=false) ?_ ?_
 ·rw[if_neg jD,EO hQo,qA,Mo];rfl
 rw[if_neg jD]
 have hpl:=I.2.2.2.1.1
 have key:∀(n k:Nat),R.1.aJI.length-k<n->k<=R.1.aJI.length->mG (w,a,t) R Q n (k:Int)=some true:=by
  intro n
  induction n with
  |zero=>intro k h _;omega
  |succ n ih=>
   intro k hn hk
   simp only[mG]
   rcases Nat.lt_or_ge k R.1.aJI.length with h6|h6
   ·rw[if_pos (aW h6),qA]
    cases hQ2:Q.2 with
    |false=>rw[if_neg jD]
    |true=>
     have ih':=ih (k+1) jB jB
     rw[if_pos rfl,aJ h6,qA]
     refine jn (v:=false) ?_ ?_
     ·rcases hQ with rfl|⟨_,_,j,hj,v,r,U,hact,_,_,hp,e⟩
      ·cases hQ2
      ·by_cases h1:(R.1.aJI[k].aI7.toList==a.toList)=true
       ·rw[if_pos h1]
        by_cases h2:(R.1.aJI[k].Top.toList==t.toList)=true
        ·rw[if_pos h2]
         have hat:nAt R.1.aJI[k].aI7 R.1.aJI[k].Top=nAt a t:=by funext x;unfold nAt;rw[eq_of_beq h1,eq_of_beq h2]
         obtain⟨_,J⟩:=xI U
         obtain⟨p1,p2⟩:=Zk hj U (b:=bD R.1.aA.aI4[j] (ET R.1.aA.aI4[j].aI1 v).1 r) (LO J) hp
         have hne:=ZT hact (qG h6) (eq_of_beq h1) (eq_of_beq h2)
         rw[Te C hRz (by rw[hat];exact U) (qF hj),qA,Te (j:=j) (q:=bD R.1.aA.aI4[j] (ET R.1.aA.aI4[j].aI1 v).1 r) hQo hQz (by rw[hat,e];exact p1) (by rw[e];exact p2),qA]
         show(if X6 R.1.aA.aI4[j].aI1 _ _ _=true then some (!X6 (ET R.1.aA.aI4[j].aI1 v).1 _ _ _)else some false)=some false
         rw[Xw hne]
         cases X6 R.1.aA.aI4[j].aI1 R.1.aJI[k].aI0 R.1.aJI[k].aI7 (⟨#[105,110,100,101,120]⟩:ByteArray)<;>rfl
        ·rw[if_neg h2]
       ·rw[if_neg h1]
     ·rw[if_neg jD,bF jB];exact ih'
   ·rw[if_neg jC,qA,if_neg jD]
 exact key fuel 0 (mI jB) jB
