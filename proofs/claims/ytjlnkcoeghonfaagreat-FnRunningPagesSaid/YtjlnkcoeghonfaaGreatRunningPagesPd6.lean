/-
  Helper text. No conditions.
-/
import Derived.Test.YtjlnkcoeghonfaaGreatRunningPagesPd5
set_option linter.all false
namespace Go.Proofs.YtjlnkcoeghonfaaGreat.gen
open Go Go.Sh
open Go.IntKind (i64)
theorem Z9{d:M.aLS}(h:nDb d=true)(C:∀u∈d.aLm,u.aE.size<=8):M.aLS.sz d<=100000:=by obtain⟨h1,h2,h3,h4,h5⟩:=LR h;have I:=eU (w:=M.aE.sz) (b:=10000) (xs:=d.aLc) (λx j=>by obtain⟨k,hk,rfl⟩:=List.getElem_of_mem j;exact uZ (h1 k hk));have J:=eU (w:=M.aU.sz) (b:=16) (xs:=d.aLm) (λx j=>by have U:=h5 x j;have b2:=C x j;simp only[M.aU.sz];omega);simp only[M.aLS.sz];omega
theorem Wi{l:List M.aE}{a:ByteArray}(h:0<=kP (C6 a) l):∃x∈l,x.Name.toList=a.toList:=by obtain⟨k,e,hk⟩:=dM (show ¬kP (C6 a) l<0 by omega);obtain⟨_,j⟩:=CC e;exact⟨_,qG hk,by unfold C6 at j;exact eq_of_beq j⟩
theorem Rt{d:M.aLS}(h:nDb d=true):∀u∈d.aLm,u.aE.size<=8:=by intro u J;obtain⟨h1,_⟩:=LR h;unfold nDb at h;simp only[qM,qL,qR,qS]at h;obtain⟨k,hk,rfl⟩:=List.getElem_of_mem J;have:=h.2.1 k hk;unfold I8 at this;rw[qF hk]at this;simp only[qf,qM,qL]at this;obtain⟨x,U,e⟩:=Wi this.1;obtain⟨j,I,rfl⟩:=List.getElem_of_mem U;have C:=(B2 (h1 j I)).2.1;unfold pS inR at C;simp only[qM,qL]at C;have:=bsize e;omega
def PX(d0:M.aLS):M.aLS->List Int->List M.gN->M.aLS×List Int×Bool
 |x,j,[]=>(x,j,true)
 |x,j,o::l=>if(Ue x o).2.2=true then PX d0 (Ue x o).1 (j++[(Ue x o).2.1]) l else(d0,([]:List Int),false)
def FV(d:M.aLS)(l:List M.gN):M.aLS×List Int×Bool:=if nDb d=true then if l.length>6 then(d,([]:List Int),false)else PX d d [] l else(d,([]:List Int),false)
theorem XG{d0:M.aLS}{l:List M.gN}(h6:l.length<=6)(I:∀o∈l,Kn o)(C:M.aLS.sz d0<=1000000):∀(n k:Nat) (x:M.aLS) (ns:List Int),l.length-k<n->k<=l.length->x.ok->M.aLS.sz x<=900000+10000*k->ns.length=k->Ah d0 l n (k:Int) x.Name x.aLT ns x.aLc x.aLm=some (PX d0 x ns (l.drop k))
 |0,_,_,_,h,_,_,_,_=>by omega
 |n+1,k,x,ns,hn,hk,J,hz,U=>by
  simp only[Ah]
  rcases jR k l.length with hlt|hge
  ·rw[jE (bE hlt),aM hlt,qA]
   show((Ef x l[k]).bind _)=_
   have j:=I _ (qG hlt)
   obtain⟨v1,v2⟩:=RB J j wi
   rw[SQ J j wi,qA,qX hlt]
   simp only[PX]
   cases (Ue x l[k]).2.2 with
   |false=>
    rw[jE we,jF we,Du d0 wi,qA]
   |true=>
    rw[jF we,jE rfl,dN wX,qA,bL wi]
    exact XG h6 I C n (k+1) _ _ wi hlt v1 (qh v2 wi) (by simp[U])
  ·have e:k=l.length:=by omega
   subst e
   rw[jF wG,qa]
   rfl
theorem LO{d:M.aLS}{l:List M.gN}(j:d.ok)(I:l.length<=1000)(C:∀o∈l,Kn o)(U:M.aLS.sz d<=1500000):Ca d l=some (FV d l):=by
 unfold Ca FV
 rw[Du d wi,qA,yM j wi,qA]
 cases hD:nDb d with
 |false=>rfl
 |true=>
  have J:=Z9 hD (Rt hD)
  rw[jF we,jE rfl]
  by_cases h6:l.length>6
  ·rw[jE wX,jE h6]
  ·rw[jF wX,jF h6];exact XG wi C wi aH 0 d [] wH wi j wi rfl
theorem XI{d0:M.aLS}{l:List M.gN}(h6:l.length<=6)(I:∀o∈l,Kn o)(C:M.aLS.sz d0<=1000000):∀(n k:Nat) (x:M.aLS) (ns:List Int),l.length-k<n->k<=l.length->x.ok->M.aLS.sz x<=900000+10000*k->ns.length=k->vZ d0 l n (k:Int) x.Name x.aLT ns x.aLc x.aLm=some (PX d0 x ns (l.drop k))
 |0,_,_,_,h,_,_,_,_=>by omega
 |n+1,k,x,ns,hn,hk,J,hz,U=>by
  simp only[vZ]
  rcases jR k l.length with hlt|hge
  ·rw[jE (bE hlt),aM hlt,qA]
   show((Eg x l[k]).bind _)=_
   have j:=I _ (qG hlt)
   obtain⟨v1,v2⟩:=RB J j wi
   rw[Sk J j wi,qA,qX hlt]
   simp only[PX]
   cases (Ue x l[k]).2.2 with
   |false=>
    rw[jE we,jF we,yX d0 wi,qA]
   |true=>
    rw[jF we,jE rfl,dN wX,qA,bL wi]
    exact XI h6 I C n (k+1) _ _ wi hlt v1 (qh v2 wi) (by simp[U])
  ·have e:k=l.length:=by omega
   subst e
   rw[jF wG,qa]
   rfl
theorem LY{d:M.aLS}{l:List M.gN}(j:d.ok)(I:l.length<=1000)(C:∀o∈l,Kn o)(U:M.aLS.sz d<=1500000):B1 d l=some (FV d l):=by
 unfold B1 FV
 rw[yX d wi,qA,Di j wi,qA]
 cases hD:nDb d with
 |false=>rfl
 |true=>
  have J:=Z9 hD (Rt hD)
  rw[jF we,jE rfl]
  by_cases h6:l.length>6
  ·rw[jE wX,jE h6]
  ·rw[jF wX,jF h6];exact XI wi C wi aH 0 d [] wH wi j wi rfl
theorem aB1{d:M.aLS}{o:M.gN}(h:(Ue d o).2.2=true):nDb (Ue d o).1=true:=by unfold Ue at h⊢;split at h;(rename_i h1;rw[jE h1];split at h;(rename_i s j;split at h;(cases h);·rename_i h2;rw[jF h2];unfold Sx at h⊢;split at h;(rename_i h3;rw[jE h3];split at h;(rename_i h4;rw[jE h4];exact h4);·cases h);·cases h);·cases h);·cases h
theorem Tk{d0:M.aLS}(I:d0.ok):∀{l:List M.gN} {x:M.aLS} {ns:List Int},(∀o∈l,Kn o)->x.ok->nDb x=true->(PX d0 x ns l).1=d0\/((PX d0 x ns l).1.ok/\nDb (PX d0 x ns l).1=true)
 |[],x,ns,_,j,hb=>.inr ⟨j,hb⟩
 |o::l,x,ns,C,j,hb=>by have U:=Z9 hb (Rt hb);simp only[PX];split;(rename_i h;exact Tk I (λy J=>C y (by simp[J])) (RB j (C o we) wi).1 (aB1 h));·exact .inl rfl
theorem K4{d:M.aLS}{l:List M.gN}(j:d.ok)(C:∀o∈l,Kn o):(FV d l).1=d\/((FV d l).1.ok/\M.aLS.sz (FV d l).1<=100000):=by unfold FV;split;(rename_i h;split;(exact .inl rfl);·rcases Tk j C j h (ns:=[])with e|⟨h1,h2⟩;(exact .inl e);·exact .inr ⟨h1,Z9 h2 (Rt h2)⟩);·exact .inl rfl
def LZ:M.aLS->Nat->List (List Int)->M.aLS×Int
 |d,i,[]=>(d,(i:Int))
 |d,i,e::l=>if(GD e).2=true then LZ (FV d (GD e).1).1 (i+1) l else(d,(i:Int))
def F6(d:M.bP):M.aLS×Int:=LZ d.aLq 0 (aC5 d.Log).1
theorem UP{x3:List (List Int)×Int}(J:x3.1.length<=1500000)(C:∀l∈x3.1,okB l/\l.length<=4000):∀(n k:Nat) (d:M.aLS),x3.1.length-k<n->k<=x3.1.length->d.ok->M.aLS.sz d<=1500000->vM x3 n (k:Int) d.Name d.aLT d.aLc d.aLm=some (LZ d k (x3.1.drop k))
 |0,_,_,h,_,_,_=>by omega
 |n+1,k,d,hn,hk,j,U=>by
  simp only[vM]
  rcases jR k x3.1.length with hlt|hge
  ·obtain⟨I,b2⟩:=C _ (qG hlt)
   obtain⟨o1,o2⟩:=M3 I wi
   rw[jE (bE hlt),aM hlt,qA,N4 I wi,qA,qX hlt]
   simp only[LZ]
   cases (GD x3.1[k]).2 with
   |false=>rfl
   |true=>
    rw[jF we,jE rfl]
    show((Ca d (GD x3.1[k]).1).bind _)=_
    rw[LO j wi (λo h=>(o2 o h).1) U,qA,bL wi]
    rcases K4 j (λo h=>(o2 o h).1)with e|⟨v1,v2⟩
    ·rw[e];exact UP J C n (k+1) d wi hlt j U
    ·exact UP J C n (k+1) _ wi hlt v1 wi
  ·have e:k=x3.1.length:=by omega
   subst e
   rw[jF wG,qa]
   rfl
theorem JR{d:M.bP}(j:d.ok)(I:M.bP.sz d<=1500000):BD d=some (F6 d):=by
 have C:M.aLS.sz d.aLq<=1500000:=by simp only[M.bP.sz]at I;omega
 have U:d.Log.length<=1500000:=by simp only[M.bP.sz]at I;omega
 obtain⟨g1,J⟩:=Ut j.Log
 unfold BD F6
 rw[Du d.aLq wi,qA,PI j.Log wi,qA]
 exact UP (x3:=aC5 d.Log) wi J aH 0 d.aLq wH wi j.aLq C
theorem Un{x3:List (List Int)×Int}(J:x3.1.length<=1500000)(C:∀l∈x3.1,okB l/\l.length<=4000):∀(n k:Nat) (d:M.aLS),x3.1.length-k<n->k<=x3.1.length->d.ok->M.aLS.sz d<=1500000->pU x3 n (k:Int) d.Name d.aLT d.aLc d.aLm=some (LZ d k (x3.1.drop k))
 |0,_,_,h,_,_,_=>by omega
 |n+1,k,d,hn,hk,j,U=>by
  simp only[pU]
  rcases jR k x3.1.length with hlt|hge
  ·obtain⟨I,b2⟩:=C _ (qG hlt)
   obtain⟨o1,o2⟩:=M3 I wi
   rw[jE (bE hlt),aM hlt,qA,NB I wi,qA,qX hlt]
   simp only[LZ]
   cases (GD x3.1[k]).2 with
   |false=>rfl
   |true=>
    rw[jF we,jE rfl]
    show((B1 d (GD x3.1[k]).1).bind _)=_
    rw[LY j wi (λo h=>(o2 o h).1) U,qA,bL wi]
    rcases K4 j (λo h=>(o2 o h).1)with e|⟨v1,v2⟩
    ·rw[e];exact Un J C n (k+1) d wi hlt j U
    ·exact Un J C n (k+1) _ wi hlt v1 wi
  ·have e:k=x3.1.length:=by omega
   subst e
   rw[jF wG,qa]
   rfl
theorem GU{d:M.bP}(j:d.ok)(I:M.bP.sz d<=1500000):yZ d=some (F6 d):=by
 have C:M.aLS.sz d.aLq<=1500000:=by simp only[M.bP.sz]at I;omega
 have U:d.Log.length<=1500000:=by simp only[M.bP.sz]at I;omega
 obtain⟨g1,J⟩:=Ut j.Log
 unfold yZ F6
 rw[yX d.aLq wi,qA,PM j.Log wi,qA]
 exact Un (x3:=aC5 d.Log) wi J aH 0 d.aLq wH wi j.aLq C
theorem ME:∀{l:List (List Int)} {d:M.aLS} {i:Nat},(∀e∈l,okB e/\e.length<=4000)->d.ok->M.aLS.sz d<=1500000->(LZ d i l).1.ok/\M.aLS.sz (LZ d i l).1<=1500000
 |[],d,i,_,j,C=>⟨j,C⟩
 |e::l,d,i,I,j,C=>by obtain⟨U,b2⟩:=I e we;obtain⟨o1,o2⟩:=M3 U wi;simp only[LZ];split;(rcases K4 j (λo h=>(o2 o h).1)with e'|⟨v1,v2⟩;(rw[e'];exact ME (λx J=>I x (by simp[J])) j C);·exact ME (λx J=>I x (by simp[J])) v1 wi);·exact⟨j,C⟩
theorem Gu{d:M.bP}(j:d.ok)(C:M.bP.sz d<=1500000):(F6 d).1.ok/\M.aLS.sz (F6 d).1<=1500000:=ME (Ut j.Log).2 j.aLq (by simp only[M.bP.sz]at C;omega)
def YY(l:List Int)(i:Int)(b:List Int):List Int:=l++(Hb b++uv (YZ i b).toNat)
def Xd(l:List Int)(i:Int)(b:List Int):List Int×Bool:=if i<0 then(l,false)else if(YY l i b).length>4000 then(l,false)else(YY l i b,true)
theorem Yo{l b:List Int}{i:Int}:YY l i b=(l++Hb b)++uv (YZ i b).toNat:=by unfold YY;rw[qT]
theorem X7(i:Int)(b:List Int):0<=YZ i b/\YZ i b<2147483647:=Uf _
theorem Iy{l b:List Int}{i:Int}(I:l.length<=1500000)(hb:b.length<=100000):An l i b=some (Xd l i b):=by have C:=X7 i b;have J:=Gw (n:=b.length) wi;have j:=rK (r:=l++Hb b) (n:=(YZ i b).toNat) (by unfold Hb;simp only[qE];omega) wi;rw[jS C.1,<-Yo]at j;unfold An Xd;rw[IP wi wi,qA,vT wi wi,qA,JE wi,qA];show((cG (l++Hb b) (YZ i b)).bind _)=_;rw[j,qA];by_cases hi:i<0;(rw[jE (by simpa using hi),jE hi]);·rw[jF (by simpa using hi),jF hi];by_cases h4:(YY l i b).length>4000;(rw[jE wX,jE h4]);·rw[jF wX,jF h4]
theorem NO{l b:List Int}{i:Int}(I:l.length<=1500000)(hb:b.length<=100000):Ck l i b=some (Xd l i b):=by have C:=X7 i b;have J:=Gw (n:=b.length) wi;have j:=rL (r:=l++Hb b) (n:=(YZ i b).toNat) (by unfold Hb;simp only[qE];omega) wi;rw[jS C.1,<-Yo]at j;unfold Ck Xd;rw[Ew wi wi,qA,JB wi,qA];show((cQ (l++Hb b) (YZ i b)).bind _)=_;rw[j,qA,FU l wi,qA];by_cases hi:i<0;(rw[jE (by simpa using hi),jE hi]);·rw[jF (by simpa using hi),jF hi];by_cases h4:(YY l i b).length>4000;(rw[jE wX,jE h4]);·rw[jF wX,jF h4]
def aEP(d:M.bP)(l:List M.gN):Bool:=(FV (F6 d).1 l).2.2&&((List.length (GZ l):Int) !=0&&(((F6 d).2==d.aL5)&&(Xd d.Log d.aL5 (GZ l)).2))
def Ih(d:M.bP)(l:List M.gN):M.bP×Bool:=if aEP d l=true then((⟨d.aLq,(Xd d.Log d.aL5 (GZ l)).1,i64.wrap (d.aL5+1)⟩:M.bP),true)else(d,false)
theorem Tf(l:List M.gN):(GZ l).length<=2000:=by unfold GZ;split;(rename_i h;rw[qM,qL,qR]at h;have h1:=RL (f:=enO) (λo j=>RQ (h.1 o j));have h9:=Gw (n:=l.length) wi;rw[qE];omega);·simp
theorem HO{d:M.bP}{l:List M.gN}(I:d.ok)(j:M.bP.sz d<=1500000)(J:l.length<=1000)(U:∀o∈l,Kn o):oI d l=some (Ih d l):=by
 have C:d.Log.length<=1500000:=by simp only[M.bP.sz]at j;omega
 have he:=Tf l
 obtain⟨v1,v2⟩:=Gu I j
 unfold oI Ih aEP
 rw[Hs d wi,qA,JR I j,qA,LO v1 J U v2,qA,II J U,qA,Iy C wi,qA]
 unfold bne
 generalize (FV (F6 d).1 l).2.2=a1
 generalize ((List.length (GZ l):Int)==0)=a2
 generalize ((F6 d).2==d.aL5)=a3
 cases a1<;>cases a2<;>cases a3<;>cases (Xd d.Log d.aL5 (GZ l)).2<;>rfl
theorem MJ{d:M.bP}{l:List M.gN}(I:d.ok)(j:M.bP.sz d<=1500000)(J:l.length<=1000)(U:∀o∈l,Kn o):BI d l=some (Ih d l):=by
 have C:d.Log.length<=1500000:=by simp only[M.bP.sz]at j;omega
 have he:=Tf l
 obtain⟨v1,v2⟩:=Gu I j
 unfold BI Ih aEP
 rw[Jw d wi,qA,GU I j,qA,LY v1 J U v2,qA,Iz J U,qA,NO C wi,qA]
 unfold bne
 generalize (FV (F6 d).1 l).2.2=a1
 generalize ((List.length (GZ l):Int)==0)=a2
 rw[Bool.beq_comm (a:=d.aL5)]
 generalize ((F6 d).2==d.aL5)=a3
 cases a1<;>cases a2<;>cases a3<;>cases (Xd d.Log d.aL5 (GZ l)).2<;>rfl
theorem Mo{d:M.bP}{l:List M.gN}(C:d.ok):(Ih d l).1.ok/\M.bP.sz (Ih d l).1<=M.bP.sz d+4000/\(Ih d l).1.aLq=d.aLq:=by unfold Ih;split;(rename_i h;unfold aEP at h;simp only[qM]at h;have h4:=h.2.2.2;unfold Xd at h4⊢;split at h4;(cases h4);·rename_i I;rw[jF I];split at h4;(cases h4);·rename_i J;rw[jF J];refine⟨⟨C.aLq,⟨qh (by omega:(YY d.Log d.aL5 (GZ l)).length<=4000) wE,λy U=> ?_⟩,bV _⟩,?_,rfl⟩;(have j:y∈YY d.Log d.aL5 (GZ l):=U;unfold YY at j;simp only[qP]at j;rcases j with h|h|h;(exact C.Log.2 y h);(exact H2 (RK l).2 y h);·exact Kw _ y h);·simp only[M.bP.sz];omega);·exact⟨C,wI,rfl⟩
theorem IB{s:M.aJ}{v:Int}(j:s.ok):AG s v=some (kP (λc:M.aLi=>c.aLT==v) s.aLW):=by have C:=aY j.aLW.1;unfold AG;rw[pI (L:=nQ s v) (f:=λc:M.aLi=>c.aLT==v) (A:=λi=>some (i:Int)) (E:=some (-1)) j.aLW.1 (λm k hk=> ?_) (λm=> ?_),uQ];(simp only[nQ];rw[jE (bE hk),aM hk,qA,bL wi]);·simp only[nQ];rw[jF wG]
theorem NS{s:M.aJ}{v:Int}(j:s.ok):Cr s v=some (kP (λc:M.aLi=>c.aLT==v) s.aLW):=by unfold Cr;rw[MR (f:=λc:M.aLi=>c.aLT==v) j.aLW.1 (λx _=>by simp only[AQ]),qA]
def Ju(a b:ByteArray)(x:M.aLr):Bool:=(x.aLa.toList==a.toList)&&(x.aMF.toList==b.toList)
theorem Kv{c:M.aLi}{a b:ByteArray}(hc:c.ok):Cu c a b=some (kP (Ju a b) c.aLg):=by have j:=aY hc.aLg.1;unfold Cu;rw[pI (L:=pD c a b) (f:=Ju a b) (A:=λi=>some (i:Int)) (E:=some (-1)) hc.aLg.1 (λm k hk=> ?_) (λm=> ?_),uQ];(simp only[pD];rw[jE (bE hk),aM hk,qA,bL wi,Xf];rfl);·simp only[pD];rw[jF wG]
theorem P9{c:M.aLi}{a b:ByteArray}(hc:c.ok):uA c a b=some (kP (Ju a b) c.aLg):=by unfold uA;rw[Hc (f:=Ju a b) hc.aLg.1 (λx _=>by simp only[Aj,bF];rfl),qA]
def N5(s:M.aJ)(v:Int):Nat:=(s.aLW.takeWhile λc=>decide (c.aLT<v)).length
def GV(s:M.aJ)(v:Int)(k:Nat):List M.aLi:=s.aLW.take k++((⟨v,([]:List M.aLr)⟩:M.aLi)::s.aLW.drop k)
def Ko(s:M.aJ)(v:Int):M.aJ×Bool:=if(nE s&&nE (⟨GV s v (N5 s v)⟩:M.aJ))=true then((⟨GV s v (N5 s v)⟩:M.aJ),true)else(s,false)
theorem Sj{s:M.aJ}{v:Int}(C:s.ok)(I:inI v)(J:s.aLW.length<=1073741824)(k:Nat):M.aJ.ok (⟨GV s v k⟩:M.aJ):=by refine⟨⟨?_,λx j=> ?_⟩⟩;(show(GV s v k).length<=maxLen;unfold GV maxLen;simp only[qE,qJ,qV,qW];omega);·have j:x∈GV s v k:=j;unfold GV at j;rcases qP.1 j with j|j;(exact C.aLW.2 x (qk j));·rcases qq.1 j with rfl|j;(exact⟨I,⟨wQ,we⟩⟩);·exact C.aLW.2 x (qv j)
def QA(s:M.aJ)(v:Int)(k:Nat):Option (M.aJ×Bool):=(dA s).bind λa=>if(!a)=true then(eC s).bind λy=>some (y,false)else(dA (⟨GV s v k⟩:M.aJ)).bind λb=>if(!b)=true then(eC s).bind λy=>some (y,false)else some ((⟨GV s v k⟩:M.aJ),true)
theorem N2{s:M.aJ}{v:Int}(j:s.ok)(J:inI v)(C:M.aJ.sz s<=1073741824):sD s v=some (Ko s v):=by
 have I:s.aLW.length<=1073741824:=by simp only[M.aJ.sz]at C;omega
 have U:=aY j.aLW.1
 unfold sD
 rw[FB s C,qA,KV (l:=s.aLW) (f:=λc:M.aLi=>decide (c.aLT<v)) (L:=oF s v s) (S:=QA s v) j.aLW.1 (λn k hk=> ?_) (λn=> ?_)]
 ·unfold QA Ko;rw[tR j,qA,tR (Sj j J I _),qA,FB s C,qA];show _=some (if(nE s&&nE (⟨GV s v (N5 s v)⟩:M.aJ))=true then _ else _);unfold N5;generalize nE (⟨GV s v (List.takeWhile (λc:M.aLi=>decide (c.aLT<v)) s.aLW).length⟩:M.aJ)=b;cases nE s<;>cases b<;>rfl
 ·simp only[oF];rw[jE (bE hk),aM hk,qA,bL wi];by_cases h:s.aLW[k].aLT<v;(rw[jE wN,jE wN]);·rw[jF wN,jF wN];rw[FT wi,qA,qH,dN wC,qA,dN jx,qA,dN jt,qA,qT];rfl
 ·simp only[oF];rw[jF wG];rw[FT (qg _),qA,qH,dN wC,qA,dN jx,qA,dN jt,qA,qT];rfl
theorem YD{s:M.aJ}{v:Int}(j:s.ok)(I:inI v)(J:M.aJ.sz s<=1073741824):M.aJ.ok (Ko s v).1:=by
 have C:s.aLW.length<=1073741824:=by simp only[M.aJ.sz]at J;omega
 unfold Ko
 split
 ·exact Sj j I C _
 ·exact j
theorem WD{s:M.aJ}{v:Int}(h:(Ko s v).2=true):nE (Ko s v).1=true:=by unfold Ko at h⊢;split at h;(rename_i h1;rw[jE h1];exact(Bool.and_eq_true_iff.1 h1).2);·cases h
def Np(c:M.aLi)(a p:ByteArray)(x:M.aLb):M.aLi:=(⟨c.aLT,if kP (Ju a p) c.aLg>=0 then c.aLg.set (kP (Ju a p) c.aLg).toNat (⟨a,p,x⟩:M.aLr)else c.aLg++[(⟨a,p,x⟩:M.aLr)]⟩:M.aLi)
def Qz(s:M.aJ)(v:Int)(a p:ByteArray)(x:M.aLb):List M.aLi:=match s.aLW[(kP (λc:M.aLi=>c.aLT==v) s.aLW).toNat]? with
 |some c=>s.aLW.set (kP (λc:M.aLi=>c.aLT==v) s.aLW).toNat (Np c a p x)
 |none=>s.aLW
def PL(s:M.aJ)(v:Int)(a p:ByteArray)(x:M.aLb):M.aJ×Bool:=if kP (λc:M.aLi=>c.aLT==v) s.aLW<0 then(s,false)else if(nE s&&nE (⟨Qz s v a p x⟩:M.aJ))=true then((⟨Qz s v a p x⟩:M.aJ),true)else(s,false)
theorem Xo{c:M.aLi}{a p:ByteArray}{x:M.aLb}(hc:c.ok)(U:c.aLg.length<=1073741824)(C:a.size<=maxLen)(I:p.size<=maxLen)(J:x.ok):M.aLi.ok (Np c a p x):=by unfold Np;refine⟨hc.aLT,?_⟩;dsimp only;split;(refine⟨by rw[qN];exact hc.aLg.1,λy j=> ?_⟩;rcases jD j with j|rfl;(exact hc.aLg.2 y j);·exact⟨C,I,J⟩);·refine⟨by simp only[qE,qJ,qK];unfold maxLen;omega,λy j=> ?_⟩;rcases qP.1 j with j|j;(exact hc.aLg.2 y j);·rw[qQ.1 j];exact⟨C,I,J⟩
theorem SG{s:M.aJ}{v:Int}{a p:ByteArray}{x:M.aLb}(C:s.ok)(hz:M.aJ.sz s<=1073741824)(J:a.size<=maxLen)(U:p.size<=maxLen)(hx:x.ok):M.aJ.ok (⟨Qz s v a p x⟩:M.aJ):=by unfold Qz;split;(rename_i c hc;refine⟨⟨by show List.length (List.set _ _ _)<=_;rw[qN];exact C.aLW.1,λy I=> ?_⟩⟩;have j:=jC hc;have z:=eA (f:=M.aLi.sz) j;rcases jD I with I|rfl;(exact C.aLW.2 y I);·exact Xo (C.aLW.2 c j) (by simp only[M.aJ.sz]at hz;simp only[M.aLi.sz]at z;omega) J U hx);·exact C
theorem YO{s:M.aJ}{v:Int}{a p:ByteArray}{x:M.aLb}{j:Nat}(C:kP (λc:M.aLi=>c.aLT==v) s.aLW=(j:Int))(I:j<s.aLW.length):Qz s v a p x=s.aLW.set j (Np s.aLW[j] a p x):=by unfold Qz;rw[C,qH,qF I]
theorem X5{c:M.aLi}{a p:ByteArray}{x:M.aLb}{i:Nat}(j:kP (Ju a p) c.aLg=(i:Int)):Np c a p x=(⟨c.aLT,c.aLg.set i (⟨a,p,x⟩:M.aLr)⟩:M.aLi):=by unfold Np;rw[j,jE wi,qH]
theorem Xb{c:M.aLi}{a p:ByteArray}{x:M.aLb}(h:¬kP (Ju a p) c.aLg>=0):Np c a p x=(⟨c.aLT,c.aLg++[(⟨a,p,x⟩:M.aLr)]⟩:M.aLi):=by unfold Np;rw[jF h]
theorem Ka{s:M.aJ}{v:Int}{a p:ByteArray}{x:M.aLb}(C:s.ok)(J:M.aJ.sz s<=1073741824)(ha:a.size<=maxLen)(hp:p.size<=maxLen)(hx:x.ok)(zx:M.aLb.sz x<=1073741824):rM s v a p x=some (PL s v a p x):=by
 have hout:=SG (v:=v) (a:=a) (p:=p) (x:=x) C J ha hp hx
 unfold rM PL
 rw[FB s J,qA,IB C,qA]
 by_cases h:kP (λc:M.aLi=>c.aLT==v) s.aLW<0
 ·rw[jE wN,jE h]
 ·rw[jF wN,jF h]
  obtain⟨j,ej,I⟩:=dM h
  rw[YO ej I]at hout⊢
  have hc:=C.aLW.2 _ (qG I)
  have z1:=eA (f:=M.aLi.sz) (qG I)
  have hl:s.aLW[j].aLg.length<=1073741824:=by simp only[M.aJ.sz]at J;simp only[M.aLi.sz]at z1;omega
  rw[Kt x zx,qA,ej,aM I,qA,Kv hc,qA,qH]
  by_cases h2:kP (Ju a p) s.aLW[j].aLg>=0
  ·obtain⟨i,U,hi⟩:=dM (f:=Ju a p) (xs:=s.aLW[j].aLg) wi;rw[X5 U]at hout⊢;rw[jE (by simpa using h2),U,aM hi,qA,qH,tR C,qA,tR hout,qA];generalize nE (⟨s.aLW.set j _⟩:M.aJ)=b;cases nE s<;>cases b<;>rfl
  ·rw[Xb h2]at hout⊢;rw[jF (by simpa using h2),dN wA,qA,tR C,qA,tR hout,qA];generalize nE (⟨s.aLW.set j _⟩:M.aJ)=b;cases nE s<;>cases b<;>rfl
theorem Xw{s:M.aJ}{v:Int}{a p:ByteArray}{x:M.aLb}(h:(PL s v a p x).2=true):nE (PL s v a p x).1=true:=by unfold PL at h⊢;split at h;(cases h);·rename_i j;rw[jF j];split at h;(rename_i h1;rw[jE h1];exact(Bool.and_eq_true_iff.1 h1).2);·cases h
theorem aAd{s:M.aJ}{v:Int}{a p:ByteArray}{x:M.aLb}(j:s.ok)(U:M.aJ.sz s<=1073741824)(C:a.size<=maxLen)(I:p.size<=maxLen)(J:x.ok):M.aJ.ok (PL s v a p x).1:=by unfold PL;split;(exact j);·split;(exact SG j U C I J);·exact j
theorem aBk{x a b:Int}(h:inR x a b=true):a<=x/\x<=b:=by unfold inR at h;simpa using h
theorem Nq{s:M.aJ}(h:nE s=true):M.aJ.sz s<=65536:=by
 unfold nE at h
 rw[qM]at h
 have h2:s.aLW.length<=4:=by simpa using h.2
 have hc:∀c∈s.aLW,M.aLi.sz c<=4096:=by
  intro c hc
  obtain⟨k,hk,rfl⟩:=List.getElem_of_mem hc
  have h3:=qR.1 h.1 k (qS.2 hk)
  unfold JV at h3
  rw[qF hk,qf,qM,qM]at h3
  have h4:=h3.1.2
  unfold H4 at h4
  rw[qM]at h4
  have h5:s.aLW[k].aLg.length<=12:=by simpa using h4.2
  have he:∀x∈s.aLW[k].aLg,M.aLr.sz x<=100:=by
   intro x U
   obtain⟨i,J,rfl⟩:=List.getElem_of_mem U
   have h6:=qR.1 h4.1 i (qS.2 J)
   unfold Fq at h6
   rw[qF J,qf,qM,qM,qM]at h6
   obtain⟨j,C,I,_⟩:=h6
   unfold pS at j C
   rw[qM]at j C
   have r1:=aBk j.2
   have r2:=aBk C.2
   unfold IX at I
   rw[qM,qM,qM]at I
   have r3:s.aLW[k].aLg[i].aLb.aMN.length<=60:=by have:=I.2.2.2;simp at this;omega
   simp only[M.aLr.sz,M.aLb.sz]
   omega
  have:=eU he
  simp only[M.aLi.sz]
  omega
 have:=eU hc
 simp only[M.aJ.sz]
 omega
theorem UL{l:List M.bR}:∀{s:M.aE},s.ok->l.length<=maxLen->(∀w∈l,M.bR.ok w)->M.aE.sz s<=536870912->(B8 s l).ok/\M.aE.sz (B8 s l)<=536870912:=by
 induction l with
 |nil=>intro s j _ _ C;exact⟨j,C⟩
 |cons w l ih=>
  intro s j J I C
  have h:=LD j (I w we) C
  exact ih (s:=(MH s w).1) h.1 (by simp only[qJ]at J;omega) (λy U=>I y (by simp[U])) h.2
def IM(o:M.aN)(k:M.bD)(f:ByteArray)(n:Int):M.aN:=(⟨o.aLZ,i64.wrap (o.aL2+1),o.aLl++[(⟨o.aLZ,o.aL2,k,f,n⟩:M.bR)]⟩:M.aN)
def Pr(o:M.aN)(k:M.bD)(f:ByteArray)(n:Int):M.aN×Bool:=if xA o=true then if xA (IM o k f n)=true then(IM o k f n,true)else(o,false)else(o,false)
theorem RD{o:M.aN}{k:M.bD}{f:ByteArray}{n:Int}(C:o.ok)(hl:o.aLl.length<=1073741824)(hk:k.ok)(J:f.size<=maxLen)(U:inI n):(IM o k f n).ok:=
 ⟨C.aLZ,bV _,⟨by show(o.aLl++_).length<=maxLen;unfold maxLen;simp;omega,λy I=>by have j:y∈o.aLl++[(⟨o.aLZ,o.aL2,k,f,n⟩:M.bR)]:=I;simp only[qP,qq,qO,or_false]at j;rcases j with I|rfl;(exact C.aLl.2 y I);·exact⟨C.aLZ,C.aL2,hk,J,U⟩⟩⟩
theorem aDA{o:M.aN}{k:M.bD}{f:ByteArray}{n:Int}(j:o.ok)(I:o.aLl.length<=1073741824)(hk:k.ok)(C:f.size<=maxLen)(J:inI n):(Pr o k f n).1.ok:=by unfold Pr;split;(split;(exact RD j I hk C J);·exact j);·exact j
theorem aBu(o:M.aN)(k:M.bD)(f:ByteArray)(n:Int):M.aN.sz (Pr o k f n).1<=M.aN.sz o+k.aLu.size+f.size+1:=by
 have h:M.aN.sz (IM o k f n)<=M.aN.sz o+k.aLu.size+f.size+1:=by simp only[IM,M.aN.sz,qE,qJ,qK,yY,dV,M.bR.sz,M.bD.sz];omega
 unfold Pr
 split
 ·split;(exact h);·show M.aN.sz o<=_;omega
 ·show M.aN.sz o<=_;omega
theorem GH{o:M.aN}{k:M.bD}{f:ByteArray}{n:Int}(j:o.ok)(J:M.aN.sz o<=536870912)(hk:k.ok)(C:f.size<=maxLen)(I:inI n):lD o k f n=some (Pr o k f n):=by
 have U:o.aLl.length<=536870912:=by simp only[M.aN.sz]at J;omega
 have e:=uV (RD (k:=k) (f:=f) (n:=n) j wi hk C I)
 unfold IM at e
 unfold lD Pr
 rw[Fu o wi,qA,uV j,qA,dN wA,qA,e,qA]
 unfold IM
 cases xA o
 ·simp
 ·cases xA (⟨o.aLZ,i64.wrap (o.aL2+1),o.aLl++[(⟨o.aLZ,o.aL2,k,f,n⟩:M.bR)]⟩:M.aN)<;>simp
theorem KA{o:M.aN}{k:M.bD}{f:ByteArray}{n:Int}(j:o.ok)(J:M.aN.sz o<=536870912)(hk:k.ok)(C:f.size<=maxLen)(I:inI n):zT o k f n=some (Pr o k f n):=by
 have U:o.aLl.length<=536870912:=by simp only[M.aN.sz]at J;omega
 have e:=GP (RD (k:=k) (f:=f) (n:=n) j wi hk C I)
 unfold IM at e
 unfold zT Pr
 rw[HL o wi,qA,dN wA,qA,GP j,qA,e,qA]
 unfold IM
 cases xA o
 ·simp
 ·cases xA (⟨o.aLZ,i64.wrap (o.aL2+1),o.aLl++[(⟨o.aLZ,o.aL2,k,f,n⟩:M.bR)]⟩:M.aN)<;>simp
def aBs(r:M.aG)(k:M.bD)(f:ByteArray)(n:Int):Bool:=EC r&&((Pr r.aLs.aN k f n).2&&(MH (B8 r.aLq r.aLs.aN.aLl) (⟨0,0,k,f,n⟩:M.bR)).2)
def aET(r:M.aG)(k:M.bD)(f:ByteArray)(n:Int):M.aG:=(⟨r.aLq,r.aMG,(⟨(Pr r.aLs.aN k f n).1,r.aLs.aL7,r.aLs.aLw⟩:M.aLs)⟩:M.aG)
def nWL(r:M.aG)(k:M.bD)(f:ByteArray)(n:Int):M.aG×Bool:=if aBs r k f n=true then(aET r k f n,true)else(r,false)
theorem aDb{r:M.aG}{k:M.bD}{f:ByteArray}{n:Int}(j:r.ok)(I:r.aLs.aN.aLl.length<=1073741824)(hk:k.ok)(C:f.size<=maxLen)(J:inI n):(nWL r k f n).1.ok:=by unfold nWL;split;(exact⟨j.aLq,j.aMG,⟨aDA j.aLs.aN I hk C J,j.aLs.aL7,j.aLs.aLw⟩⟩);·exact j
theorem aDz(r:M.aG)(k:M.bD)(f:ByteArray)(n:Int):M.aG.sz (nWL r k f n).1<=M.aG.sz r+k.aLu.size+f.size+1:=by have h:=aBu r.aLs.aN k f n;unfold nWL;split;(simp only[aET,M.aG.sz,M.aLs.sz];omega);·show M.aG.sz r<=_;omega
theorem aDv{α:Type}(a b c:Bool)(x y:α):(if(!a)=true then y else if(!b)=true then y else if(!c)=true then y else x)=if(a&&(b&&c))=true then x else y:=by cases a<;>cases b<;>cases c<;>rfl
theorem HT{r:M.aG}{k:M.bD}{f:ByteArray}{n:Int}(j:r.ok)(U:M.aG.sz r<=536870912)(hk:k.ok)(I:f.size<=maxLen)(J:inI n):lW r k f n=some (nWL r k f n):=by have C:=U;simp only[M.aG.sz,M.aLs.sz]at C;obtain⟨q2,q3⟩:=UL j.aLq j.aLs.aN.aLl.1 j.aLs.aN.aLl.2 wi;have q1:=Jg j.aLq j.aLs.aN.aLl.1 j.aLs.aN.aLl.2 wi;unfold lW Dt;rw[Fz r wi,GH j.aLs.aN wi hk I J,q1,D2 j];simp only[qA];rw[Ec (w:=(⟨0,0,k,f,n⟩:M.bR)) q2 ⟨wK,wK,hk,I,J⟩ wi];simp only[qA,aDv];unfold nWL aBs aET;cases (EC r&&((Pr r.aLs.aN k f n).2&&(MH (B8 r.aLq r.aLs.aN.aLl) (⟨0,0,k,f,n⟩:M.bR)).2))<;>simp
theorem Mn{r:M.aG}{k:M.bD}{f:ByteArray}{n:Int}(j:r.ok)(U:M.aG.sz r<=536870912)(hk:k.ok)(I:f.size<=maxLen)(J:inI n):Bn r k f n=some (nWL r k f n):=by have C:=U;simp only[M.aG.sz,M.aLs.sz]at C;obtain⟨q1,q2,q3⟩:=PW j.aLq j.aLs.aN.aLl.1 j.aLs.aN.aLl.2 wi;unfold Bn Dl;rw[G5 r wi,KA j.aLs.aN wi hk I J,q1,It j];simp only[qA];rw[GF (w:=(⟨r.aLs.aN.aLZ,r.aLs.aN.aL2,k,f,n⟩:M.bR)) q2 ⟨j.aLs.aN.aLZ,j.aLs.aN.aL2,hk,I,J⟩ wi,show MH (B8 r.aLq r.aLs.aN.aLl) (⟨r.aLs.aN.aLZ,r.aLs.aN.aL2,k,f,n⟩:M.bR)=MH (B8 r.aLq r.aLs.aN.aLl) (⟨0,0,k,f,n⟩:M.bR)from rfl];simp only[qA,aDv];unfold nWL aBs aET;cases (EC r&&((Pr r.aLs.aN k f n).2&&(MH (B8 r.aLq r.aLs.aN.aLl) (⟨0,0,k,f,n⟩:M.bR)).2))<;>simp
def vD:List ByteArray:=[(⟨#[98,97,110,107]⟩:ByteArray),(⟨#[110,101,119,115]⟩:ByteArray),(⟨#[115,104,111,112]⟩:ByteArray)]
def GL(a:ByteArray):Int:=kP (λx:ByteArray=>x.toList==a.toList) vD
theorem Ql:vD.length<=maxLen:=by unfold vD maxLen;simp
theorem HC{a:ByteArray}:sU a=some (GL a):=by unfold sU oY;rw[<-vD.eq_1];rw[pI (L:=cU vD a) (f:=λx:ByteArray=>x.toList==a.toList) (A:=λi=>some (i:Int)) (E:=some (-1)) Ql (λm k hk=> ?_) (λm=> ?_),uQ];(rfl);(have j:k<3:=hk;simp only[cU];rw[jE (bE hk),aM hk,qA,bL wi,Bool.beq_comm]);·simp only[cU];rw[jF wG]
def Po(l:List ByteArray)(k:Nat):Bool:=(l[k]?).any pS&&(decide (k=0)||(l[k-1]?).any λy=>(l[k]?).any λx=>Op.bytesLess y.toList x.toList)
def OP(s:M.aLa):Bool:=(List.range s.aL4.length).all (Po s.aL4)&&(pS s.Name&&(inR s.aLT 1 1000000000000&&inR (s.aL4.length:Int) 1 6))
theorem H3{s:M.aLa}(C:s.ok):B6 s=some (OP s):=by
 have J:=aY C.aL4.1
 unfold B6 OP
 rw[sM (L:=nK s) (g:=Po s.aL4) (F:=some false) (E:=some (pS s.Name&&(inR s.aLT 1 1000000000000&&inR (s.aL4.length:Int) 1 6))) C.aL4.1 (λn k hk=> ?_) (λn=> ?_),bF]
 ·have I:=C.aL4.2 _ (qG hk)
  simp only[nK]
  rw[jE (bE hk),aM hk,qA,bL wi,eB I,qA]
  unfold Po
  rw[qF hk]
  generalize nK s n ((k+1:Nat):Int)=Z
  by_cases h0:k=0
  ·subst h0;simp only[qf];cases pS s.aL4[0]<;>simp
  ·have e:i64.wrap ((k:Int)-1)=((k-1:Nat):Int):=by rw[bQ wi wi];omega
   have j:k-1<s.aL4.length:=by omega
   rw[jE (c:=(decide ((k:Int)>0))=true) wX,e,aM j,qA,qF j]
   simp only[qf,h0,jc,jZ]
   cases pS s.aL4[k]<;>cases Op.bytesLess s.aL4[k-1].toList s.aL4[k].toList<;>simp
 ·simp only[nK];rw[jF wG,eB C.Name,qA,cK,qA,cK,qA,bF,bF]
theorem HY{s:M.aLa}(C:s.ok):B4 s=some (OP s):=by
 have J:=aY C.aL4.1
 unfold B4 OP
 rw[sM (L:=nH s) (g:=Po s.aL4) (F:=some false) (E:=some (pS s.Name&&(inR s.aLT 1 1000000000000&&inR (s.aL4.length:Int) 1 6))) C.aL4.1 (λn k hk=> ?_) (λn=> ?_),bF]
 ·have I:=C.aL4.2 _ (qG hk)
  simp only[nH]
  rw[jE (bE hk),aM hk,qA,bL wi,dG I,qA]
  unfold Po
  rw[qF hk]
  generalize nH s n ((k+1:Nat):Int)=Z
  by_cases h0:k=0
  ·subst h0;simp only[qf];cases pS s.aL4[0]<;>simp
  ·have e:i64.wrap ((k:Int)-1)=((k-1:Nat):Int):=by rw[bQ wi wi];omega
   have j:k-1<s.aL4.length:=by omega
   rw[jE (c:=(decide ((k:Int)>0))=true) wX,e,aM j,qA,qF j,VE]
   simp only[qf,h0,jc,jZ]
   cases pS s.aL4[k]<;>cases Op.bytesLess s.aL4[k-1].toList s.aL4[k].toList<;>simp
 ·simp only[nH];rw[jF wG,dG C.Name,qA,bY,qA,bY,qA,bF,bF]
def HG(l:List M.aQ)(k:Nat):Bool:=(l[k]?).any (λx=>inR x.aLZ 1 1000000&&inR x.Seq 0 1000000)&&(decide (k=0)||(l[k-1]?).any λy=>(l[k]?).any λx=>decide (y.aLZ<x.aLZ))
def IY(l:List M.bR)(k:Nat):Bool:=(l[k]?).any Hq
def Jp(s:M.aLj):Bool:=(List.range s.aQ.length).all (HG s.aQ)&&((List.range s.aLv.length).all (IY s.aLv)&&(kB s.aE&&((s.aE.Name.toList==(⟨#[110,111,116,101,115]⟩:ByteArray).toList)&&decide ((s.aQ.length:Int)<=60))))
theorem Eu{s:M.aLj}(j:s.ok):uS s=some (Jp s):=by
 have U:=aY j.aQ.1
 have J:=aY j.aLv.1
 unfold uS Jp
 rw[sM (L:=kL s) (g:=HG s.aQ) (F:=some false) (E:=mK s aH 0) j.aQ.1 (λn k hk=> ?_) (λn=> ?_),
  sM (L:=mK s) (g:=IY s.aLv) (F:=some false) (E:=some (kB s.aE&&((s.aE.Name.toList==(⟨#[110,111,116,101,115]⟩:ByteArray).toList)&&decide ((s.aQ.length:Int)<=60)))) j.aLv.1 (λn k hk=> ?_) (λn=> ?_),bF,bF]
 ·have I:=j.aLv.2 _ (qG hk);simp only[mK];rw[jE (bE hk),aM hk,qA,bL wi,DC I,qA,eJ];unfold IY;rw[qF hk,qf]
 ·simp only[mK];rw[jF wG,CE j.aE,qA,bF,bF]
 ·simp only[kL]
  rw[jE (bE hk),aM hk,qA,bL wi,cK,qA,cK,qA]
  unfold HG
  rw[qF hk]
  generalize kL s n ((k+1:Nat):Int)=Z
  by_cases h0:k=0
  ·subst h0;simp only[qf];cases inR s.aQ[0].aLZ 1 1000000<;>cases inR s.aQ[0].Seq 0 1000000<;>simp
  ·have e:i64.wrap ((k:Int)-1)=((k-1:Nat):Int):=by rw[bQ wi wi];omega
   have C:k-1<s.aQ.length:=by omega
   have ed:decide (s.aQ[k-1].aLZ>=s.aQ[k].aLZ)= !decide (s.aQ[k-1].aLZ<s.aQ[k].aLZ):=by rw[jQ];simp
   rw[jE (c:=(decide ((k:Int)>0))=true) wX,e,aM C,qA,qF C,ed]
   simp only[qf,h0,jc,jZ]
   cases inR s.aQ[k].aLZ 1 1000000<;>cases inR s.aQ[k].Seq 0 1000000<;>cases decide (s.aQ[k-1].aLZ<s.aQ[k].aLZ)<;>simp
 ·simp only[kL];rw[jF wG]
theorem Ou{s:M.aLj}(j:s.ok):C1 s=some (Jp s):=by
 have U:=aY j.aQ.1
 have J:=aY j.aLv.1
 unfold C1 Jp
 rw[sM (L:=kN s) (g:=HG s.aQ) (F:=some false) (E:=mP s aH 0) j.aQ.1 (λn k hk=> ?_) (λn=> ?_),
  sM (L:=mP s) (g:=IY s.aLv) (F:=some false) (E:=some (kB s.aE&&((s.aE.Name.toList==(⟨#[110,111,116,101,115]⟩:ByteArray).toList)&&decide ((s.aQ.length:Int)<=60)))) j.aLv.1 (λn k hk=> ?_) (λn=> ?_),bF,bF]
 ·have I:=j.aLv.2 _ (qG hk);simp only[mP];rw[jE (bE hk),aM hk,qA,bL wi,F4 I,qA,eJ];unfold IY;rw[qF hk,qf]
 ·simp only[mP];rw[jF wG,Cv j.aE,qA,bF,bF]
 ·simp only[kN]
  rw[jE (bE hk),aM hk,qA,bL wi,bY,qA,bY,qA]
  unfold HG
  rw[qF hk]
  generalize kN s n ((k+1:Nat):Int)=Z
  by_cases h0:k=0
  ·subst h0;simp only[qf];cases inR s.aQ[0].aLZ 1 1000000<;>cases inR s.aQ[0].Seq 0 1000000<;>simp
  ·have e:i64.wrap ((k:Int)-1)=((k-1:Nat):Int):=by rw[bQ wi wi];omega
   have C:k-1<s.aQ.length:=by omega
   have ed:decide (s.aQ[k].aLZ<=s.aQ[k-1].aLZ)= !decide (s.aQ[k-1].aLZ<s.aQ[k].aLZ):=by rw[jQ];simp
   rw[jE (c:=(decide ((k:Int)>0))=true) wX,e,aM C,qA,qF C,ed]
   simp only[qf,h0,jc,jZ]
   cases inR s.aQ[k].aLZ 1 1000000<;>cases inR s.aQ[k].Seq 0 1000000<;>cases decide (s.aQ[k-1].aLZ<s.aQ[k].aLZ)<;>simp
 ·simp only[kN];rw[jF wG]
def Jv(p:M.bO)(k:Nat):Bool:=(p.aW[k]?).any λx=>pS x.aMF&&(x.aLT==p.aLT)
def EW(p:M.bO):Bool:=(List.range p.aW.length).all (Jv p)&&(inR p.Id 1 1000000000000&&(pS p.aLa&&(pS p.Top&&(inR p.aLT 1 1000000000000&&decide ((p.aW.length:Int)<=8)))))
theorem F7{p:M.bO}(j:p.ok):yA p=some (EW p):=by have I:=aY j.aW.1;unfold yA EW;rw[sM (L:=xC p) (g:=Jv p) (F:=some false) (E:=some (inR p.Id 1 1000000000000&&(pS p.aLa&&(pS p.Top&&(inR p.aLT 1 1000000000000&&decide ((p.aW.length:Int)<=8)))))) j.aW.1 (λn k hk=> ?_) (λn=> ?_),bF];(have C:=j.aW.2 _ (qG hk);simp only[xC];rw[jE (bE hk),aM hk,qA,bL wi,eB C.aMF,qA];unfold Jv;rw[qF hk,qf];simp only[xY,eJ,Xf]);·simp only[xC];rw[jF wG];simp only[eB j.aLa,eB j.Top,cK,qA,bF]
theorem H6{p:M.bO}(j:p.ok):B9 p=some (EW p):=by have I:=aY j.aW.1;unfold B9 EW;rw[sM (L:=xK p) (g:=Jv p) (F:=some false) (E:=some (inR p.Id 1 1000000000000&&(pS p.aLa&&(pS p.Top&&(inR p.aLT 1 1000000000000&&decide ((p.aW.length:Int)<=8)))))) j.aW.1 (λn k hk=> ?_) (λn=> ?_),bF];(have C:=j.aW.2 _ (qG hk);simp only[xK];rw[jE (bE hk),aM hk,qA,bL wi,dG C.aMF,qA];unfold Jv;rw[qF hk,qf];simp only[xY,eJ,Xf]);·simp only[xK];rw[jF wG];simp only[dG j.aLa,dG j.Top,bY,qA,bF]
theorem MP{s:ByteArray}(j:s.size<=maxLen):Bl s=some (Td s 30 true):=by
 have C:=aY j
 unfold Bl Td
 rw[L7 (L:=eQ s) (g:=Nk true) (F:=some false) (E:=some (inR (s.size:Int) 1 30)) j (λn k hk=> ?_) (λn=> ?_),bF]
 ·simp only[eQ]
  rw[jE (bE hk),Lf hk,qA,bL wi]
  generalize s[k]=b
  unfold Nk
  generalize eQ s n ((k+1:Nat):Int)=Z
  simp only[jX,qM,qL,Bool.not_eq_true',decide_eq_false_iff_not,Bool.true_and,bne_iff_ne,ne_eq]
  repeat' split
  all_goals first|rfl|(exfalso;omega)
 ·simp only[eQ];rw[jF wG,cK,qA]
theorem M4{s:ByteArray}(j:s.size<=maxLen):Bq s=some (Td s 30 true):=by unfold Bq;rw[Lj j,qA]
def TG(x y:M.uY):Bool:=x.aMS&&((y.Name.toList==x.Name.toList)&&(!y.aMS||(!x.aL9|| !y.aL9)))
def L2(l:List M.uY)(k:Nat)(x:M.uY):Bool:=(List.range k).all λj=> !((l[j]?).any (TG x))
def Pz(l:List M.uY)(k:Nat):Bool:=(l[k]?).any λx=>Td x.Name 30 true&&(inR x.bO 1 1000000000000&&L2 l k x)
def Mg(t:M.aT):Bool:=(List.range t.aLk.length).all (Pz t.aLk)&&decide ((t.aLk.length:Int)<=12)
theorem WR{t:M.aT}{x:M.uY}{k:Nat}{K:Int->Option Bool}(I:t.aLk.length<=maxLen)(hk:k<=t.aLk.length):dK t (k:Int) x K aH 0=if L2 t.aLk k x=true then K (k:Int)else some false:=by
 have U:=aY I
 refine sM (L:=dK t (k:Int) x K) (g:=λj=> !((t.aLk[j]?).any (TG x))) (F:=some false) (E:=K (k:Int)) (qh hk I) (λn j J=> ?_) (λn=> ?_)
 ·have C:j<t.aLk.length:=by omega
  simp only[dK]
  rw[jE (bE J),aM C,qA,bL wi,qF C,qf]
  unfold TG
  generalize dK t (k:Int) x K n ((j+1:Nat):Int)=Z
  cases x.aMS<;>cases (t.aLk[j].Name.toList==x.Name.toList)<;>cases t.aLk[j].aMS<;>cases x.aL9<;>cases t.aLk[j].aL9<;>simp
 ·simp only[dK];rw[jF wG]
theorem WC{t:M.aT}{x:M.uY}{k:Nat}{C:Option Bool}(hm:t.aLk.length<=maxLen)(hk:k<=t.aLk.length):dL t (k:Int) x (λ_=>C) aH 0=if L2 t.aLk k x=true then C else some false:=by
 have hm':=aY hm
 have J:(t.aLk.take k).length=k:=by rw[qV];omega
 have:=sM (N:=k) (L:=dL t (k:Int) x (λ_=>C)) (g:=λj=> !((t.aLk[j]?).any (TG x))) (F:=some false) (E:=C) (qh hk hm) (λn j U=> ?_) (λn=> ?_)
 ·exact this
 ·have I:j<t.aLk.length:=by omega
  simp only[dL,qH,J]
  rw[jE (bE U),aM (by rw[J];exact U),qA,bL wi,qF I,qf,List.getElem_take]
  unfold TG
  generalize dL t (k:Int) x (λ_=>C) n ((j+1:Nat):Int)=Z
  cases x.aMS<;>cases (t.aLk[j].Name.toList==x.Name.toList)<;>cases t.aLk[j].aMS<;>cases x.aL9<;>cases t.aLk[j].aL9<;>simp
 ·simp only[dL,qH,J];rw[jF wG]
theorem L9{t:M.aT}(j:t.ok):A7 t=some (Mg t):=by have I:=aY j.aLk.1;unfold A7 Mg;rw[sM (L:=hJ t) (g:=Pz t.aLk) (F:=some false) (E:=some (decide ((t.aLk.length:Int)<=12))) j.aLk.1 (λn k hk=> ?_) (λn=> ?_),bF];(have C:=j.aLk.2 _ (qG hk);simp only[hJ];rw[jE (bE hk),aM hk,qA,bL wi,MP C.Name,qA,cK,qA,WR j.aLk.1 wi];unfold Pz;rw[qF hk,qf];generalize hJ t n ((k+1:Nat):Int)=Z;cases Td t.aLk[k].Name 30 true<;>cases inR t.aLk[k].bO 1 1000000000000<;>cases L2 t.aLk k t.aLk[k]<;>simp);·simp only[hJ];rw[jF wG]
theorem LB{t:M.aT}(j:t.ok):AL t=some (Mg t):=by have I:=aY j.aLk.1;unfold AL Mg;rw[sM (L:=hU t) (g:=Pz t.aLk) (F:=some false) (E:=some (decide ((t.aLk.length:Int)<=12))) j.aLk.1 (λn k hk=> ?_) (λn=> ?_),bF];(have C:=j.aLk.2 _ (qG hk);simp only[hU];rw[jE (bE hk),aM hk,qA,bL wi,M4 C.Name,qA,bY,qA,FT wi,qA,WC j.aLk.1 wi];unfold Pz;rw[qF hk,qf];generalize hU t n ((k+1:Nat):Int)=Z;cases Td t.aLk[k].Name 30 true<;>cases inR t.aLk[k].bO 1 1000000000000<;>cases L2 t.aLk k t.aLk[k]<;>simp);·simp only[hU];rw[jF wG]
theorem aCd:vD.length=3:=rfl
