/-
  Helper text. No conditions.
-/
import Derived.Test.YtjlnkcoeghonfaaGreatRunPagePq4
set_option linter.all false
namespace Go.Proofs.YtjlnkcoeghonfaaGreat.gen
open Go Go.Sh
theorem Ky{d:M.aJj}(h:nDb d=true):(∀(k:Nat) (hk:k<d.aJw.length),lQ d.aJw[k]=true)/\d.Name.size<=8/\d.aJw.length<=4/\d.aJ5.length<=4/\∀u∈d.aJ5,u.Field.size<=8:=by unfold nDb at h;simp only[qM,qL,qR,qS]at h;obtain⟨h1,h2,h3,_,h5,h6⟩:=h;refine⟨λk hk=> ?_,?_,h5,h6,λu j=> ?_⟩;(have:=h1 k hk;unfold HJ at this;rw[qF hk,qM,qe]at this;exact this.1);(unfold mN inR at h3;simp only[qM,qL]at h3;omega);·obtain⟨k,hk,rfl⟩:=List.getElem_of_mem j;have:=h2 k hk;unfold Ik mN inR at this;rw[qF hk]at this;simp only[qe,qM,qL]at this;omega
def QG(d:M.aJj)(j:Nat)(s:M.aD):M.aJj:=(⟨d.Name,d.aJl,d.aJw.set j s,d.aJ5⟩:M.aJj)
def QL(d:M.aJj)(o:M.Op)(j:Nat)(s:M.aD):M.aJj×Int×Bool:=if(nOn s o).2.2=true then if nDb (QG d j (nOn s o).1)=true then(QG d j (nOn s o).1,(nOn s o).2.1,true)else(d,0,false)else(d,0,false)
def Sj(d:M.aJj)(o:M.Op):M.aJj×Int×Bool:=if(nDb d&&nOp o)=true then(match d.aJw[(mF (Cl o.aD) d.aJw).toNat]? with
 |some s=>if mF (Cl o.aD) d.aJw<0 then(d,0,false)else QL d o (mF (Cl o.aD) d.aJw).toNat s
 |none=>(d,0,false))else(d,0,false)
theorem PN{d:M.aJj}{s:M.aD}{j:Nat}(C:d.ok)(I:s.ok):(QG d j s).ok:=⟨C.Name,C.aJl,⟨by show(d.aJw.set j s).length<=_;rw[qN];exact C.aJw.1,λy J=>by rcases jC J with h|rfl;(exact C.aJw.2 y h);·exact I⟩,C.aJ5⟩
theorem TV{d:M.aJj}{s:M.aD}{j:Nat}(hz:M.aJj.sz d<=1000000)(C:M.aD.sz s<=10000):M.aJj.sz (QG d j s)<=1500000:=by have:=Of (f:=M.aD.sz) (x:=s) (l:=d.aJw) (i:=j);simp only[QG,M.aJj.sz,qN]at hz⊢;omega
theorem QZ{d:M.aJj}{o:M.Op}(I:d.ok)(U:K1 o)(hz:M.aJj.sz d<=1000000):Dm d o=some (Sj d o):=by
 unfold Dm Sj
 rw[Ei d jD,qA,E3 I,qA,B1 I jD,qA,M9 U,qA]
 cases hD:nDb d with
 |false=>rfl
 |true=>
  cases hO:nOp o with
  |false=>rfl
  |true=>
   rw[if_neg jF,if_neg jF,if_pos (show(true&&true)=true from rfl)]
   by_cases hf:mF (Cl o.aD) d.aJw<0
   ·rw[if_pos (by simpa using hf)];split;(rw[if_pos hf]);·rfl
   ·obtain⟨j,e,J⟩:=eN hf
    have ht:=(Ky hD).1 j J
    have hs:=I.aJw.2 _ (qG J)
    have C:UW d.aJw[j] o:=⟨hs,U,hO,ht⟩
    obtain⟨v1,v2⟩:=SR C
    rw[if_neg (by simpa using hf),e,qH,qF J]
    simp only[show ¬((j:Nat):Int)<0 from by omega,if_false]
    rw[aH J,qA]
    unfold QL
    obtain⟨x,e1,e2,e3⟩:=Oq C
    rw[e1,qA,qA,<-e2]
    cases hx:x.2.2 with
    |false=>rfl
    |true=>
     obtain rfl:=e3 hx
     rw[if_neg jF,if_pos rfl]
     have:=B1 (PN (j:=j) I v1) (TV hz v2)
     unfold QG at this⊢
     rw[this,qA]
     cases nDb (⟨d.Name,d.aJl,d.aJw.set j (nOn d.aJw[j] o).1,d.aJ5⟩:M.aJj)<;>rfl
theorem Qy{d:M.aJj}{o:M.Op}(I:d.ok)(U:K1 o)(hz:M.aJj.sz d<=1000000):Dp d o=some (Sj d o):=by
 unfold Dp Sj
 rw[sL d jD,qA,E5 I,qA,BX I jD,qA,Nz U,qA]
 cases hD:nDb d with
 |false=>rfl
 |true=>
  cases hO:nOp o with
  |false=>rfl
  |true=>
   rw[if_neg jF,if_neg jF,if_pos (show(true&&true)=true from rfl)]
   by_cases hf:mF (Cl o.aD) d.aJw<0
   ·rw[if_pos (by simpa using hf)];split;(rw[if_pos hf]);·rfl
   ·obtain⟨j,e,J⟩:=eN hf
    have ht:=(Ky hD).1 j J
    have hs:=I.aJw.2 _ (qG J)
    have C:UW d.aJw[j] o:=⟨hs,U,hO,ht⟩
    obtain⟨v1,v2⟩:=SR C
    rw[if_neg (by simpa using hf),e,qH,qF J]
    simp only[show ¬((j:Nat):Int)<0 from by omega,if_false]
    rw[aH J,qA]
    unfold QL
    rw[RX C,qA]
    cases hx:(nOn d.aJw[j] o).2.2 with
    |false=>rfl
    |true=>
     rw[if_neg jF,if_pos rfl]
     have:=BX (PN (j:=j) I v1) (TV hz v2)
     unfold QG at this⊢
     rw[this,qA]
     cases nDb (⟨d.Name,d.aJl,d.aJw.set j (nOn d.aJw[j] o).1,d.aJ5⟩:M.aJj)<;>rfl
theorem P3{d:M.aJj}{o:M.Op}(C:d.ok)(U:K1 o)(hz:M.aJj.sz d<=1000000):(Sj d o).1.ok/\M.aJj.sz (Sj d o).1<=M.aJj.sz d+10000:=by unfold Sj;split;(rename_i h;rw[qM]at h;by_cases hf:mF (Cl o.aD) d.aJw<0;(split;(rw[if_pos hf];exact⟨C,by dsimp only;omega⟩);·exact⟨C,by dsimp only;omega⟩);·obtain⟨j,e,I⟩:=eN hf;have J:UW d.aJw[j] o:=⟨C.aJw.2 _ (qG I),U,h.2,(Ky h.1).1 j I⟩;obtain⟨v1,v2⟩:=SR J;rw[e,qH,qF I];simp only[show ¬((j:Nat):Int)<0 from by omega,if_false];unfold QL;split;(split;(refine⟨PN C v1,?_⟩;have:=Of (f:=M.aD.sz) (x:=(nOn d.aJw[j] o).1) (l:=d.aJw) (i:=j);simp only[QG,M.aJj.sz,qN];omega);·exact⟨C,by dsimp only;omega⟩);·exact⟨C,by dsimp only;omega⟩);·exact⟨C,by dsimp only;omega⟩
theorem XA{d:M.aJj}(h:nDb d=true)(C:∀u∈d.aJ5,u.aD.size<=8):M.aJj.sz d<=100000:=by obtain⟨h1,h2,h3,h4,h5⟩:=Ky h;have I:=Bc (w:=M.aD.sz) (b:=10000) (xs:=d.aJw) (λx j=>by obtain⟨k,hk,rfl⟩:=List.getElem_of_mem j;exact J6 (h1 k hk));have J:=Bc (w:=M.aG.sz) (b:=16) (xs:=d.aJ5) (λx j=>by have U:=h5 x j;have b2:=C x j;simp only[M.aG.sz];omega);simp only[M.aJj.sz];omega
theorem Ue{l:List M.aD}{a:ByteArray}(h:0<=mF (Cl a) l):∃x∈l,x.Name.toList=a.toList:=by obtain⟨k,e,hk⟩:=eN (show ¬mF (Cl a) l<0 by omega);obtain⟨_,j⟩:=Ez e;exact⟨_,qG hk,by unfold Cl at j;exact eq_of_beq j⟩
theorem PX{d:M.aJj}(h:nDb d=true):∀u∈d.aJ5,u.aD.size<=8:=by intro u J;obtain⟨h1,_⟩:=Ky h;unfold nDb at h;simp only[qM,qL,qR,qS]at h;obtain⟨k,hk,rfl⟩:=List.getElem_of_mem J;have:=h.2.1 k hk;unfold Ik at this;rw[qF hk]at this;simp only[qe,qM,qL]at this;obtain⟨x,U,e⟩:=Ue this.1;obtain⟨j,I,rfl⟩:=List.getElem_of_mem U;have C:=(Be (h1 j I)).2.1;unfold mN inR at C;simp only[qM,qL]at C;have:=bsize e;omega
def OE(d0:M.aJj):M.aJj->List Int->List M.Op->M.aJj×List Int×Bool
 |x,j,[]=>(x,j,true)
 |x,j,o::l=>if(Sj x o).2.2=true then OE d0 (Sj x o).1 (j++[(Sj x o).2.1]) l else(d0,([]:List Int),false)
def Fe(d:M.aJj)(l:List M.Op):M.aJj×List Int×Bool:=if nDb d=true then if l.length>6 then(d,([]:List Int),false)else OE d d [] l else(d,([]:List Int),false)
theorem Vk{d0:M.aJj}{l:List M.Op}(h6:l.length<=6)(I:∀o∈l,K1 o)(C:M.aJj.sz d0<=1000000):∀(n k:Nat) (x:M.aJj) (ns:List Int),l.length-k<n->k<=l.length->x.ok->M.aJj.sz x<=900000+10000*k->ns.length=k->tR d0 l n (k:Int) x.Name x.aJl ns x.aJw x.aJ5=some (OE d0 x ns (l.drop k))
 |0,_,_,_,h,_,_,_,_=>by omega
 |n+1,k,x,ns,hn,hk,J,hz,U=>by
  simp only[tR]
  rcases Nat.lt_or_ge k l.length with hlt|hge
  ·rw[if_pos (bE hlt),aH hlt,qA]
   show((Dm x l[k]).bind _)=_
   have j:=I _ (qG hlt)
   obtain⟨v1,v2⟩:=P3 J j jD
   rw[QZ J j jD,qA,qW hlt]
   simp only[OE]
   cases (Sj x l[k]).2.2 with
   |false=>
    rw[if_pos jF,if_neg jF,Ei d0 jD,qA]
   |true=>
    rw[if_neg jF,if_pos rfl,eH jE,qA,bG jD]
    exact Vk h6 I C n (k+1) _ _ jD hlt v1 (qg v2 jD) (by simp[U])
  ·have e:k=l.length:=by omega
   subst e
   rw[if_neg jK,qZ]
   rfl
theorem Kw{d:M.aJj}{l:List M.Op}(j:d.ok)(I:l.length<=1000)(C:∀o∈l,K1 o)(hz:M.aJj.sz d<=1500000):zK d l=some (Fe d l):=by
 unfold zK Fe
 rw[Ei d jD,qA,B1 j jD,qA]
 cases hD:nDb d with
 |false=>rfl
 |true=>
  have J:=XA hD (PX hD)
  rw[if_neg jF,if_pos rfl]
  by_cases h6:l.length>6
  ·rw[if_pos jE,if_pos h6]
  ·rw[if_neg jE,if_neg h6];exact Vk jD C jD fuel 0 d [] jI jD j jD rfl
theorem Vn{d0:M.aJj}{l:List M.Op}(h6:l.length<=6)(I:∀o∈l,K1 o)(C:M.aJj.sz d0<=1000000):∀(n k:Nat) (x:M.aJj) (ns:List Int),l.length-k<n->k<=l.length->x.ok->M.aJj.sz x<=900000+10000*k->ns.length=k->rA d0 l n (k:Int) x.Name x.aJl ns x.aJw x.aJ5=some (OE d0 x ns (l.drop k))
 |0,_,_,_,h,_,_,_,_=>by omega
 |n+1,k,x,ns,hn,hk,J,hz,U=>by
  simp only[rA]
  rcases Nat.lt_or_ge k l.length with hlt|hge
  ·rw[if_pos (bE hlt),aH hlt,qA]
   show((Dp x l[k]).bind _)=_
   have j:=I _ (qG hlt)
   obtain⟨v1,v2⟩:=P3 J j jD
   rw[Qy J j jD,qA,qW hlt]
   simp only[OE]
   cases (Sj x l[k]).2.2 with
   |false=>
    rw[if_pos jF,if_neg jF,sL d0 jD,qA]
   |true=>
    rw[if_neg jF,if_pos rfl,eH jE,qA,bG jD]
    exact Vn h6 I C n (k+1) _ _ jD hlt v1 (qg v2 jD) (by simp[U])
  ·have e:k=l.length:=by omega
   subst e
   rw[if_neg jK,qZ]
   rfl
theorem KG{d:M.aJj}{l:List M.Op}(j:d.ok)(I:l.length<=1000)(C:∀o∈l,K1 o)(hz:M.aJj.sz d<=1500000):yV d l=some (Fe d l):=by
 unfold yV Fe
 rw[sL d jD,qA,BX j jD,qA]
 cases hD:nDb d with
 |false=>rfl
 |true=>
  have J:=XA hD (PX hD)
  rw[if_neg jF,if_pos rfl]
  by_cases h6:l.length>6
  ·rw[if_pos jE,if_pos h6]
  ·rw[if_neg jE,if_neg h6];exact Vn jD C jD fuel 0 d [] jI jD j jD rfl
theorem Zp{d:M.aJj}{o:M.Op}(h:(Sj d o).2.2=true):nDb (Sj d o).1=true:=by unfold Sj at h⊢;split at h;(rename_i h1;rw[if_pos h1];split at h;(rename_i s j;split at h;(cases h);·rename_i h2;rw[if_neg h2];unfold QL at h⊢;split at h;(rename_i h3;rw[if_pos h3];split at h;(rename_i h4;rw[if_pos h4];exact h4);·cases h);·cases h);·cases h);·cases h
theorem Rp{d0:M.aJj}(I:d0.ok):∀{l:List M.Op} {x:M.aJj} {ns:List Int},(∀o∈l,K1 o)->x.ok->nDb x=true->(OE d0 x ns l).1=d0\/((OE d0 x ns l).1.ok/\nDb (OE d0 x ns l).1=true)
 |[],x,ns,_,j,hb=>.inr ⟨j,hb⟩
 |o::l,x,ns,C,j,hb=>by have hz:=XA hb (PX hb);simp only[OE];split;(rename_i h;exact Rp I (λy J=>C y (by simp[J])) (P3 j (C o jF) jD).1 (Zp h));·exact .inl rfl
theorem J2{d:M.aJj}{l:List M.Op}(j:d.ok)(C:∀o∈l,K1 o):(Fe d l).1=d\/((Fe d l).1.ok/\M.aJj.sz (Fe d l).1<=100000):=by unfold Fe;split;(rename_i h;split;(exact .inl rfl);·rcases Rp j C j h (ns:=[])with e|⟨h1,h2⟩;(exact .inl e);·exact .inr ⟨h1,XA h2 (PX h2)⟩);·exact .inl rfl
def KI:M.aJj->Nat->List (List Int)->M.aJj×Int
 |d,i,[]=>(d,(i:Int))
 |d,i,e::l=>if(FW e).2=true then KI (Fe d (FW e).1).1 (i+1) l else(d,(i:Int))
def Fv(d:M.bL):M.aJj×Int:=KI d.aJ8 0 (YA d.Log).1
theorem SX{x3:List (List Int)×Int}(J:x3.1.length<=1500000)(C:∀l∈x3.1,okB l/\l.length<=4000):∀(n k:Nat) (d:M.aJj),x3.1.length-k<n->k<=x3.1.length->d.ok->M.aJj.sz d<=1500000->pT x3 n (k:Int) d.Name d.aJl d.aJw d.aJ5=some (KI d k (x3.1.drop k))
 |0,_,_,h,_,_,_=>by omega
 |n+1,k,d,hn,hk,j,hz=>by
  simp only[pT]
  rcases Nat.lt_or_ge k x3.1.length with hlt|hge
  ·obtain⟨I,b2⟩:=C _ (qG hlt)
   obtain⟨o1,U⟩:=LW I jD
   rw[if_pos (bE hlt),aH hlt,qA,MX I jD,qA,qW hlt]
   simp only[KI]
   cases (FW x3.1[k]).2 with
   |false=>rfl
   |true=>
    rw[if_neg jF,if_pos rfl]
    show((zK d (FW x3.1[k]).1).bind _)=_
    rw[Kw j jD (λo h=>(U o h).1) hz,qA,bG jD]
    rcases J2 j (λo h=>(U o h).1)with e|⟨v1,v2⟩
    ·rw[e];exact SX J C n (k+1) d jD hlt j hz
    ·exact SX J C n (k+1) _ jD hlt v1 jD
  ·have e:k=x3.1.length:=by omega
   subst e
   rw[if_neg jK,qZ]
   rfl
theorem I0{d:M.bL}(j:d.ok)(hz:M.bL.sz d<=1500000):xL d=some (Fv d):=by
 have C:M.aJj.sz d.aJ8<=1500000:=by simp only[M.bL.sz]at hz;omega
 have J:d.Log.length<=1500000:=by simp only[M.bL.sz]at hz;omega
 obtain⟨U,I⟩:=SB j.Log
 unfold xL Fv
 rw[Ei d.aJ8 jD,qA,Ot j.Log jD,qA]
 exact SX (x3:=YA d.Log) jD I fuel 0 d.aJ8 jI jD j.aJ8 C
theorem Sr{x3:List (List Int)×Int}(J:x3.1.length<=1500000)(C:∀l∈x3.1,okB l/\l.length<=4000):∀(n k:Nat) (d:M.aJj),x3.1.length-k<n->k<=x3.1.length->d.ok->M.aJj.sz d<=1500000->mO x3 n (k:Int) d.Name d.aJl d.aJw d.aJ5=some (KI d k (x3.1.drop k))
 |0,_,_,h,_,_,_=>by omega
 |n+1,k,d,hn,hk,j,hz=>by
  simp only[mO]
  rcases Nat.lt_or_ge k x3.1.length with hlt|hge
  ·obtain⟨I,b2⟩:=C _ (qG hlt)
   obtain⟨o1,U⟩:=LW I jD
   rw[if_pos (bE hlt),aH hlt,qA,Mq I jD,qA,qW hlt]
   simp only[KI]
   cases (FW x3.1[k]).2 with
   |false=>rfl
   |true=>
    rw[if_neg jF,if_pos rfl]
    show((yV d (FW x3.1[k]).1).bind _)=_
    rw[KG j jD (λo h=>(U o h).1) hz,qA,bG jD]
    rcases J2 j (λo h=>(U o h).1)with e|⟨v1,v2⟩
    ·rw[e];exact Sr J C n (k+1) d jD hlt j hz
    ·exact Sr J C n (k+1) _ jD hlt v1 jD
  ·have e:k=x3.1.length:=by omega
   subst e
   rw[if_neg jK,qZ]
   rfl
theorem Gd{d:M.bL}(j:d.ok)(hz:M.bL.sz d<=1500000):sN d=some (Fv d):=by
 have C:M.aJj.sz d.aJ8<=1500000:=by simp only[M.bL.sz]at hz;omega
 have J:d.Log.length<=1500000:=by simp only[M.bL.sz]at hz;omega
 obtain⟨U,I⟩:=SB j.Log
 unfold sN Fv
 rw[sL d.aJ8 jD,qA,Ow j.Log jD,qA]
 exact Sr (x3:=YA d.Log) jD I fuel 0 d.aJ8 jI jD j.aJ8 C
theorem Lt:∀{l:List (List Int)} {d:M.aJj} {i:Nat},(∀e∈l,okB e/\e.length<=4000)->d.ok->M.aJj.sz d<=1500000->(KI d i l).1.ok/\M.aJj.sz (KI d i l).1<=1500000
 |[],d,i,_,j,hz=>⟨j,hz⟩
 |e::l,d,i,C,j,hz=>by obtain⟨J,b2⟩:=C e jF;obtain⟨o1,o2⟩:=LW J jD;simp only[KI];split;(rcases J2 j (λo h=>(o2 o h).1)with U|⟨v1,v2⟩;(rw[U];exact Lt (λx I=>C x (by simp[I])) j hz);·exact Lt (λx I=>C x (by simp[I])) v1 jD);·exact⟨j,hz⟩
theorem FO{d:M.bL}(j:d.ok)(hz:M.bL.sz d<=1500000):(Fv d).1.ok/\M.aJj.sz (Fv d).1<=1500000:=Lt (SB j.Log).2 j.aJ8 (by simp only[M.bL.sz]at hz;omega)
def I7(n:Int):M.Key:=(⟨1,n,(⟨#[]⟩:ByteArray)⟩:M.Key)
def N3:ByteArray:=(⟨#[110,111,116,101,115]⟩:ByteArray)
def Jm(d:M.aJj)(n:Int):M.aC:=match d.aJw[(mF (Cl N3) d.aJw).toNat]? with
 |some s=>if mF (Cl N3) d.aJw<0 then(⟨([]:List M.Field)⟩:M.aC)else eQ s (I7 n)
 |none=>(⟨([]:List M.Field)⟩:M.aC)
theorem Qc{d:M.aJj}{n:Int}(j:d.ok):(Jm d n).ok:=by unfold Jm;split;(rename_i s C;split;(exact Tr);·exact FR (j.aJw.2 _ (jB C)));·exact Tr
theorem Xi{d:M.aJj}{n:Int}(hz:M.aJj.sz d<=1500000):M.aC.sz (Jm d n)<=1500000:=by unfold Jm;split;(rename_i s j;split;(simp[M.aC.sz,bA]);·exact qg (Ic s _) (M6 hz _ (jB j)));·simp[M.aC.sz,bA]
def Oa(d:M.aJj):Bool:=decide (0<=mF (Cl N3) d.aJw)
theorem aAZ{s:M.aD}(k:M.Key):M.aC.sz (eQ s k)<=M.aD.sz s:=Ic s k
theorem H3{b:M.aJi}{n:Int}(hb:b.bL.ok)(hz:M.bL.sz b.bL<=1500000):uK b n=some (Jm (Fv b.bL).1 n,Oa (Fv b.bL).1):=by
 obtain⟨J,U⟩:=FO hb hz
 unfold uK Jm
 rw[I0 hb hz,qA]
 generalize (Fv b.bL).1=d at J U⊢
 show((nG d N3).bind _)=_
 rw[E3 J,qA]
 by_cases hf:mF (Cl N3) d.aJw<0
 ·have I:Oa d=false:=by unfold Oa;rw[decide_eq_false_iff_not];omega
  rw[if_pos (by simpa using hf),I]
  split
  ·rw[if_pos hf]
  ·rfl
 ·obtain⟨j,e,C⟩:=eN hf
  have hs:=J.aJw.2 _ (qG C)
  have zs:=M6 U _ (qG C)
  have I:Oa d=true:=by unfold Oa;rw[qL];omega
  rw[I,if_neg (by simpa using hf),e,qH,qF C]
  simp only[show ¬((j:Nat):Int)<0 from by omega,if_false]
  rw[aH C,qA]
  unfold vF
  rw[qA]
  show((gY d.aJw[j] (I7 n)).bind _)=_
  rw[yR hs,qA]
  by_cases hi:mF (sW (I7 n)) d.aJw[j].aJm<0
  ·rw[if_pos (by simpa using hi),Kb hi]
  ·obtain⟨x,e1,e2⟩:=HH hi;have:=aAZ (s:=d.aJw[j]) (I7 n);rw[if_neg (by simpa using hi),e1,qA,e2,B5 _ jD,qA]
theorem Kt{d:M.aJj}{n:Int}(J:d.ok):∃g,Ca d n=some (Jm d n,g,Oa d):=by
 unfold Ca Jm
 show ∃g,((nH d N3).bind _)=_
 rw[E5 J,qA]
 by_cases hf:mF (Cl N3) d.aJw<0
 ·have C:Oa d=false:=by unfold Oa;rw[decide_eq_false_iff_not];omega
  rw[if_pos (by simpa using hf),C]
  split
  ·rw[if_pos hf];exact⟨_,rfl⟩
  ·exact⟨_,rfl⟩
 ·obtain⟨j,e,I⟩:=eN hf
  have U:=J.aJw.2 _ (qG I)
  have C:Oa d=true:=by unfold Oa;rw[qL];omega
  rw[C,if_neg (by simpa using hf),e,qH,qF I]
  simp only[show ¬((j:Nat):Int)<0 from by omega,if_false]
  rw[aH I,qA]
  unfold nI
  rw[qA]
  show ∃g,((kI d.aJw[j] (I7 n)).bind _)=_
  rw[Br U,qA]
  by_cases hi:mF (sW (I7 n)) d.aJw[j].aJm<0
  ·rw[if_pos (by simpa using hi),Kb hi];exact⟨_,rfl⟩
  ·obtain⟨x,e1,e2⟩:=HH hi;rw[if_neg (by simpa using hi),e1,qA,e2];exact⟨_,rfl⟩
def UB(w:M.World)(p:M.bD)(n:Int)(f:ByteArray):Int:=match w.aA.aJp[(mF (nAt p.aJr p.Top) w.aA.aJp).toNat]? with
 |some b=>if mF (nAt p.aJr p.Top) w.aA.aJp<0 then -1 else if(dV (Jm (Fv b.bL).1 n) f).2=true then if 1000<(dV (Jm (Fv b.bL).1 n) f).1 then 1000 else(dV (Jm (Fv b.bL).1 n) f).1 else -1
 |none=> -1
theorem WI{w:M.World}(hz:M.World.sz w<=1500000){b:M.aJi}(hb:b∈w.aA.aJp):M.bL.sz b.bL<=1500000:=by
 have:=dW (f:=M.aJi.sz) hb
 have h2:M.bL.sz b.bL<=M.aJi.sz b:=by simp only[M.aJi.sz];omega
 simp only[M.World.sz,M.aA.sz]at hz
 omega
theorem NJ{w:M.World}{p:M.bD}{n:Int}{f:ByteArray}(I:w.ok)(hz:M.World.sz w<=1500000):xG w p n f=some (UB w p n f):=by
 unfold xG UB
 rw[rY I.aA,qA]
 by_cases hf:mF (nAt p.aJr p.Top) w.aA.aJp<0
 ·rw[if_pos (by simpa using hf)];split;(rw[if_pos hf]);·rfl
 ·obtain⟨j,e,C⟩:=eN hf
  have hb:=I.aA.aJp.2 _ (qG C)
  have J:=WI hz (qG C)
  rw[if_neg (by simpa using hf),e,qH,qF C]
  simp only[show ¬((j:Nat):Int)<0 from by omega,if_false]
  rw[aH C,qA,H3 (n:=n) hb.bL J,qA,pA (Qc (FO hb.bL J).1),qA]
  cases (dV (Jm (Fv w.aA.aJp[j].bL).1 n) f).2 with
  |false=>rfl
  |true=>
   rw[if_neg jF,if_pos rfl]
   unfold FL
   generalize (dV (Jm (Fv w.aA.aJp[j].bL).1 n) f).1=v
   by_cases hv:v<1000
   ·rw[if_pos (by simpa using hv),qA,if_neg jD]
   ·rw[if_neg (by simpa using hv),qA];by_cases h2:1000<v;(rw[if_pos h2]);·rw[if_neg h2,show v=1000 from by omega]
theorem NT{w:M.World}{p:M.bD}{n:Int}{f:ByteArray}(J:w.ok)(hz:M.World.sz w<=1500000):BC w p n f=some (UB w p n f):=by unfold BC kJ UB;rw[sK J.aA,qA];by_cases hf:mF (nAt p.aJr p.Top) w.aA.aJp<0;(rw[if_pos (by simpa using hf),qA];simp only[qC,if_true];split;(rw[if_pos hf]);·rfl);·obtain⟨j,e,C⟩:=eN hf;have hb:=J.aA.aJp.2 _ (qG C);have I:=WI hz (qG C);rw[if_neg (by simpa using hf),e,qH,qF C];simp only[show ¬((j:Nat):Int)<0 from by omega,if_false];obtain⟨g,U⟩:=Kt (n:=n) (FO hb.bL I).1;rw[aH C,qA,qA,if_neg jF,Gd hb.bL I,qA,U,qA,kN (Qc (FO hb.bL I).1),qA];cases (dV (Jm (Fv w.aA.aJp[j].bL).1 n) f).2<;>rfl
