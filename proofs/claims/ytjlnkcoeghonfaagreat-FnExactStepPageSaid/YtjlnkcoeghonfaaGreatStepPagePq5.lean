/-
  Helper text. No conditions.
-/
import Derived.Test.YtjlnkcoeghonfaaGreatStepPagePq4
set_option linter.all false
namespace Go.Proofs.YtjlnkcoeghonfaaGreat.gen
open Go Go.Sh
theorem Ks{d:M.aJb}(h:nDb d=true):(∀(k:Nat) (hk:k<d.aJm.length),lO d.aJm[k]=true)/\d.Name.size<=8/\d.aJm.length<=4/\d.aJw.length<=4/\∀u∈d.aJw,u.Field.size<=8:=by unfold nDb at h;simp only[qM,qL,qR,qS]at h;obtain⟨h1,h2,h3,_,h5,h6⟩:=h;refine⟨λk hk=> ?_,?_,h5,h6,λu j=> ?_⟩;(have:=h1 k hk;unfold HD at this;rw[qF hk,qM,qe]at this;exact this.1);(unfold mL inR at h3;simp only[qM,qL]at h3;omega);·obtain⟨k,hk,rfl⟩:=List.getElem_of_mem j;have:=h2 k hk;unfold Ib mL inR at this;rw[qF hk]at this;simp only[qe,qM,qL]at this;omega
def QB(d:M.aJb)(j:Nat)(s:M.aD):M.aJb:=(⟨d.Name,d.aJd,d.aJm.set j s,d.aJw⟩:M.aJb)
def QH(d:M.aJb)(o:M.Op)(j:Nat)(s:M.aD):M.aJb×Int×Bool:=if(nOn s o).2.2=true then if nDb (QB d j (nOn s o).1)=true then(QB d j (nOn s o).1,(nOn s o).2.1,true)else(d,0,false)else(d,0,false)
def Se(d:M.aJb)(o:M.Op):M.aJb×Int×Bool:=if(nDb d&&nOp o)=true then(match d.aJm[(mD (Ch o.aD) d.aJm).toNat]? with
 |some s=>if mD (Ch o.aD) d.aJm<0 then(d,0,false)else QH d o (mD (Ch o.aD) d.aJm).toNat s
 |none=>(d,0,false))else(d,0,false)
theorem PJ{d:M.aJb}{s:M.aD}{j:Nat}(C:d.ok)(I:s.ok):(QB d j s).ok:=⟨C.Name,C.aJd,⟨by show(d.aJm.set j s).length<=_;rw[qN];exact C.aJm.1,λy J=>by rcases jC J with h|rfl;(exact C.aJm.2 y h);·exact I⟩,C.aJw⟩
theorem TP{d:M.aJb}{s:M.aD}{j:Nat}(hz:M.aJb.sz d<=1000000)(C:M.aD.sz s<=10000):M.aJb.sz (QB d j s)<=1048576:=by have:=Oa (f:=M.aD.sz) (x:=s) (l:=d.aJm) (i:=j);simp only[QB,M.aJb.sz,qN]at hz⊢;omega
theorem QV{d:M.aJb}{o:M.Op}(I:d.ok)(U:KV o)(hz:M.aJb.sz d<=1000000):Dg d o=some (Se d o):=by
 unfold Dg Se
 rw[Ea d jD,qA,EX I,qA,BW I jD,qA,M3 U,qA]
 cases hD:nDb d with
 |false=>rfl
 |true=>
  cases hO:nOp o with
  |false=>rfl
  |true=>
   rw[if_neg jF,if_neg jF,if_pos (show(true&&true)=true from rfl)]
   by_cases hf:mD (Ch o.aD) d.aJm<0
   ·rw[if_pos (by simpa using hf)];split;(rw[if_pos hf]);·rfl
   ·obtain⟨j,e,J⟩:=eN hf
    have ht:=(Ks hD).1 j J
    have hs:=I.aJm.2 _ (qG J)
    have C:UQ d.aJm[j] o:=⟨hs,U,hO,ht⟩
    obtain⟨v1,v2⟩:=SM C
    rw[if_neg (by simpa using hf),e,qH,qF J]
    simp only[show ¬((j:Nat):Int)<0 from by omega,if_false]
    rw[aH J,qA]
    unfold QH
    obtain⟨x,e1,e2,e3⟩:=Ok C
    rw[e1,qA,qA,<-e2]
    cases hx:x.2.2 with
    |false=>rfl
    |true=>
     obtain rfl:=e3 hx
     rw[if_neg jF,if_pos rfl]
     have:=BW (PJ (j:=j) I v1) (TP hz v2)
     unfold QB at this⊢
     rw[this,qA]
     cases nDb (⟨d.Name,d.aJd,d.aJm.set j (nOn d.aJm[j] o).1,d.aJw⟩:M.aJb)<;>rfl
theorem Qu{d:M.aJb}{o:M.Op}(I:d.ok)(U:KV o)(hz:M.aJb.sz d<=1000000):Di d o=some (Se d o):=by
 unfold Di Se
 rw[sI d jD,qA,EY I,qA,BT I jD,qA,Nu U,qA]
 cases hD:nDb d with
 |false=>rfl
 |true=>
  cases hO:nOp o with
  |false=>rfl
  |true=>
   rw[if_neg jF,if_neg jF,if_pos (show(true&&true)=true from rfl)]
   by_cases hf:mD (Ch o.aD) d.aJm<0
   ·rw[if_pos (by simpa using hf)];split;(rw[if_pos hf]);·rfl
   ·obtain⟨j,e,J⟩:=eN hf
    have ht:=(Ks hD).1 j J
    have hs:=I.aJm.2 _ (qG J)
    have C:UQ d.aJm[j] o:=⟨hs,U,hO,ht⟩
    obtain⟨v1,v2⟩:=SM C
    rw[if_neg (by simpa using hf),e,qH,qF J]
    simp only[show ¬((j:Nat):Int)<0 from by omega,if_false]
    rw[aH J,qA]
    unfold QH
    rw[RT C,qA]
    cases hx:(nOn d.aJm[j] o).2.2 with
    |false=>rfl
    |true=>
     rw[if_neg jF,if_pos rfl]
     have:=BT (PJ (j:=j) I v1) (TP hz v2)
     unfold QB at this⊢
     rw[this,qA]
     cases nDb (⟨d.Name,d.aJd,d.aJm.set j (nOn d.aJm[j] o).1,d.aJw⟩:M.aJb)<;>rfl
theorem PZ{d:M.aJb}{o:M.Op}(C:d.ok)(U:KV o)(hz:M.aJb.sz d<=1000000):(Se d o).1.ok/\M.aJb.sz (Se d o).1<=M.aJb.sz d+10000:=by unfold Se;split;(rename_i h;rw[qM]at h;by_cases hf:mD (Ch o.aD) d.aJm<0;(split;(rw[if_pos hf];exact⟨C,by dsimp only;omega⟩);·exact⟨C,by dsimp only;omega⟩);·obtain⟨j,e,I⟩:=eN hf;have J:UQ d.aJm[j] o:=⟨C.aJm.2 _ (qG I),U,h.2,(Ks h.1).1 j I⟩;obtain⟨v1,v2⟩:=SM J;rw[e,qH,qF I];simp only[show ¬((j:Nat):Int)<0 from by omega,if_false];unfold QH;split;(split;(refine⟨PJ C v1,?_⟩;have:=Oa (f:=M.aD.sz) (x:=(nOn d.aJm[j] o).1) (l:=d.aJm) (i:=j);simp only[QB,M.aJb.sz,qN];omega);·exact⟨C,by dsimp only;omega⟩);·exact⟨C,by dsimp only;omega⟩);·exact⟨C,by dsimp only;omega⟩
theorem Xu{d:M.aJb}(h:nDb d=true)(C:∀u∈d.aJw,u.aD.size<=8):M.aJb.sz d<=100000:=by obtain⟨h1,h2,h3,h4,h5⟩:=Ks h;have I:=A9 (w:=M.aD.sz) (b:=10000) (xs:=d.aJm) (λx j=>by obtain⟨k,hk,rfl⟩:=List.getElem_of_mem j;exact J0 (h1 k hk));have J:=A9 (w:=M.aG.sz) (b:=16) (xs:=d.aJw) (λx j=>by have U:=h5 x j;have b2:=C x j;simp only[M.aG.sz];omega);simp only[M.aJb.sz];omega
theorem T8{l:List M.aD}{a:ByteArray}(h:0<=mD (Ch a) l):∃x∈l,x.Name.toList=a.toList:=by obtain⟨k,e,hk⟩:=eN (show ¬mD (Ch a) l<0 by omega);obtain⟨_,j⟩:=Es e;exact⟨_,qG hk,by unfold Ch at j;exact eq_of_beq j⟩
theorem PT{d:M.aJb}(h:nDb d=true):∀u∈d.aJw,u.aD.size<=8:=by intro u J;obtain⟨h1,_⟩:=Ks h;unfold nDb at h;simp only[qM,qL,qR,qS]at h;obtain⟨k,hk,rfl⟩:=List.getElem_of_mem J;have:=h.2.1 k hk;unfold Ib at this;rw[qF hk]at this;simp only[qe,qM,qL]at this;obtain⟨x,U,e⟩:=T8 this.1;obtain⟨j,I,rfl⟩:=List.getElem_of_mem U;have C:=(Bb (h1 j I)).2.1;unfold mL inR at C;simp only[qM,qL]at C;have:=bsize e;omega
def Oz(d0:M.aJb):M.aJb->List Int->List M.Op->M.aJb×List Int×Bool
 |x,j,[]=>(x,j,true)
 |x,j,o::l=>if(Se x o).2.2=true then Oz d0 (Se x o).1 (j++[(Se x o).2.1]) l else(d0,([]:List Int),false)
def E3(d:M.aJb)(l:List M.Op):M.aJb×List Int×Bool:=if nDb d=true then if l.length>6 then(d,([]:List Int),false)else Oz d d [] l else(d,([]:List Int),false)
theorem Vf{d0:M.aJb}{l:List M.Op}(h6:l.length<=6)(I:∀o∈l,KV o)(C:M.aJb.sz d0<=1000000):∀(n k:Nat) (x:M.aJb) (ns:List Int),l.length-k<n->k<=l.length->x.ok->M.aJb.sz x<=900000+10000*k->ns.length=k->tQ d0 l n (k:Int) x.Name x.aJd ns x.aJm x.aJw=some (Oz d0 x ns (l.drop k))
 |0,_,_,_,h,_,_,_,_=>by omega
 |n+1,k,x,ns,hn,hk,J,hz,U=>by
  simp only[tQ]
  rcases Nat.lt_or_ge k l.length with hlt|hge
  ·rw[if_pos (bE hlt),aH hlt,qA]
   show((Dg x l[k]).bind _)=_
   have j:=I _ (qG hlt)
   obtain⟨v1,v2⟩:=PZ J j jD
   rw[QV J j jD,qA,qW hlt]
   simp only[Oz]
   cases (Se x l[k]).2.2 with
   |false=>
    rw[if_pos jF,if_neg jF,Ea d0 jD,qA]
   |true=>
    rw[if_neg jF,if_pos rfl,eH jE,qA,bG jD]
    exact Vf h6 I C n (k+1) _ _ jD hlt v1 (qg v2 jD) (by simp[U])
  ·have e:k=l.length:=by omega
   subst e
   rw[if_neg jK,qZ]
   rfl
theorem Kq{d:M.aJb}{l:List M.Op}(j:d.ok)(I:l.length<=1000)(C:∀o∈l,KV o)(hz:M.aJb.sz d<=1048576):zI d l=some (E3 d l):=by
 unfold zI E3
 rw[Ea d jD,qA,BW j jD,qA]
 cases hD:nDb d with
 |false=>rfl
 |true=>
  have J:=Xu hD (PT hD)
  rw[if_neg jF,if_pos rfl]
  by_cases h6:l.length>6
  ·rw[if_pos jE,if_pos h6]
  ·rw[if_neg jE,if_neg h6];exact Vf jD C jD fuel 0 d [] jI jD j jD rfl
theorem Vi{d0:M.aJb}{l:List M.Op}(h6:l.length<=6)(I:∀o∈l,KV o)(C:M.aJb.sz d0<=1000000):∀(n k:Nat) (x:M.aJb) (ns:List Int),l.length-k<n->k<=l.length->x.ok->M.aJb.sz x<=900000+10000*k->ns.length=k->pV d0 l n (k:Int) x.Name x.aJd ns x.aJm x.aJw=some (Oz d0 x ns (l.drop k))
 |0,_,_,_,h,_,_,_,_=>by omega
 |n+1,k,x,ns,hn,hk,J,hz,U=>by
  simp only[pV]
  rcases Nat.lt_or_ge k l.length with hlt|hge
  ·rw[if_pos (bE hlt),aH hlt,qA]
   show((Di x l[k]).bind _)=_
   have j:=I _ (qG hlt)
   obtain⟨v1,v2⟩:=PZ J j jD
   rw[Qu J j jD,qA,qW hlt]
   simp only[Oz]
   cases (Se x l[k]).2.2 with
   |false=>
    rw[if_pos jF,if_neg jF,sI d0 jD,qA]
   |true=>
    rw[if_neg jF,if_pos rfl,eH jE,qA,bG jD]
    exact Vi h6 I C n (k+1) _ _ jD hlt v1 (qg v2 jD) (by simp[U])
  ·have e:k=l.length:=by omega
   subst e
   rw[if_neg jK,qZ]
   rfl
theorem Kz{d:M.aJb}{l:List M.Op}(j:d.ok)(I:l.length<=1000)(C:∀o∈l,KV o)(hz:M.aJb.sz d<=1048576):yT d l=some (E3 d l):=by
 unfold yT E3
 rw[sI d jD,qA,BT j jD,qA]
 cases hD:nDb d with
 |false=>rfl
 |true=>
  have J:=Xu hD (PT hD)
  rw[if_neg jF,if_pos rfl]
  by_cases h6:l.length>6
  ·rw[if_pos jE,if_pos h6]
  ·rw[if_neg jE,if_neg h6];exact Vi jD C jD fuel 0 d [] jI jD j jD rfl
theorem Zh{d:M.aJb}{o:M.Op}(h:(Se d o).2.2=true):nDb (Se d o).1=true:=by unfold Se at h⊢;split at h;(rename_i h1;rw[if_pos h1];split at h;(rename_i s j;split at h;(cases h);·rename_i h2;rw[if_neg h2];unfold QH at h⊢;split at h;(rename_i h3;rw[if_pos h3];split at h;(rename_i h4;rw[if_pos h4];exact h4);·cases h);·cases h);·cases h);·cases h
theorem Rl{d0:M.aJb}(I:d0.ok):∀{l:List M.Op} {x:M.aJb} {ns:List Int},(∀o∈l,KV o)->x.ok->nDb x=true->(Oz d0 x ns l).1=d0\/((Oz d0 x ns l).1.ok/\nDb (Oz d0 x ns l).1=true)
 |[],x,ns,_,j,hb=>.inr ⟨j,hb⟩
 |o::l,x,ns,C,j,hb=>by have hz:=Xu hb (PT hb);simp only[Oz];split;(rename_i h;exact Rl I (λy J=>C y (by simp[J])) (PZ j (C o jF) jD).1 (Zh h));·exact .inl rfl
theorem JW{d:M.aJb}{l:List M.Op}(j:d.ok)(C:∀o∈l,KV o):(E3 d l).1=d\/((E3 d l).1.ok/\M.aJb.sz (E3 d l).1<=100000):=by unfold E3;split;(rename_i h;split;(exact .inl rfl);·rcases Rl j C j h (ns:=[])with e|⟨h1,h2⟩;(exact .inl e);·exact .inr ⟨h1,Xu h2 (PT h2)⟩);·exact .inl rfl
def KC:M.aJb->Nat->List (List Int)->M.aJb×Int
 |d,i,[]=>(d,(i:Int))
 |d,i,e::l=>if(FP e).2=true then KC (E3 d (FP e).1).1 (i+1) l else(d,(i:Int))
def Fl(d:M.bL):M.aJb×Int:=KC d.aJz 0 (Yt d.Log).1
theorem SP{x3:List (List Int)×Int}(J:x3.1.length<=1048576)(C:∀l∈x3.1,okB l/\l.length<=4000):∀(n k:Nat) (d:M.aJb),x3.1.length-k<n->k<=x3.1.length->d.ok->M.aJb.sz d<=1048576->pO x3 n (k:Int) d.Name d.aJd d.aJm d.aJw=some (KC d k (x3.1.drop k))
 |0,_,_,h,_,_,_=>by omega
 |n+1,k,d,hn,hk,j,hz=>by
  simp only[pO]
  rcases Nat.lt_or_ge k x3.1.length with hlt|hge
  ·obtain⟨I,b2⟩:=C _ (qG hlt)
   obtain⟨o1,U⟩:=LO I jD
   rw[if_pos (bE hlt),aH hlt,qA,MN I jD,qA,qW hlt]
   simp only[KC]
   cases (FP x3.1[k]).2 with
   |false=>rfl
   |true=>
    rw[if_neg jF,if_pos rfl]
    show((zI d (FP x3.1[k]).1).bind _)=_
    rw[Kq j jD (λo h=>(U o h).1) hz,qA,bG jD]
    rcases JW j (λo h=>(U o h).1)with e|⟨v1,v2⟩
    ·rw[e];exact SP J C n (k+1) d jD hlt j hz
    ·exact SP J C n (k+1) _ jD hlt v1 jD
  ·have e:k=x3.1.length:=by omega
   subst e
   rw[if_neg jK,qZ]
   rfl
theorem IQ{d:M.bL}(j:d.ok)(hz:M.bL.sz d<=1048576):xJ d=some (Fl d):=by
 have C:M.aJb.sz d.aJz<=1048576:=by simp only[M.bL.sz]at hz;omega
 have J:d.Log.length<=1048576:=by simp only[M.bL.sz]at hz;omega
 obtain⟨U,I⟩:=Su j.Log
 unfold xJ Fl
 rw[Ea d.aJz jD,qA,Ol j.Log jD,qA]
 exact SP (x3:=Yt d.Log) jD I fuel 0 d.aJz jI jD j.aJz C
theorem Sm{x3:List (List Int)×Int}(J:x3.1.length<=1048576)(C:∀l∈x3.1,okB l/\l.length<=4000):∀(n k:Nat) (d:M.aJb),x3.1.length-k<n->k<=x3.1.length->d.ok->M.aJb.sz d<=1048576->mM x3 n (k:Int) d.Name d.aJd d.aJm d.aJw=some (KC d k (x3.1.drop k))
 |0,_,_,h,_,_,_=>by omega
 |n+1,k,d,hn,hk,j,hz=>by
  simp only[mM]
  rcases Nat.lt_or_ge k x3.1.length with hlt|hge
  ·obtain⟨I,b2⟩:=C _ (qG hlt)
   obtain⟨o1,U⟩:=LO I jD
   rw[if_pos (bE hlt),aH hlt,qA,Mk I jD,qA,qW hlt]
   simp only[KC]
   cases (FP x3.1[k]).2 with
   |false=>rfl
   |true=>
    rw[if_neg jF,if_pos rfl]
    show((yT d (FP x3.1[k]).1).bind _)=_
    rw[Kz j jD (λo h=>(U o h).1) hz,qA,bG jD]
    rcases JW j (λo h=>(U o h).1)with e|⟨v1,v2⟩
    ·rw[e];exact Sm J C n (k+1) d jD hlt j hz
    ·exact Sm J C n (k+1) _ jD hlt v1 jD
  ·have e:k=x3.1.length:=by omega
   subst e
   rw[if_neg jK,qZ]
   rfl
theorem F8{d:M.bL}(j:d.ok)(hz:M.bL.sz d<=1048576):sK d=some (Fl d):=by
 have C:M.aJb.sz d.aJz<=1048576:=by simp only[M.bL.sz]at hz;omega
 have J:d.Log.length<=1048576:=by simp only[M.bL.sz]at hz;omega
 obtain⟨U,I⟩:=Su j.Log
 unfold sK Fl
 rw[sI d.aJz jD,qA,Oo j.Log jD,qA]
 exact Sm (x3:=Yt d.Log) jD I fuel 0 d.aJz jI jD j.aJz C
theorem Ln:∀{l:List (List Int)} {d:M.aJb} {i:Nat},(∀e∈l,okB e/\e.length<=4000)->d.ok->M.aJb.sz d<=1048576->(KC d i l).1.ok/\M.aJb.sz (KC d i l).1<=1048576
 |[],d,i,_,j,hz=>⟨j,hz⟩
 |e::l,d,i,C,j,hz=>by obtain⟨J,b2⟩:=C e jF;obtain⟨o1,o2⟩:=LO J jD;simp only[KC];split;(rcases JW j (λo h=>(o2 o h).1)with U|⟨v1,v2⟩;(rw[U];exact Ln (λx I=>C x (by simp[I])) j hz);·exact Ln (λx I=>C x (by simp[I])) v1 jD);·exact⟨j,hz⟩
theorem FI{d:M.bL}(j:d.ok)(hz:M.bL.sz d<=1048576):(Fl d).1.ok/\M.aJb.sz (Fl d).1<=1048576:=Ln (Su j.Log).2 j.aJz (by simp only[M.bL.sz]at hz;omega)
def IX(n:Int):M.Key:=(⟨1,n,(⟨#[]⟩:ByteArray)⟩:M.Key)
def NY:ByteArray:=(⟨#[110,111,116,101,115]⟩:ByteArray)
def Jf(d:M.aJb)(n:Int):M.aA:=match d.aJm[(mD (Ch NY) d.aJm).toNat]? with
 |some s=>if mD (Ch NY) d.aJm<0 then(⟨([]:List M.Field)⟩:M.aA)else eP s (IX n)
 |none=>(⟨([]:List M.Field)⟩:M.aA)
theorem P8{d:M.aJb}{n:Int}(j:d.ok):(Jf d n).ok:=by unfold Jf;split;(rename_i s C;split;(exact Tk);·exact FL (j.aJm.2 _ (jB C)));·exact Tk
theorem Xc{d:M.aJb}{n:Int}(hz:M.aJb.sz d<=1048576):M.aA.sz (Jf d n)<=1048576:=by unfold Jf;split;(rename_i s j;split;(simp[M.aA.sz,bA]);·exact qg (H6 s _) (MZ hz _ (jB j)));·simp[M.aA.sz,bA]
def N5(d:M.aJb):Bool:=decide (0<=mD (Ch NY) d.aJm)
theorem aAS{s:M.aD}(k:M.Key):M.aA.sz (eP s k)<=M.aD.sz s:=H6 s k
theorem HU{b:M.aJa}{n:Int}(hb:b.bL.ok)(hz:M.bL.sz b.bL<=1048576):uJ b n=some (Jf (Fl b.bL).1 n,N5 (Fl b.bL).1):=by
 obtain⟨J,U⟩:=FI hb hz
 unfold uJ Jf
 rw[IQ hb hz,qA]
 generalize (Fl b.bL).1=d at J U⊢
 show((nE d NY).bind _)=_
 rw[EX J,qA]
 by_cases hf:mD (Ch NY) d.aJm<0
 ·have I:N5 d=false:=by unfold N5;rw[decide_eq_false_iff_not];omega
  rw[if_pos (by simpa using hf),I]
  split
  ·rw[if_pos hf]
  ·rfl
 ·obtain⟨j,e,C⟩:=eN hf
  have hs:=J.aJm.2 _ (qG C)
  have zs:=MZ U _ (qG C)
  have I:N5 d=true:=by unfold N5;rw[qL];omega
  rw[I,if_neg (by simpa using hf),e,qH,qF C]
  simp only[show ¬((j:Nat):Int)<0 from by omega,if_false]
  rw[aH C,qA]
  unfold vC
  rw[qA]
  show((gX d.aJm[j] (IX n)).bind _)=_
  rw[yP hs,qA]
  by_cases hi:mD (sU (IX n)) d.aJm[j].aJe<0
  ·rw[if_pos (by simpa using hi),J5 hi]
  ·obtain⟨x,e1,e2⟩:=HB hi;have:=aAS (s:=d.aJm[j]) (IX n);rw[if_neg (by simpa using hi),e1,qA,e2,B1 _ jD,qA]
theorem Kn{d:M.aJb}{n:Int}(J:d.ok):∃g,B6 d n=some (Jf d n,g,N5 d):=by
 unfold B6 Jf
 show ∃g,((nF d NY).bind _)=_
 rw[EY J,qA]
 by_cases hf:mD (Ch NY) d.aJm<0
 ·have C:N5 d=false:=by unfold N5;rw[decide_eq_false_iff_not];omega
  rw[if_pos (by simpa using hf),C]
  split
  ·rw[if_pos hf];exact⟨_,rfl⟩
  ·exact⟨_,rfl⟩
 ·obtain⟨j,e,I⟩:=eN hf
  have U:=J.aJm.2 _ (qG I)
  have C:N5 d=true:=by unfold N5;rw[qL];omega
  rw[C,if_neg (by simpa using hf),e,qH,qF I]
  simp only[show ¬((j:Nat):Int)<0 from by omega,if_false]
  rw[aH I,qA]
  unfold nG
  rw[qA]
  show ∃g,((kF d.aJm[j] (IX n)).bind _)=_
  rw[Bn U,qA]
  by_cases hi:mD (sU (IX n)) d.aJm[j].aJe<0
  ·rw[if_pos (by simpa using hi),J5 hi];exact⟨_,rfl⟩
  ·obtain⟨x,e1,e2⟩:=HB hi;rw[if_neg (by simpa using hi),e1,qA,e2];exact⟨_,rfl⟩
def Uv(w:M.World)(p:M.bD)(n:Int)(f:ByteArray):Int:=match w.aC.aJh[(mD (nAt p.aJj p.Top) w.aC.aJh).toNat]? with
 |some b=>if mD (nAt p.aJj p.Top) w.aC.aJh<0 then -1 else if(dU (Jf (Fl b.bL).1 n) f).2=true then if 1000<(dU (Jf (Fl b.bL).1 n) f).1 then 1000 else(dU (Jf (Fl b.bL).1 n) f).1 else -1
 |none=> -1
theorem WC{w:M.World}(hz:M.World.sz w<=1048576){b:M.aJa}(hb:b∈w.aC.aJh):M.bL.sz b.bL<=1048576:=by
 have:=eD (f:=M.aJa.sz) hb
 have h2:M.bL.sz b.bL<=M.aJa.sz b:=by simp only[M.aJa.sz];omega
 simp only[M.World.sz,M.aC.sz]at hz
 omega
theorem ND{w:M.World}{p:M.bD}{n:Int}{f:ByteArray}(I:w.ok)(hz:M.World.sz w<=1048576):xE w p n f=some (Uv w p n f):=by
 unfold xE Uv
 rw[rU I.aC,qA]
 by_cases hf:mD (nAt p.aJj p.Top) w.aC.aJh<0
 ·rw[if_pos (by simpa using hf)];split;(rw[if_pos hf]);·rfl
 ·obtain⟨j,e,C⟩:=eN hf
  have hb:=I.aC.aJh.2 _ (qG C)
  have J:=WC hz (qG C)
  rw[if_neg (by simpa using hf),e,qH,qF C]
  simp only[show ¬((j:Nat):Int)<0 from by omega,if_false]
  rw[aH C,qA,HU (n:=n) hb.bL J,qA,oT (P8 (FI hb.bL J).1),qA]
  cases (dU (Jf (Fl w.aC.aJh[j].bL).1 n) f).2 with
  |false=>rfl
  |true=>
   rw[if_neg jF,if_pos rfl]
   unfold FF
   generalize (dU (Jf (Fl w.aC.aJh[j].bL).1 n) f).1=v
   by_cases hv:v<1000
   ·rw[if_pos (by simpa using hv),qA,if_neg jD]
   ·rw[if_neg (by simpa using hv),qA];by_cases h2:1000<v;(rw[if_pos h2]);·rw[if_neg h2,show v=1000 from by omega]
theorem NO{w:M.World}{p:M.bD}{n:Int}{f:ByteArray}(J:w.ok)(hz:M.World.sz w<=1048576):Bx w p n f=some (Uv w p n f):=by unfold Bx kG Uv;rw[sH J.aC,qA];by_cases hf:mD (nAt p.aJj p.Top) w.aC.aJh<0;(rw[if_pos (by simpa using hf),qA];simp only[qC,if_true];split;(rw[if_pos hf]);·rfl);·obtain⟨j,e,C⟩:=eN hf;have hb:=J.aC.aJh.2 _ (qG C);have I:=WC hz (qG C);rw[if_neg (by simpa using hf),e,qH,qF C];simp only[show ¬((j:Nat):Int)<0 from by omega,if_false];obtain⟨g,U⟩:=Kn (n:=n) (FI hb.bL I).1;rw[aH C,qA,qA,if_neg jF,F8 hb.bL I,qA,U,qA,kL (P8 (FI hb.bL I).1),qA];cases (dU (Jf (Fl w.aC.aJh[j].bL).1 n) f).2<;>rfl
