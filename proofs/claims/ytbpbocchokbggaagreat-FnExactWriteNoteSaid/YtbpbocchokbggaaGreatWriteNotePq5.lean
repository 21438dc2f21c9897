/-
  Helper text. No conditions.
-/
import Derived.Test.YtbpbocchokbggaaGreatWriteNotePq4
set_option linter.all false
namespace Go.Proofs.YtbpbocchokbggaaGreat.gen
open Go Go.Sh
theorem Hv{d:M.aEK}(h:nDb d=true):(∀(k:Nat) (hk:k<d.aEU.length),kZ d.aEU[k]=true)/\d.Name.size<=8/\d.aEU.length<=4/\d.aEb.length<=4/\∀u∈d.aEb,u.Field.size<=8:=by unfold nDb at h;simp only[qM,qL,qR,qS]at h;obtain⟨h1,h2,h3,_,h5,h6⟩:=h;refine⟨λk hk=> ?_,?_,h5,h6,λu j=> ?_⟩;(have:=h1 k hk;unfold EJ at this;rw[qF hk,qM,qe]at this;exact this.1);(unfold sY inR at h3;simp only[qM,qL]at h3;omega);·obtain⟨k,hk,rfl⟩:=List.getElem_of_mem j;have:=h2 k hk;unfold E6 sY inR at this;rw[qF hk]at this;simp only[qe,qM,qL]at this;omega
def M0(d:M.aEK)(j:Nat)(s:M.aC):M.aEK:=(⟨d.Name,d.aER,d.aEU.set j s,d.aEb⟩:M.aEK)
def M6(d:M.aEK)(o:M.Op)(j:Nat)(s:M.aC):M.aEK×Int×Bool:=if(nOn s o).2.2=true then if nDb (M0 d j (nOn s o).1)=true then(M0 d j (nOn s o).1,(nOn s o).2.1,true)else(d,0,false)else(d,0,false)
def Oz(d:M.aEK)(o:M.Op):M.aEK×Int×Bool:=if(nDb d&&nOp o)=true then(match d.aEU[(rY (Ab o.aC) d.aEU).toNat]? with
 |some s=>if rY (Ab o.aC) d.aEU<0 then(d,0,false)else M6 d o (rY (Ab o.aC) d.aEU).toNat s
 |none=>(d,0,false))else(d,0,false)
theorem L3{d:M.aEK}{s:M.aC}{j:Nat}(C:d.ok)(I:s.ok):(M0 d j s).ok:=⟨C.Name,C.aER,⟨by show(d.aEU.set j s).length<=_;rw[qN];exact C.aEU.1,λy J=>by rcases jC J with h|rfl;(exact C.aEU.2 y h);·exact I⟩,C.aEb⟩
theorem PW{d:M.aEK}{s:M.aC}{j:Nat}(hz:M.aEK.sz d<=1000000)(C:M.aC.sz s<=10000):M.aEK.sz (M0 d j s)<=1048576:=by have:=HU (f:=M.aC.sz) (x:=s) (l:=d.aEU) (i:=j);simp only[M0,M.aEK.sz,qN]at hz⊢;omega
theorem Nk{d:M.aEK}{o:M.Op}(I:d.ok)(U:HW o)(hz:M.aEK.sz d<=1000000):Be d o=some (Oz d o):=by
 unfold Be Oz
 rw[Ca d jD,qA,CU I,qA,zM I jD,qA,JP U,qA]
 cases hD:nDb d with
 |false=>rfl
 |true=>
  cases hO:nOp o with
  |false=>rfl
  |true=>
   rw[if_neg jF,if_neg jF,if_pos (show(true&&true)=true from rfl)]
   by_cases hf:rY (Ab o.aC) d.aEU<0
   ·rw[if_pos (by simpa using hf)];split;(rw[if_pos hf]);·rfl
   ·obtain⟨j,e,J⟩:=kN hf
    have ht:=(Hv hD).1 j J
    have hs:=I.aEU.2 _ (qG J)
    have C:QM d.aEU[j] o:=⟨hs,U,hO,ht⟩
    obtain⟨v1,v2⟩:=O2 C
    rw[if_neg (by simpa using hf),e,qH,qF J]
    simp only[show ¬((j:Nat):Int)<0 from by omega,if_false]
    rw[aM J,qA]
    unfold M6
    obtain⟨x,e1,e2,e3⟩:=KJ C
    rw[e1,qA,qA,<-e2]
    cases hx:x.2.2 with
    |false=>rfl
    |true=>
     obtain rfl:=e3 hx
     rw[if_neg jF,if_pos rfl]
     have:=zM (L3 (j:=j) I v1) (PW hz v2)
     unfold M0 at this⊢
     rw[this,qA]
     cases nDb (⟨d.Name,d.aER,d.aEU.set j (nOn d.aEU[j] o).1,d.aEb⟩:M.aEK)<;>rfl
theorem MR{d:M.aEK}{o:M.Op}(I:d.ok)(U:HW o)(hz:M.aEK.sz d<=1000000):Bg d o=some (Oz d o):=by
 unfold Bg Oz
 rw[oE d jD,qA,CV I,qA,zJ I jD,qA,J6 U,qA]
 cases hD:nDb d with
 |false=>rfl
 |true=>
  cases hO:nOp o with
  |false=>rfl
  |true=>
   rw[if_neg jF,if_neg jF,if_pos (show(true&&true)=true from rfl)]
   by_cases hf:rY (Ab o.aC) d.aEU<0
   ·rw[if_pos (by simpa using hf)];split;(rw[if_pos hf]);·rfl
   ·obtain⟨j,e,J⟩:=kN hf
    have ht:=(Hv hD).1 j J
    have hs:=I.aEU.2 _ (qG J)
    have C:QM d.aEU[j] o:=⟨hs,U,hO,ht⟩
    obtain⟨v1,v2⟩:=O2 C
    rw[if_neg (by simpa using hf),e,qH,qF J]
    simp only[show ¬((j:Nat):Int)<0 from by omega,if_false]
    rw[aM J,qA]
    unfold M6
    rw[Og C,qA]
    cases hx:(nOn d.aEU[j] o).2.2 with
    |false=>rfl
    |true=>
     rw[if_neg jF,if_pos rfl]
     have:=zJ (L3 (j:=j) I v1) (PW hz v2)
     unfold M0 at this⊢
     rw[this,qA]
     cases nDb (⟨d.Name,d.aER,d.aEU.set j (nOn d.aEU[j] o).1,d.aEb⟩:M.aEK)<;>rfl
theorem Mk{d:M.aEK}{o:M.Op}(C:d.ok)(U:HW o)(hz:M.aEK.sz d<=1000000):(Oz d o).1.ok/\M.aEK.sz (Oz d o).1<=M.aEK.sz d+10000:=by unfold Oz;split;(rename_i h;rw[qM]at h;by_cases hf:rY (Ab o.aC) d.aEU<0;(split;(rw[if_pos hf];exact⟨C,by dsimp only;omega⟩);·exact⟨C,by dsimp only;omega⟩);·obtain⟨j,e,I⟩:=kN hf;have J:QM d.aEU[j] o:=⟨C.aEU.2 _ (qG I),U,h.2,(Hv h.1).1 j I⟩;obtain⟨v1,v2⟩:=O2 J;rw[e,qH,qF I];simp only[show ¬((j:Nat):Int)<0 from by omega,if_false];unfold M6;split;(split;(refine⟨L3 C v1,?_⟩;have:=HU (f:=M.aC.sz) (x:=(nOn d.aEU[j] o).1) (l:=d.aEU) (i:=j);simp only[M0,M.aEK.sz,qN];omega);·exact⟨C,by dsimp only;omega⟩);·exact⟨C,by dsimp only;omega⟩);·exact⟨C,by dsimp only;omega⟩
theorem Tn{d:M.aEK}(h:nDb d=true)(C:∀u∈d.aEb,u.aC.size<=8):M.aEK.sz d<=100000:=by obtain⟨h1,h2,h3,h4,h5⟩:=Hv h;have I:=xX (w:=M.aC.sz) (b:=10000) (xs:=d.aEU) (λx j=>by obtain⟨k,hk,rfl⟩:=List.getElem_of_mem j;exact JD (h1 k hk));have J:=xX (w:=M.aG.sz) (b:=16) (xs:=d.aEb) (λx j=>by have U:=h5 x j;have b2:=C x j;simp only[M.aG.sz];omega);simp only[M.aEK.sz];omega
theorem Qb{l:List M.aC}{a:ByteArray}(h:0<=rY (Ab a) l):∃x∈l,x.Name.toList=a.toList:=by obtain⟨k,e,hk⟩:=kN (show ¬rY (Ab a) l<0 by omega);obtain⟨_,j⟩:=FW e;exact⟨_,qG hk,by unfold Ab at j;exact eq_of_beq j⟩
theorem Me{d:M.aEK}(h:nDb d=true):∀u∈d.aEb,u.aC.size<=8:=by intro u J;obtain⟨h1,_⟩:=Hv h;unfold nDb at h;simp only[qM,qL,qR,qS]at h;obtain⟨k,hk,rfl⟩:=List.getElem_of_mem J;have:=h.2.1 k hk;unfold E6 at this;rw[qF hk]at this;simp only[qe,qM,qL]at this;obtain⟨x,U,e⟩:=Qb this.1;obtain⟨j,I,rfl⟩:=List.getElem_of_mem U;have C:=(xY (h1 j I)).2.1;unfold sY inR at C;simp only[qM,qL]at C;have:=bsize e;omega
def KV(d0:M.aEK):M.aEK->List Int->List M.Op->M.aEK×List Int×Bool
 |x,j,[]=>(x,j,true)
 |x,j,o::l=>if(Oz x o).2.2=true then KV d0 (Oz x o).1 (j++[(Oz x o).2.1]) l else(d0,([]:List Int),false)
def C0(d:M.aEK)(l:List M.Op):M.aEK×List Int×Bool:=if nDb d=true then if l.length>6 then(d,([]:List Int),false)else KV d d [] l else(d,([]:List Int),false)
theorem Rb{d0:M.aEK}{l:List M.Op}(h6:l.length<=6)(I:∀o∈l,HW o)(C:M.aEK.sz d0<=1000000):∀(n k:Nat) (x:M.aEK) (ns:List Int),l.length-k<n->k<=l.length->x.ok->M.aEK.sz x<=900000+10000*k->ns.length=k->pD d0 l n (k:Int) x.Name x.aER ns x.aEU x.aEb=some (KV d0 x ns (l.drop k))
 |0,_,_,_,h,_,_,_,_=>by omega
 |n+1,k,x,ns,hn,hk,J,hz,U=>by
  simp only[pD]
  rcases Nat.lt_or_ge k l.length with hlt|hge
  ·rw[if_pos (bL hlt),aM hlt,qA]
   show((Be x l[k]).bind _)=_
   have j:=I _ (qG hlt)
   obtain⟨v1,v2⟩:=Mk J j jD
   rw[Nk J j jD,qA,qW hlt]
   simp only[KV]
   cases (Oz x l[k]).2.2 with
   |false=>
    rw[if_pos jF,if_neg jF,Ca d0 jD,qA]
   |true=>
    rw[if_neg jF,if_pos rfl,fR jE,qA,bI jD]
    exact Rb h6 I C n (k+1) _ _ jD hlt v1 (qg v2 jD) (by simp[U])
  ·have e:k=l.length:=by omega
   subst e
   rw[if_neg jK,qZ]
   rfl
theorem Ht{d:M.aEK}{l:List M.Op}(j:d.ok)(I:l.length<=1000)(C:∀o∈l,HW o)(hz:M.aEK.sz d<=1048576):uZ d l=some (C0 d l):=by
 unfold uZ C0
 rw[Ca d jD,qA,zM j jD,qA]
 cases hD:nDb d with
 |false=>rfl
 |true=>
  have J:=Tn hD (Me hD)
  rw[if_neg jF,if_pos rfl]
  by_cases h6:l.length>6
  ·rw[if_pos jE,if_pos h6]
  ·rw[if_neg jE,if_neg h6];exact Rb jD C jD fuel 0 d [] jI jD j jD rfl
theorem Re{d0:M.aEK}{l:List M.Op}(h6:l.length<=6)(I:∀o∈l,HW o)(C:M.aEK.sz d0<=1000000):∀(n k:Nat) (x:M.aEK) (ns:List Int),l.length-k<n->k<=l.length->x.ok->M.aEK.sz x<=900000+10000*k->ns.length=k->mR d0 l n (k:Int) x.Name x.aER ns x.aEU x.aEb=some (KV d0 x ns (l.drop k))
 |0,_,_,_,h,_,_,_,_=>by omega
 |n+1,k,x,ns,hn,hk,J,hz,U=>by
  simp only[mR]
  rcases Nat.lt_or_ge k l.length with hlt|hge
  ·rw[if_pos (bL hlt),aM hlt,qA]
   show((Bg x l[k]).bind _)=_
   have j:=I _ (qG hlt)
   obtain⟨v1,v2⟩:=Mk J j jD
   rw[MR J j jD,qA,qW hlt]
   simp only[KV]
   cases (Oz x l[k]).2.2 with
   |false=>
    rw[if_pos jF,if_neg jF,oE d0 jD,qA]
   |true=>
    rw[if_neg jF,if_pos rfl,fR jE,qA,bI jD]
    exact Re h6 I C n (k+1) _ _ jD hlt v1 (qg v2 jD) (by simp[U])
  ·have e:k=l.length:=by omega
   subst e
   rw[if_neg jK,qZ]
   rfl
theorem HC{d:M.aEK}{l:List M.Op}(j:d.ok)(I:l.length<=1000)(C:∀o∈l,HW o)(hz:M.aEK.sz d<=1048576):uL d l=some (C0 d l):=by
 unfold uL C0
 rw[oE d jD,qA,zJ j jD,qA]
 cases hD:nDb d with
 |false=>rfl
 |true=>
  have J:=Tn hD (Me hD)
  rw[if_neg jF,if_pos rfl]
  by_cases h6:l.length>6
  ·rw[if_pos jE,if_pos h6]
  ·rw[if_neg jE,if_neg h6];exact Re jD C jD fuel 0 d [] jI jD j jD rfl
theorem Vf{d:M.aEK}{o:M.Op}(h:(Oz d o).2.2=true):nDb (Oz d o).1=true:=by unfold Oz at h⊢;split at h;(rename_i h1;rw[if_pos h1];split at h;(rename_i s j;split at h;(cases h);·rename_i h2;rw[if_neg h2];unfold M6 at h⊢;split at h;(rename_i h3;rw[if_pos h3];split at h;(rename_i h4;rw[if_pos h4];exact h4);·cases h);·cases h);·cases h);·cases h
theorem NI{d0:M.aEK}(I:d0.ok):∀{l:List M.Op} {x:M.aEK} {ns:List Int},(∀o∈l,HW o)->x.ok->nDb x=true->(KV d0 x ns l).1=d0\/((KV d0 x ns l).1.ok/\nDb (KV d0 x ns l).1=true)
 |[],x,ns,_,j,hb=>.inr ⟨j,hb⟩
 |o::l,x,ns,C,j,hb=>by have hz:=Tn hb (Me hb);simp only[KV];split;(rename_i h;exact NI I (λy J=>C y (by simp[J])) (Mk j (C o jF) jD).1 (Vf h));·exact .inl rfl
theorem GR{d:M.aEK}{l:List M.Op}(j:d.ok)(C:∀o∈l,HW o):(C0 d l).1=d\/((C0 d l).1.ok/\M.aEK.sz (C0 d l).1<=100000):=by unfold C0;split;(rename_i h;split;(exact .inl rfl);·rcases NI j C j h (ns:=[])with e|⟨h1,h2⟩;(exact .inl e);·exact .inr ⟨h1,Tn h2 (Me h2)⟩);·exact .inl rfl
def HE:M.aEK->Nat->List (List Int)->M.aEK×Int
 |d,i,[]=>(d,(i:Int))
 |d,i,e::l=>if(Dt e).2=true then HE (C0 d (Dt e).1).1 (i+1) l else(d,(i:Int))
def EX(d:M.bK):M.aEK×Int:=HE d.aEe 0 (Ut d.Log).1
theorem O4{x3:List (List Int)×Int}(J:x3.1.length<=1048576)(C:∀l∈x3.1,okB l/\l.length<=4000):∀(n k:Nat) (d:M.aEK),x3.1.length-k<n->k<=x3.1.length->d.ok->M.aEK.sz d<=1048576->mN x3 n (k:Int) d.Name d.aER d.aEU d.aEb=some (HE d k (x3.1.drop k))
 |0,_,_,h,_,_,_=>by omega
 |n+1,k,d,hn,hk,j,hz=>by
  simp only[mN]
  rcases Nat.lt_or_ge k x3.1.length with hlt|hge
  ·obtain⟨I,b2⟩:=C _ (qG hlt)
   obtain⟨o1,U⟩:=IH I jD
   rw[if_pos (bL hlt),aM hlt,qA,JB I jD,qA,qW hlt]
   simp only[HE]
   cases (Dt x3.1[k]).2 with
   |false=>rfl
   |true=>
    rw[if_neg jF,if_pos rfl]
    show((uZ d (Dt x3.1[k]).1).bind _)=_
    rw[Ht j jD (λo h=>(U o h).1) hz,qA,bI jD]
    rcases GR j (λo h=>(U o h).1)with e|⟨v1,v2⟩
    ·rw[e];exact O4 J C n (k+1) d jD hlt j hz
    ·exact O4 J C n (k+1) _ jD hlt v1 jD
  ·have e:k=x3.1.length:=by omega
   subst e
   rw[if_neg jK,qZ]
   rfl
theorem FL{d:M.bK}(j:d.ok)(hz:M.bK.sz d<=1048576):tB d=some (EX d):=by
 have C:M.aEK.sz d.aEe<=1048576:=by simp only[M.bK.sz]at hz;omega
 have J:d.Log.length<=1048576:=by simp only[M.bK.sz]at hz;omega
 obtain⟨U,I⟩:=ON j.Log
 unfold tB EX
 rw[Ca d.aEe jD,qA,KK j.Log jD,qA]
 exact O4 (x3:=Ut d.Log) jD I fuel 0 d.aEe jI jD j.aEe C
theorem OG{x3:List (List Int)×Int}(J:x3.1.length<=1048576)(C:∀l∈x3.1,okB l/\l.length<=4000):∀(n k:Nat) (d:M.aEK),x3.1.length-k<n->k<=x3.1.length->d.ok->M.aEK.sz d<=1048576->kL x3 n (k:Int) d.Name d.aER d.aEU d.aEb=some (HE d k (x3.1.drop k))
 |0,_,_,h,_,_,_=>by omega
 |n+1,k,d,hn,hk,j,hz=>by
  simp only[kL]
  rcases Nat.lt_or_ge k x3.1.length with hlt|hge
  ·obtain⟨I,b2⟩:=C _ (qG hlt)
   obtain⟨o1,U⟩:=IH I jD
   rw[if_pos (bL hlt),aM hlt,qA,Je I jD,qA,qW hlt]
   simp only[HE]
   cases (Dt x3.1[k]).2 with
   |false=>rfl
   |true=>
    rw[if_neg jF,if_pos rfl]
    show((uL d (Dt x3.1[k]).1).bind _)=_
    rw[HC j jD (λo h=>(U o h).1) hz,qA,bI jD]
    rcases GR j (λo h=>(U o h).1)with e|⟨v1,v2⟩
    ·rw[e];exact OG J C n (k+1) d jD hlt j hz
    ·exact OG J C n (k+1) _ jD hlt v1 jD
  ·have e:k=x3.1.length:=by omega
   subst e
   rw[if_neg jK,qZ]
   rfl
theorem FG{d:M.bK}(j:d.ok)(hz:M.bK.sz d<=1048576):sP d=some (EX d):=by
 have C:M.aEK.sz d.aEe<=1048576:=by simp only[M.bK.sz]at hz;omega
 have J:d.Log.length<=1048576:=by simp only[M.bK.sz]at hz;omega
 obtain⟨U,I⟩:=ON j.Log
 unfold sP EX
 rw[oE d.aEe jD,qA,KN j.Log jD,qA]
 exact OG (x3:=Ut d.Log) jD I fuel 0 d.aEe jI jD j.aEe C
theorem Il:∀{l:List (List Int)} {d:M.aEK} {i:Nat},(∀e∈l,okB e/\e.length<=4000)->d.ok->M.aEK.sz d<=1048576->(HE d i l).1.ok/\M.aEK.sz (HE d i l).1<=1048576
 |[],d,i,_,j,hz=>⟨j,hz⟩
 |e::l,d,i,C,j,hz=>by obtain⟨J,b2⟩:=C e jF;obtain⟨o1,o2⟩:=IH J jD;simp only[HE];split;(rcases GR j (λo h=>(o2 o h).1)with U|⟨v1,v2⟩;(rw[U];exact Il (λx I=>C x (by simp[I])) j hz);·exact Il (λx I=>C x (by simp[I])) v1 jD);·exact⟨j,hz⟩
theorem G5{d:M.bK}(j:d.ok)(hz:M.bK.sz d<=1048576):(EX d).1.ok/\M.aEK.sz (EX d).1<=1048576:=Il (ON j.Log).2 j.aEe (by simp only[M.bK.sz]at hz;omega)
def FO(n:Int):M.Key:=(⟨1,n,(⟨#[]⟩:ByteArray)⟩:M.Key)
def Kt:ByteArray:=(⟨#[110,111,116,101,115]⟩:ByteArray)
def K8(d:M.aEK)(n:Int):M.aA:=match d.aEU[(rY (Ab Kt) d.aEU).toNat]? with
 |some s=>if rY (Ab Kt) d.aEU<0 then(⟨([]:List M.Field)⟩:M.aA)else rE s (FO n)
 |none=>(⟨([]:List M.Field)⟩:M.aA)
theorem Ul{d:M.aEK}{n:Int}(j:d.ok):(K8 d n).ok:=by unfold K8;split;(rename_i s C;split;(exact Py);·exact M9 (j.aEU.2 _ (jB C)));·exact Py
theorem S9{d:M.aEK}{n:Int}(hz:M.aEK.sz d<=1048576):M.aA.sz (K8 d n)<=1048576:=by unfold K8;split;(rename_i s j;split;(simp[M.aA.sz,aV]);·exact qg (MQ s _) (JL hz _ (jB j)));·simp[M.aA.sz,aV]
def Sv(d:M.aEK):Bool:=decide (0<=rY (Ab Kt) d.aEU)
theorem Wl{s:M.aC}(k:M.Key):M.aA.sz (rE s k)<=M.aC.sz s:=MQ s k
theorem Jw{b:M.aEJ}{n:Int}(hb:b.bK.ok)(hz:M.bK.sz b.bK<=1048576):wH b n=some (K8 (EX b.bK).1 n,Sv (EX b.bK).1):=by
 obtain⟨J,U⟩:=G5 hb hz
 unfold wH K8
 rw[FL hb hz,qA]
 generalize (EX b.bK).1=d at J U⊢
 show((kX d Kt).bind _)=_
 rw[CU J,qA]
 by_cases hf:rY (Ab Kt) d.aEU<0
 ·have I:Sv d=false:=by unfold Sv;rw[decide_eq_false_iff_not];omega
  rw[if_pos (by simpa using hf),I]
  split
  ·rw[if_pos hf]
  ·rfl
 ·obtain⟨j,e,C⟩:=kN hf
  have hs:=J.aEU.2 _ (qG C)
  have zs:=JL U _ (qG C)
  have I:Sv d=true:=by unfold Sv;rw[qL];omega
  rw[I,if_neg (by simpa using hf),e,qH,qF C]
  simp only[show ¬((j:Nat):Int)<0 from by omega,if_false]
  rw[aM C,qA]
  unfold zI
  rw[qA]
  show((iC d.aEU[j] (FO n)).bind _)=_
  rw[yT hs,qA]
  by_cases hi:rY (rJ (FO n)) d.aEU[j].aEM<0
  ·rw[if_pos (by simpa using hi),G4 hi]
  ·obtain⟨x,e1,e2⟩:=EH hi;have:=Wl (s:=d.aEU[j]) (FO n);rw[if_neg (by simpa using hi),e1,qA,e2,zP _ jD,qA]
theorem Mb{d:M.aEK}{n:Int}(J:d.ok):∃g,B1 d n=some (K8 d n,g,Sv d):=by
 unfold B1 K8
 show ∃g,((kY d Kt).bind _)=_
 rw[CV J,qA]
 by_cases hf:rY (Ab Kt) d.aEU<0
 ·have C:Sv d=false:=by unfold Sv;rw[decide_eq_false_iff_not];omega
  rw[if_pos (by simpa using hf),C]
  split
  ·rw[if_pos hf];exact⟨_,rfl⟩
  ·exact⟨_,rfl⟩
 ·obtain⟨j,e,I⟩:=kN hf
  have U:=J.aEU.2 _ (qG I)
  have C:Sv d=true:=by unfold Sv;rw[qL];omega
  rw[C,if_neg (by simpa using hf),e,qH,qF I]
  simp only[show ¬((j:Nat):Int)<0 from by omega,if_false]
  rw[aM I,qA]
  unfold pH
  rw[qA]
  show ∃g,((kJ d.aEU[j] (FO n)).bind _)=_
  rw[BO U,qA]
  by_cases hi:rY (rJ (FO n)) d.aEU[j].aEM<0
  ·rw[if_pos (by simpa using hi),G4 hi];exact⟨_,rfl⟩
  ·obtain⟨x,e1,e2⟩:=EH hi;rw[if_neg (by simpa using hi),e1,qA,e2];exact⟨_,rfl⟩
