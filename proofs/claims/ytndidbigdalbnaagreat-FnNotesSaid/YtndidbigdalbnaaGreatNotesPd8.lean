/-
  Helper text. No conditions.
-/
import Derived.Test.YtndidbigdalbnaaGreatNotesPd7
set_option linter.all false
namespace Go.Proofs.YtndidbigdalbnaaGreat.gen
open Go Go.Sh
open Go.IntKind (i64)
theorem aFx{d e x y:List Int}(j:isE d)(he:isE e)(h:d++x=e++y):d=e/\x=y:=by obtain⟨l,rfl,_⟩:=j;obtain⟨r,rfl,_⟩:=he;simp only[qT]at h;obtain⟨e1,h⟩:=Qy _ _ h;obtain⟨e2,h⟩:=VQ l r e1 h;simp_all
theorem aDP{o:M.fA}(h:nOp o=true):∃(k z:Nat) (c:Int) (t:List Int),1<=k/\k<=6/\1<=z/\z<=8/\97<=c/\enO o=(k:Int)::z::c::t:=by
 unfold nOp inR at h
 simp only[qM,qL]at h
 obtain⟨h1,h2,_⟩:=h
 have J:1<=o.aKx.toNat/\o.aKx.toNat<=6:=by omega
 have I:1<=o.aD.size/\o.aD.size<=8:=by unfold oO inR at h2;simp only[qM,qL]at h2;omega
 have hl:=aP o.aD
 have j:0<o.aD.size:=by omega
 have hc:∃c t,bF o.aD=c::t/\97<=c:=by
  have C:0<(bF o.aD).length:=by omega
  refine⟨(bF o.aD)[0],(bF o.aD).drop 1,qX C,?_⟩
  have U:(bF o.aD)[0]=(o.aD[0].toNat):=by simp only[bF,List.getElem_map];rfl
  unfold oO XB at h2
  rw[qM,qR]at h2
  have h3:bat o.aD 0 (Ka false)=true:=h2.1 0 (qS.2 j)
  rw[aB1 j]at h3
  rw[U]
  unfold Ka at h3
  simp only[Bool.false_and,Bool.or_false,qM,qL]at h3
  omega
 obtain⟨c,t,ec,hc⟩:=hc
 refine⟨o.aKx.toNat,o.aD.size,c,t++(CJ (enK o.Key)++(CJ (enR o.aF)++CJ (bF o.Field))),J.1,J.2,I.1,I.2,hc,?_⟩
 unfold enO
 rw[DN wg]
 rw[show CJ (bF o.aD)=(o.aD.size:Int)::c::t from by unfold CJ;rw[hl,DN wg,ec,List.singleton_append]]
 rfl
theorem QG{n:Nat}(h:¬n<128)(h2:n<16384):uv n=[((n%128+128:Nat):Int),(n/128:Nat)]:=by rw[KC h,DN wg]
theorem XS{e:List Int}(h:isE e):∃l:List M.fA,e=(l.length:Int)::Gr enO l/\(∀o∈l,nOp o=true)/\l.length<=6:=by obtain⟨l,h1,h2,h3⟩:=h;exact⟨l,by rw[h1,DN wg];rfl,h2,h3⟩
theorem Le{l:List M.fA}(h:∀o∈l,nOp o=true)(j:1<=l.length):∃(k z:Nat) (c:Int) (t:List Int),1<=k/\k<=6/\1<=z/\z<=8/\97<=c/\Gr enO l=(k:Int)::z::c::t:=by
 cases l with
 |nil=>simp at j
 |cons o l=>
  obtain⟨k,z,c,t,h1,h2,h3,h4,h5,h6⟩:=aDP (h o wb)
  exact⟨k,z,c,t++Gr enO l,h1,h2,h3,h4,h5,by rw[Gr,h6];rfl⟩
theorem aA6{d e x y:List Int}{i D E:Nat}{v:Int}(I:d.length=D)(hE:e.length=E)(hd:isE d)(h2:D<=2000)(he:isE e)(h4:E<=4000)(J:i<(uv D).length)(h:(uv D++(d++x)).set i v=uv E++(e++y)):E=D:=by
 have same:d++x=e++y->E=D:=λhh=>by rw[<-I,<-hE,(aFx hd he hh).1]
 obtain⟨l,dl,lo,l6⟩:=XS hd
 obtain⟨r,U,ro,r6⟩:=XS he
 by_cases hd1:D<128
 ·rw[DN hd1]at h J
  obtain rfl:i=0:=by simp_all
  rw[List.singleton_append,List.set_cons_zero]at h
  by_cases he1:E<128
  ·rw[DN he1,List.singleton_append,List.cons.injEq]at h;exact same h.2
  ·rw[QG he1 wg]at h;simp only[jQ,jP,List.cons.injEq]at h;obtain⟨_,h⟩:=h;rw[dl,U]at h;simp only[jQ,List.cons.injEq]at h;obtain⟨g1,h⟩:=h;obtain⟨k,z,c,t,a1,a2,a3,a4,a5,j⟩:=Le lo wg;rw[j,jQ,List.cons.injEq]at h;obtain⟨g2,h⟩:=h;obtain⟨k',z',c',t',b1,b2,b3,b4,b5,C⟩:=Le ro wg;rw[C]at h;simp only[jQ,List.cons.injEq]at h;omega
 ·rw[QG hd1 wg]at h J
  have hi2:i<2:=J
  by_cases he1:E<128
  ·exfalso
   rw[DN he1]at h
   obtain rfl|rfl:i=0\/i=1:=by omega
   ·simp only[jQ,jP,List.set_cons_zero,List.cons.injEq]at h
    obtain⟨_,h⟩:=h
    have l1:1<=l.length:=by rcases Nat.eq_zero_or_pos l.length with h0|h0;(have:l=[]:=ql h0;subst this;rw[dl]at I;simp[Gr]at I;omega);·exact h0
    obtain⟨k,z,c,t,a1,a2,a3,a4,a5,j⟩:=Le lo l1
    rw[dl,U,j]at h
    simp only[jQ,List.cons.injEq]at h
    obtain⟨g1,h⟩:=h
    have r1:1<=r.length:=by omega
    obtain⟨k',z',c',t',b1,b2,b3,b4,b5,C⟩:=Le ro r1
    rw[C]at h
    simp only[jQ,List.cons.injEq]at h
    omega
   ·simp only[jQ,jP,List.set_cons_succ,List.set_cons_zero,List.cons.injEq]at h;omega
  ·rw[QG he1 wg]at h
   obtain rfl|rfl:i=0\/i=1:=by omega
   ·simp only[jQ,List.set_cons_zero,List.cons.injEq]at h;exact same h.2.2
   simp_all
theorem aEI{n i:Nat}{v:Int}{d e x y:List Int}(J:isE d)(h2:d.length<=2000)(he:isE e)(h4:e.length<=4000)(C:i<(Mh n d).length)(h:(Mh n d++x).set i v=Mh n e++y):x=y:=by
 unfold Mh at h C
 rw[qT,qT]at h
 have I:e.length=d.length:=by have j:=h;unfold CJ at j;rw[qT,qT]at j;by_cases h3:i<(uv d.length).length;(exact aA6 rfl rfl J h2 he h4 h3 j);·rw[List.set_append_right _ _ wg]at j;exact(Qy _ _ j).1.symm
 have hb:(CJ e).length=(CJ d).length:=by unfold CJ;rw[I,qE,qE,I]
 by_cases h3:i<(CJ d).length
 ·rw[List.set_append_left _ _ h3]at h;exact(Qy _ _ (List.append_inj h (by rw[qN,hb])).2).2
 ·rw[List.set_append_right _ _ wg]at h;obtain⟨e9,h9⟩:=MS h;subst e9;rw[qE]at C;rw[List.set_append_left _ _ wg]at h9;exact(List.append_inj h9 (by rw[qN])).2
theorem Vf:∀(ds es:List (List Int)) (n i:Nat) (v:Int) {y:List Int},ds.length=es.length->(∀d∈ds,isE d/\d.length<=2000)->(∀e∈es,isE e/\e.length<=4000)->i<(uQ n ds).length->(uQ n ds).set i v=uQ n es++y->y=[]
 |[],_,_,_,_,_,_,_,_,C,_=>absurd C (by simp[uQ])
 |_::_,[],_,_,_,_,J,_,_,_,_=>by cases J
 |d::ds,e::es,n,i,v,y,J,hd,he,C,h=>by
  simp only[uQ,qT]at h C
  have d0:=hd d wb
  have e0:=he e wb
  have U:ds.length=es.length:=by simpa using J
  by_cases h3:i<(Mh n d).length
  ·have j:=aEI d0.1 d0.2 e0.1 e0.2 h3 h;obtain⟨I,h5,h6⟩:=Gj es ds (n+1) (x:=y) (y:=[]) wg (by rw[qY];exact j.symm);have:I=[]:=ql (by have:=congrArg List.length h5;rw[qE]at this;omega);rw[h6,this];rfl
  ·rw[List.set_append_right _ _ wg]at h;rw[qE]at C;obtain⟨e9,h9⟩:=Wa h;subst e9;exact Vf ds es (n+1) _ v U (λx j=>hd x (by simp[j])) (λx j=>he x (by simp[j])) wg h9
def BAD(m:Nat)(g:List Int):Prop:=(∀e r,g≠Mh m e++r)/\(∀b e r,b≠[]->b.length<=2000->isE e->e.length<=4000->g++Mh m b≠Mh m e++r)
theorem aDk{e:List Int}(h:isE e)(C:e.length<=1):e=[0]:=by obtain⟨l,h1,h2,h3⟩:=XS h;rcases Nat.eq_zero_or_pos l.length with h0|h0;(simp_all);·obtain⟨k,z,c,t,_,_,_,_,_,j⟩:=Le h2 h0;simp_all
theorem aJY{m:Nat}{x:Int}(U:x=0\/x=1\/x=128\/x=255):BAD m [x]:=by
 refine⟨λe r h=> ?_,λb e r hb I he h4 h=> ?_⟩
 ·have h1:=congrArg List.length h;have h2:=Vn m e;simp only[qE,qJ,qK]at h1;omega
 have hlen:=congrArg List.length h
 obtain⟨_,_,s3⟩:=sum_nat m b
 have J:=HA (KS m e).toNat
 have j:1<=b.length:=by rcases Nat.eq_zero_or_pos b.length with h0|h0;(exact absurd (ql h0) hb);·exact h0
 unfold Mh CJ at h hlen
 simp only[qT,List.singleton_append]at h
 simp only[qE,qJ,qK]at hlen
 by_cases he1:e.length<128
 ·rw[DN he1,List.singleton_append,List.cons.injEq]at h
  obtain⟨C,h⟩:=h
  have e1:e.length<=1:=by omega
  rw[aDk he e1]at h
  by_cases hb2:b.length<128
  ·rw[DN hb2,List.singleton_append,List.singleton_append,List.cons.injEq]at h;omega
  ·rw[QG hb2 wg]at h;simp only[jQ,jP,List.cons.injEq]at h;omega
 ·rw[QG he1 wg]at h hlen;simp only[qJ,qK]at hlen;by_cases hb2:b.length<128;(rw[DN hb2]at h hlen;simp only[qJ,qK]at hlen;simp only[jQ,jP,List.cons.injEq]at h;omega);·rw[QG hb2 wg]at h;simp only[jQ,jP,List.cons.injEq]at h;omega
theorem aKR:∀m:Nat,m<20->KS m []≠0:=by decide
theorem aKG{m j:Nat}(I:m<20):BAD m (List.replicate (j+1) 0):=by
 rw[List.replicate_succ]
 refine⟨λe r h=> ?_,λb e r hb hl he h4 h=> ?_⟩
 ·obtain⟨s1,_,_⟩:=sum_nat m e
  unfold Mh CJ at h
  simp only[qT]at h
  by_cases he1:e.length<128
  ·rw[DN he1,List.singleton_append,List.cons.injEq]at h
   obtain⟨U,h⟩:=h
   have:e=[]:=ql wg
   subst this
   have hz:=aKR m I
   rw[jP]at h
   have hall:∀y∈uv (KS m []).toNat,y=0:=λy J=>by
    have:y∈List.replicate j 0:=by rw[h];exact List.mem_append_left _ J
    exact(List.mem_replicate.1 this).2
   by_cases h9:(KS m []).toNat<128
   ·rw[DN h9]at hall;have:=hall _ (qQ.2 rfl);omega
   ·rw[KC h9]at hall;have:=hall _ (List.mem_cons_self ..);omega
  ·rw[KC he1,jQ,List.cons.injEq]at h;omega
 ·have C:=aEe he;unfold Mh CJ at h;simp only[qT,jQ]at h;by_cases he1:e.length<128;(rw[DN he1,List.singleton_append,List.cons.injEq]at h;exact C (ql wg));·rw[KC he1,jQ,List.cons.injEq]at h;omega
def gE(e:List Int):Prop:=isE e/\e.length<=2000
def SGo(k:M.bJ):Prop:=∃es:List (List Int),k.Log=uQ 0 es/\es.length=k.aLF/\∀e∈es,gE e
def LG(k:M.bJ):Prop:=(zV k).2=k.aLF->∃(es:List (List Int)) (g:List Int),k.Log=uQ 0 es++g/\es.length=k.aLF/\(∀e∈es,e.length<=4000)/\(g=[]\/BAD es.length g)
theorem SGo.LG{k:M.bJ}(h:SGo k):LG k:=λ_=>by obtain⟨es,h1,h2,h3⟩:=h;exact⟨es,[],by rw[qY];exact h1,h2,λe he=>qh (h3 e he).2 wg,.inl rfl⟩
theorem SGo.nil{d:M.aKc}:SGo ⟨d,[],0⟩:=⟨[],rfl,rfl,wb⟩
theorem VV:∀(l:List (List Int)) (d:M.aKc) (i:Nat),∃k:Nat,(Ej d i l).2=((i+k:Nat))/\k<=l.length/\∀e∈l.take k,(Bl e).2=true
 |[],d,i=>⟨0,rfl,wb,wb⟩
 |e::l,d,i=>by simp only[Ej];split;(rename_i h;obtain⟨k,C,J,I⟩:=VV l (B5 d (Bl e).1).1 (i+1);refine⟨k+1,by rw[C];omega,by simp only[qJ];omega,λx j=> ?_⟩;rw[List.take_succ_cons]at j;rcases qq.1 j with rfl|j;(exact h);·exact I x j);·exact⟨0,rfl,wb,wb⟩
theorem Oc:∀(l r:List (List Int)) (d:M.aKc) (i:Nat),(Ej d i l).2=((i+l.length:Nat))->Ej d i (l++r)=Ej (Ej d i l).1 (i+l.length) r
 |[],r,d,i,_=>rfl
 |e::l,r,d,i,h=>by simp only[jQ,Ej,qJ]at h⊢;by_cases hd:(Bl e).2=true;(rw[jF hd]at h;rw[jF hd,jF hd,Oc l r _ (i+1) (by rw[h];omega),show i+1+l.length=i+(l.length+1)from by omega]);·rw[jG hd]at h;dsimp only at h;omega
theorem RH{k:M.bJ}(hk:okB k.Log){c:Nat}(h:(zV k).2=c):∃(es:List (List Int)) (y:List Int),k.Log=uQ 0 es++y/\es.length=c/\∀e∈es,isE e/\e.length<=4000:=by
 obtain⟨ds,p,d1,d2,d3,d4,d5⟩:=Rb hk
 obtain⟨n,C,I,J⟩:=VV ds k.aK1 0
 unfold zV at h
 rw[d1]at h
 rw[C]at h
 have j:n=c:=by omega
 subst j
 refine⟨ds.take n,uQ n (ds.drop n)++k.Log.drop p,?_,wO,λe he=>⟨aFT (J e he),d4 e (qk he)⟩⟩
 have:=OT (ds.take n) (ds.drop n) 0
 rw[qo,qV,jW I,qp]at this
 rw[<-qT,<-this]
 exact d3
theorem Hf{k:M.bJ}{l:List M.fA}(h:Vl k l=true):Be l≠[]/\(zV k).2=k.aLF/\(tN k l).1=⟨k.aK1,k.Log++(CJ (Be l)++uv (KS k.aLF (Be l)).toNat),i64.wrap (k.aLF+1)⟩/\(k.Log++(CJ (Be l)++uv (KS k.aLF (Be l)).toNat)).length<=4000/\(B5 (zV k).1 l).2.2=true:=by have C:=h;unfold Vl at h;simp only[qM]at h;obtain⟨h1,h2,h3,h4⟩:=h;refine⟨λJ=>by simp_all,eq_of_beq h3,?_⟩;unfold tN;rw[jF C];unfold Uj at h4⊢;split at h4;(cases h4);·rename_i I;rw[jG I];split at h4;(cases h4);·rename_i j;rw[jG j];exact⟨rfl,by unfold W5 at j;omega,h1⟩
theorem Lg(es:List (List Int))(b:List Int):uQ 0 (es++[b])=uQ 0 es++(CJ b++uv (KS es.length b).toNat):=by rw[OT,qp];simp[uQ,Mh]
theorem SGo.So{k:M.bJ}{l:List M.fA}(h:SGo k):SGo (tN k l).1:=by by_cases hc:Vl k l=true;(obtain⟨j,I,C,c4,_⟩:=Hf hc;obtain⟨es,h1,h2,h3⟩:=h;have h5:=EW es 0;rw[qE,h1]at c4;rw[C];refine⟨es++[Be l],?_,?_,λe he=> ?_⟩;(rw[Lg,<-h2,h1]);(rw[eU wg wg,qE];simp only[qJ,qK];omega);·rcases qP.1 he with he|he;(simp_all);·rw[qQ.1 he];exact⟨aDE j,Jp l⟩);·unfold tN;rw[jG hc];exact h
theorem LG.So{k:M.bJ}{l:List M.fA}(hk:k.ok)(h:LG k):LG (tN k l).1:=by
 by_cases hc:Vl k l=true
 ·obtain⟨U,c2,c3,c4,_⟩:=Hf hc
  obtain⟨es,g,h1,h2,h3,h4⟩:=h c2
  have h5:=EW es 0
  have hl:=Jp l
  have c5:=c4
  rw[qE,h1,qE]at c5
  have hw:i64.wrap (k.aLF+1)=((es.length+1:Nat)):=by rw[eU wg wg];omega
  have j:=(JH (l:=l) hk).1.Log
  intro C
  rw[c3]at C j⊢
  dsimp only at C j⊢
  rw[hw]at C⊢
  rcases h4 with rfl|hB
  ·rw[qY]at h1;refine⟨es++[Be l],[],by rw[qY,Lg,h2,h1],wb,λe he=> ?_,.inl rfl⟩;rcases qP.1 he with he|he;(exact h3 e he);·rw[qQ.1 he];omega
  ·exfalso
   obtain⟨I,y,e1,e2,e3⟩:=RH (k:=⟨k.aK1,k.Log++(CJ (Be l)++uv (KS k.aLF (Be l)).toNat),es.length+1⟩) j C
   rw[<-h2,h1,qT]at e1
   obtain⟨ds,d1,d2⟩:=Gj es I 0 wg e1
   have J:ds.length=1:=by have:=congrArg List.length d1;rw[qE]at this;omega
   obtain⟨e,rfl⟩:∃e,ds=[e]:=by
    cases ds with
    |nil=>cases J
    |cons e r=>exact⟨e,by rw[ql (l:=r) (by simpa using J)]⟩
   have he:=e3 e (by rw[d1];simp)
   rw[qp]at d2
   simp only[uQ,qY]at d2
   exact hB.2 (Be l) e y U hl he.1 he.2 d2
 ·unfold tN;rw[jG hc];exact h
def aBx(l r:List Int):Prop:=r=l\/(∃(i:Nat) (v:Int),i<l.length/\r=l.set i v)\/(∃c,r=l.take c) \/∃x,(x=0\/x=1\/x=128\/x=255)/\r=l++[x]
theorem aCH{k:M.bJ}{r:List Int}(h:SGo k)(hr:aBx k.Log r)(U:okB r):LG ⟨k.aK1,r,k.aLF⟩:=by
 intro I
 obtain⟨ds,h1,h2,h3⟩:=h
 have h4:∀e∈ds,e.length<=4000:=λe he=>qh (h3 e he).2 wg
 obtain⟨es,y,e1,e2,e3⟩:=RH (k:=⟨k.aK1,r,k.aLF⟩) (c:=ds.length) U (by rw[h2];exact I)
 have e4:∀e∈es,e.length<=4000:=λe he=>(e3 e he).2
 rcases hr with rfl|⟨i,v,C,rfl⟩|⟨c,rfl⟩|⟨x,hx,rfl⟩
 ·exact⟨ds,[],by rw[qY];exact h1,h2,h4,.inl rfl⟩
 ·rw[h1]at e1 C;have:=Vf ds es 0 i v e2.symm h3 e3 C e1;subst this;exact⟨es,[],by rw[h1];exact e1,by rw[e2];exact h2,e4,.inl rfl⟩
 ·have h5:uQ 0 es++(y++k.Log.drop c)=uQ 0 ds++[]:=by rw[<-qT,<-e1,qo,qY];exact h1
  obtain⟨j,d1,d2⟩:=Gj es ds 0 wg h5
  have J:j=[]:=ql (by have:=congrArg List.length d1;rw[qE]at this;omega)
  subst J
  have hy:y=[]:=(List.append_eq_nil_iff.1 d2).1
  subst hy
  exact⟨es,[],e1,by rw[e2];exact h2,e4,.inl rfl⟩
 ·exact⟨ds,[x],by rw[h1],h2,h4,.inr (aJY hx)⟩
theorem aCl{k:M.bJ}{j:Nat}(h:SGo k)(hc:k.aLF<20):LG ⟨k.aK1,k.Log++List.replicate j 0,k.aLF⟩:=λ_=>by
 obtain⟨ds,h1,h2,h3⟩:=h
 refine⟨ds,List.replicate j 0,by rw[h1],h2,λe he=>qh (h3 e he).2 wg,?_⟩
 cases j with
 |zero=>simp
 |succ j=>exact .inr (aKG wg)
theorem Zy{k:M.bJ}(h:SGo k)(hk:okB k.Log)(I:k.Log.length<=100000):LG ⟨k.aK1,k.Log,i64.wrap (k.aLF+1)⟩:=by obtain⟨ds,h1,h2,h3⟩:=h;have h5:=EW ds 0;rw[h1]at I;intro j;exfalso;dsimp only at j;rw[show i64.wrap (k.aLF+1)=((ds.length+1:Nat))from by rw[eU wg wg];omega]at j;obtain⟨es,y,e1,e2,e3⟩:=RH (k:=⟨k.aK1,k.Log,ds.length+1⟩) hk j;rw[h1]at e1;obtain⟨C,d1,d2⟩:=Gj ds es 0 (x:=[]) (y:=y) wg (by rw[qY];exact e1);have:=(Su d2).1;subst this;rw[qY]at d1;rw[d1]at e2;omega
theorem aEN{k:M.bJ}{b:List Int}(h:SGo k)(hk:okB k.Log)(C:k.Log.length<=100000)(hb:b.length<=4000):LG ⟨k.aK1,(Uj k.Log k.aLF b).1,i64.wrap (k.aLF+1)⟩:=by have j:=Zy h hk C;unfold Uj;split;(exact j);split;(exact j);·obtain⟨ds,h1,h2,h3⟩:=h;have h5:=EW ds 0;rw[h1]at C;intro _;refine⟨ds++[b],[],?_,?_,λe he=> ?_,.inl rfl⟩;(unfold W5;rw[qY,Lg,h2,h1]);(rw[eU wg wg,qE];simp only[qJ,qK];omega);·rcases qP.1 he with he|he;(exact qh (h3 e he).2 wg);simp_all
theorem aAV{k:M.bJ}(hk:okB k.Log)(h:LG k)(I:(zV k).2=k.aLF)(C:(QM k.Log).2=k.Log.length):∃es:List (List Int),k.Log=uQ 0 es/\es.length=k.aLF/\∀e∈es,e.length<=4000:=by
 obtain⟨es,g,h1,h2,h3,h4⟩:=h I
 obtain⟨ds,p,d1,d2,d3,d4,d5⟩:=Rb hk
 rw[d1]at C
 dsimp only at C
 rw[List.drop_eq_nil_of_le wg,h1]at d3
 have J:g=[]:=by
  rcases h4 with h4|hB
  ·exact h4
  rcases Nat.le_total es.length ds.length with hle|hle
  ·obtain⟨r,_,j⟩:=Gj es ds 0 hle d3
   cases r with
   |nil=>simpa[uQ]using j
   |cons e r=>exact absurd (by rw[j];simp[uQ]) (hB.1 e (uQ (es.length+1) r))
  ·obtain⟨r,_,j⟩:=Gj ds es 0 hle d3.symm;exact(Su j).2
 grind
theorem Uf{k:M.bJ}{l:List M.fA}(hk:okB k.Log)(h:LG k)(hc:Vl k l=true)(J:(QM k.Log).2=k.Log.length)(I:Bl (Be l)=(l,true)):(zV (tN k l).1).1=(B5 (zV k).1 l).1:=by
 obtain⟨U,j,C,c4,_⟩:=Hf hc
 obtain⟨es,h1,h2,h3⟩:=aAV hk h j J
 have hl:=Jp l
 have e1:(QM k.Log).1=es:=by rw[h1,VA h3]
 have e2:(QM (tN k l).1.Log).1=es++[Be l]:=by rw[C];rw[<-h2,h1,<-Lg,VA (λe he=> ?_)];rcases qP.1 he with he|he;(exact h3 e he);·rw[qQ.1 he];omega
 have e3:(Ej k.aK1 0 es).2=((0+es.length:Nat)):=by have:=j;unfold zV at this;rw[e1]at this;rw[this,<-h2,qp]
 have e4:(tN k l).1.aK1=k.aK1:=by rw[C]
 unfold zV
 rw[e2,e4,Oc es _ _ _ e3,e1]
 simp only[Ej]
 rw[I,jF rfl]
def SGn(n:Nat)(k:M.bJ):Prop:=SGo k/\k.aLF<=n
theorem SGo.n{k:M.bJ}(h:SGo k):SGn k.aLF.toNat k:=⟨h,wg⟩
theorem SGn.nil{d:M.aKc}{n:Nat}:SGn n ⟨d,[],0⟩:=⟨.nil,wb⟩
theorem SGn.mono{n m:Nat}{k:M.bJ}(h:SGn n k)(j:n<=m):SGn m k:=⟨h.1,by have:=h.2;omega⟩
theorem SGn.So{n:Nat}{k:M.bJ}{l:List M.fA}(h:SGn n k):SGn (n+1) (tN k l).1:=by refine⟨h.1.So,?_⟩;have h2:=h.2;by_cases hc:Vl k l=true;(obtain⟨_,_,j,c4,_⟩:=Hf hc;obtain⟨es,h1,h3,_⟩:=h.1;have h5:=EW es 0;rw[qE,h1]at c4;rw[j];dsimp only;rw[eU wg wg];omega);·unfold tN;rw[jG hc];dsimp only;omega
def LGw(w:M.aE):Prop:=∀b∈w.aC.aKf,LG b.bJ
def Bj(n:Int):M.bD:=⟨1,n,⟨#[]⟩⟩
def Nb:ByteArray:=⟨#[110,111,116,101,115]⟩
def D9(d:M.aKc)(n:Int):M.aF:=match d.aKm[(gJ (BL Nb) d.aKm).toNat]? with
 |some s=>if gJ (BL Nb) d.aKm<0 then⟨[]⟩else fC s (Bj n)
 |none=>⟨[]⟩
theorem RO{d:M.aKc}{n:Int}(j:d.ok):(D9 d n).ok:=by unfold D9;split;(rename_i s C;split;(exact IX);·exact FW (j.aKm.2 _ (jD C)));·exact IX
theorem ZV{d:M.aKc}{n:Int}(C:M.aKc.sz d<=1500000):M.aF.sz (D9 d n)<=1500000:=by unfold D9;split;(rename_i s j;split;(simp[M.aF.sz,dO]);·exact qh (IA s _) (N8 C _ (jD j)));·simp[M.aF.sz,dO]
def Pm(d:M.aKc):Bool:=decide (0<=gJ (BL Nb) d.aKm)
theorem aD6{s:M.aD}(k:M.bD):M.aF.sz (fC s k)<=M.aD.sz s:=IA s k
theorem Im{b:M.aKe}{n:Int}(hb:b.bJ.ok)(U:M.bJ.sz b.bJ<=1500000):zL b n=some (D9 (zV b.bJ).1 n,Pm (zV b.bJ).1):=by
 obtain⟨J,v2⟩:=FU hb U
 unfold zL D9
 rw[JA hb U,qA]
 generalize (zV b.bJ).1=d at J v2⊢
 show((mS d Nb).bind _)=_
 rw[Dh J,qA]
 by_cases hf:gJ (BL Nb) d.aKm<0
 ·have I:Pm d=false:=by unfold Pm;rw[decide_eq_false_iff_not];omega
  rw[jF (by simpa using hf),I]
  split
  ·rw[jF hf]
  ·rfl
 ·obtain⟨j,e,C⟩:=cT hf
  have hs:=J.aKm.2 _ (qG C)
  have zs:=N8 v2 _ (qG C)
  have I:Pm d=true:=by unfold Pm;rw[qL];omega
  rw[I,jG wX,e,qH,qF C]
  simp only[show ¬(j:Int)<0 from by omega,jH]
  rw[aK C,qA]
  show((kH d.aKm[j] (Bj n)).bind _)=_
  rw[Bc hs,qA]
  by_cases hi:gJ (uB (Bj n)) d.aKm[j].aKg<0
  ·rw[jF (by simpa using hi),K0 hi]
  ·obtain⟨x,e1,e2⟩:=HY hi;have:=aD6 (s:=d.aKm[j]) (Bj n);rw[jG (by simpa using hi),e1,qA,e2,CA _ wg,qA]
theorem Lv{d:M.aKc}{n:Int}(J:d.ok):∃g,CC d n=some (D9 d n,g,Pm d):=by
 unfold CC D9
 show ∃g,((rC d Nb).bind _)=_
 rw[E6 J,qA]
 by_cases hf:gJ (BL Nb) d.aKm<0
 ·have C:Pm d=false:=by unfold Pm;rw[decide_eq_false_iff_not];omega
  rw[jF (by simpa using hf),C]
  split
  ·rw[jF hf];exact⟨_,rfl⟩
  simp
 ·obtain⟨j,e,I⟩:=cT hf
  have U:=J.aKm.2 _ (qG I)
  have C:Pm d=true:=by unfold Pm;rw[qL];omega
  rw[C,jG wX,e,qH,qF I]
  simp only[show ¬(j:Int)<0 from by omega]
  rw[aK I,qA]
  unfold rE
  rw[qA]
  show ∃g,((mH d.aKm[j] (Bj n)).bind _)=_
  rw[Cm U,qA]
  by_cases hi:gJ (uB (Bj n)) d.aKm[j].aKg<0
  ·rw[jF (by simpa using hi),K0 hi];exact⟨_,rfl⟩
  ·obtain⟨x,e1,e2⟩:=HY hi;rw[jG (by simpa using hi),e1,qA,e2];exact⟨_,rfl⟩
theorem JG{α:Type}{f:α->Bool}{l:List α}{k:Nat}{x:α}(e:gJ f l=k)(hx:f x=true):gJ f (l.set k x)=k/\(l.set k x)[k]? =some x:=by
 obtain⟨hk,U⟩:=pY e
 have h1:=HB hk U
 have C:k<(l.set k x).length:=by rw[qN];exact hk
 have hg:(l.set k x)[k]? =some x:=by rw[qF C,List.getElem_set_self]
 have h2:=HB (f:=f) (xs:=l.set k x) C (by rw[List.getElem_set_self];exact hx)
 rw[e,beq_self_eq_true]at h1
 refine⟨eq_of_beq (h2.trans ?_),hg⟩
 rw[qR]
 intro j J
 have h3:=(qR.1 h1.symm) j J
 have I:k≠j:=by have:=qS.1 J;omega
 rw[List.getElem?_set_ne I]
 exact h3
theorem RD{α:Type}{f:α->Bool}{l:List α}{p:Nat}{x:α}(hp:p<=l.length)(h:∀y∈l,f y=false)(hx:f x=true):gJ f (l.take p++([x]++l.drop p))=p/\(l.take p++([x]++l.drop p))[p]? =some x:=by
 have U:(l.take p).length=p:=by rw[qV];omega
 have J:p<(l.take p++([x]++l.drop p)).length:=by simp only[qE,U,qJ,qK];omega
 have C:(l.take p++([x]++l.drop p))[p]? =some x:=by rw[qz wg,U,Nat.sub_self];rfl
 have I:(l.take p++([x]++l.drop p))[p]=x:=by rw[qF J]at C;exact qd C
 refine⟨eq_of_beq ((HB J (by rw[I];exact hx)).trans ?_),C⟩
 rw[qR]
 intro j hj
 have hj':=qS.1 hj
 rw[qy wg]
 cases e:(l.take p)[j]? with
 |none=>rfl
 |some y=>
  rw[qf,h y (qk (jD e))]
  rfl
theorem Vm{b:List Int}:∀(l:List M.aR) (a:Nat) (j:List M.aR) (t:List Int),b.drop a=Gr enF l++t->(∀x∈l,x.Name.size<=8/\0<=x.N/\x.N<=1000000000)->UD b l.length a j=some (j++l,((a+(Gr enF l).length:Nat):Int))
 |[],a,j,t,h,_=>by simp[UD,Gr]
 |x::l,a,j,t,h,C=>by obtain⟨s1,s2,J⟩:=C x wb;have k:=aP x.Name;simp only[Gr,enF,qT]at h;obtain⟨e1,h1⟩:=H4 (c:=8) h wg wg;obtain⟨e2,h2⟩:=JQ h1 wg;simp only[qJ,UD];rw[e1];simp only[jI];rw[e2];simp only[jI];rw[Ev,jT s2,Vm l _ _ t h2 (λy I=>C y (by simp[I])),qT];refine congrArg some (Prod.ext rfl ?_);show((_:Nat))=((_:Nat):Int);simp only[Gr,enF,qE];omega
theorem aA3{r:M.aF}(h:cV r=true):NM (enR r)=(r,true):=by
 obtain⟨h6,C⟩:=vT h
 have j:enR r=uv r.aKj.length++Gr enF r.aKj:=by unfold enR;rw[jF h]
 obtain⟨e1,h1⟩:=JQ (b:=enR r) (a:=0) (r:=Gr enF r.aKj) j wg
 have e2:=Vm r.aKj (0+(uv r.aKj.length).length) [] [] (by rw[h1,qY]) C
 unfold NM
 rw[show 0=((0:Nat):Int)from rfl,e1]
 simp only[jI]
 rw[jG wg,qH,e2]
 dsimp only
 rw[jF]
 ·rfl
 ·rw[jP,qM,beq_iff_eq];refine⟨h,?_⟩;rw[j,qE];omega
theorem aAb{v:Nat}(h:v<2^48):(be6 v).foldl TV 0=v:=by have j:v<281474976710656:=h;simp only[be6,List.foldl_cons,List.foldl_nil,TV,Nat.reducePow];omega
theorem YP{n:Int}(h:Ec (Bj n)=true):(PH (enK (Bj n))).1=Bj n:=by
 obtain⟨_,_,I,U⟩:=LY h
 have J: -1000000000000<=n:=I
 have k2':n<=1000000000000:=U
 have j:enK (Bj n)=1::(be6 (n+1000000000000).toNat++[]):=by unfold enK;rw[jF h];rfl
 have C:=aAb (v:=(n+1000000000000).toNat) wg
 rw[j,qY]
 simp only[PH]
 unfold mkK
 rw[show(be6 (n+1000000000000).toNat).take 6=be6 (n+1000000000000).toNat from rfl,show(be6 (n+1000000000000).toNat).drop 6=[]from rfl,C,show((n+1000000000000).toNat)-1000000000000=n from by omega,show bL []=⟨#[]⟩from rfl]
 rw[show Ec ⟨1,n,⟨#[]⟩⟩=true from h]
 rfl
def Eg(n:Int)(r:M.aF):M.fA:=⟨1,⟨#[110,111,116,101,115]⟩,⟨1,n,⟨#[]⟩⟩,r,⟨#[]⟩⟩
theorem aB8{n:Int}{r:M.aF}(h:Be [Eg n r]≠[]):Bl (Be [Eg n r])=([Eg n r],true):=by
 obtain⟨C,I,_⟩:=KX rfl h
 have j:=I _ (qQ.2 rfl)
 obtain⟨_,_,_,_,J⟩:=BF j
 have hk:Ec (Bj n)=true:=by unfold nOp at j;simp only[qM]at j;have:=j.2.2.1;exact this
 have U:=I8 (Eg n r).Key
 have k4:=I0 (Eg n r).aF
 obtain⟨e1,h1⟩:=JQ (b:=Be [Eg n r]) (a:=0) (r:=Gr enO [Eg n r]) C wb
 obtain⟨e2,_⟩:=T9 (b:=Be [Eg n r]) (a:=0+(uv [Eg n r].length).length) (c1:=100) (c2:=100) (c3:=200) (c4:=100) (r:=[]) (o:=Eg n r) (by rw[h1];rfl) j (by show 5<=100;decide) wg wg wg
 have e3:⟨(Eg n r).aKx,bL (bF (Eg n r).aD),(PH (enK (Eg n r).Key)).1,(NM (enR (Eg n r).aF)).1,bL (bF (Eg n r).Field)⟩=Eg n r:=by rw[Ev,Ev,show(PH (enK (Eg n r).Key)).1=(Eg n r).Key from YP hk,aA3 J];try rfl
 rw[e3]at e2
 unfold Bl O3
 rw[show 0=((0:Nat):Int)from rfl,e1]
 simp only[jI]
 rw[jG wb,show(([Eg n r].length):Int).toNat=1 from rfl]
 simp only[GZ]
 rw[e2]
 simp only[jP,aAz]
 rw[jF (Ge.2 rfl)]
theorem VS{s:M.aD}{k:M.bD}{j:Nat}{x:M.aKy}(e:gJ (uB k) s.aKg=j)(h:s.aKg[j]? =some x):fC s k=x.aF:=by unfold fC;rw[e,jG wg,qH,h]
theorem aCZ{s:M.aD}{k:M.bD}{r:M.aF}(h:(Ca s k r).2=true):fC (Ca s k r).1 k=r/\(Ca s k r).1.Name=s.Name:=by
 unfold Ca at h⊢
 split at h
 ·rename_i h1
  rw[jF h1]
  split at h
  ·rename_i h2
   rw[jF h2]
   split at h
   ·rename_i h3;rw[jF h3];split at h;(rename_i h4;rw[jF h4];obtain⟨e1,e2⟩:=RD (x:=⟨k,r⟩) (N4 s.aKg k) (FQ h3) (by simp[uB]);exact⟨VS (s:=PK s k r) e1 e2,rfl⟩);·cases h
   ·rename_i h3
    rw[jG h3]
    obtain⟨j,C,J⟩:=cT h3
    obtain⟨_,I⟩:=pY C
    obtain⟨e1,e2⟩:=JG (x:=⟨s.aKg[j].Key,r⟩) C (by exact I)
    have es:(OV s (gJ (uB k) s.aKg).toNat r).aKg=s.aKg.set j ⟨s.aKg[j].Key,r⟩:=by unfold OV;simp_all
    exact⟨VS (x:=⟨s.aKg[j].Key,r⟩) (by rw[es];exact e1) (by rw[es];exact e2),rfl⟩
  ·cases h
 ·cases h
theorem S2{α:Type}{f:α->Bool}:∀{l:List α} {k:Nat},l.findIdx? f=some k->l.find? f=l[k]?
 |[],k,h=>by simp at h
 |x::l,k,h=>by
  rw[List.findIdx?_cons]at h
  rw[List.find?_cons]
  cases hx:f x with
  |true=>
   rw[hx]at h
   simp only[jI,qc]at h
   subst h
   simp
  |false=>
   rw[hx]at h
   simp only[qD,jH,Option.map_eq_some_iff]at h
   obtain⟨j,C,rfl⟩:=h
   rw[List.getElem?_cons_succ]
   exact S2 C
theorem aCj{α:Type}{f:α->Bool}{l:List α}{k:Nat}(h:gJ f l=k):l.find? f=l[k]? :=by
 unfold gJ at h
 cases e:l.findIdx? f with
 |none=>rw[e]at h;simp only at h;omega
 |some j=>
  rw[e]at h
  have:j=k:=by simp only at h;omega
  subst this
  exact S2 e
theorem aDA{r:M.aF}{a:ByteArray}{n:Int}(h:(GL r a n).2=true):cY (GL r a n).1 a=(n,true):=by
 have C:∀{j:Nat} {x:M.aR} {l:List M.aR},gJ (mV a) l=j->l[j]? =some x->cY ⟨l⟩ a=(x.N,true):=λe1 e2=>by unfold cY;rw[aCj e1,e2]
 have key:cY ⟨RG r a n⟩ a=(n,true):=by unfold RG;by_cases h3:gJ (mV a) r.aKj<0;(rw[jF h3];obtain⟨e1,e2⟩:=RD (x:=⟨a,n⟩) (Rg r.aKj a) (FQ h3) (by simp[mV]);exact C e1 e2);·obtain⟨j,I,J⟩:=cT h3;obtain⟨_,U⟩:=pY I;obtain⟨e1,e2⟩:=JG (x:=⟨r.aKj[j].Name,n⟩) I (by exact U);rw[I,qH,qF J];exact C e1 e2
 unfold GL Nt at h⊢
 grind
theorem aC1{d:M.aKc}{n:Int}{r:M.aF}(h:(B5 d [Eg n r]).2.2=true):D9 (B5 d [Eg n r]).1 n=r:=by
 have I:∀s,nOn s (Eg n r)=((Ca s (Bj n) r).1,1,(Ca s (Bj n) r).2):=λs=>by rfl
 have one:(Sa d (Eg n r)).2.2=true->D9 (Sa d (Eg n r)).1 n=r:=λh=>by
  unfold Sa at h⊢
  split at h
  ·rename_i h1
   rw[jF h1]
   split at h
   ·rename_i s U
    split at h
    ·cases h
    ·rename_i h2
     rw[jG h2]
     obtain⟨j,C,hj⟩:=cT h2
     rw[C,qH]at U h⊢
     obtain⟨_,J⟩:=pY C
     obtain rfl:d.aKm[j]=s:=by simp_all
     unfold Qd at h⊢
     split at h
     ·rename_i h3;rw[jF h3];split at h;(rename_i h4;rw[jF h4];rw[I]at h3⊢;obtain⟨p1,p2⟩:=aCZ h3;obtain⟨e1,e2⟩:=JG (x:=(Ca d.aKm[j] (Bj n) r).1) C (by unfold BL at J⊢;rw[p2];exact J);unfold D9 QU;rw[show gJ (BL Nb) (d.aKm.set j (Ca d.aKm[j] (Bj n) r).1)=j from e1,qH,e2];dsimp only;rw[jG wg];exact p1);·cases h
     ·cases h
   ·cases h
  ·cases h
 unfold B5 at h⊢
 split at h
 ·simp only[OO]at h⊢;grind
 ·cases h
theorem XY{k:M.bJ}{n v:Int}{f:ByteArray}(hk:okB k.Log)(h:LG k)(I:(QM k.Log).2=k.Log.length)(C:(GL (D9 (zV k).1 n) f v).2=true)(hc:Vl k [Eg n (GL (D9 (zV k).1 n) f v).1]=true):cY (D9 (zV (tN k [Eg n (GL (D9 (zV k).1 n) f v).1]).1).1 n) f=(v,true):=by obtain⟨j,_,_,_,c5⟩:=Hf hc;rw[Uf hk h hc I (aB8 j),aC1 c5];exact aDA C
theorem aEU{b:List Int}{i1 J:Int}{I:ByteArray}(c1:okC b i1 J)(q1:I.size<=8):∃r:ByteArray×Int×Int,((cF ⟨b,i1,J⟩ 3).bind λj=>if j.2.2=true then(sX ⟨b,j.1,j.2.1⟩).bind λC=>some (C.2.2,C.1,C.2.1)else some (I,j.1,j.2.1))=some r/\(r.1.size<=8/\okC b r.2.1 r.2.2):=by obtain⟨i2,v2,r2,e2,U,q2⟩:=Bh (n:=3) c1;rw[e2,qA];split;(obtain⟨i3,v3,r3,e3,c3,q3⟩:=K3 U;simp_all);simp_all
theorem Xm(k:Nat):(decide (((k+1:Nat):Int)>0))=true:=decide_eq_true wg
theorem aFQ:¬(decide ((0:Int)>0))=true:=by simp
theorem NP{k:Nat}(h:k+1<=100000):i64.wrap (((k+1:Nat))-1)=k:=by rw[eU wg wg];omega
theorem bgI{x:Int}(h: -1000000000000000<=x/\x<=1000000000000000):inI x:=N1 h.1 h.2
theorem aAO{r n:Int}(q:0<=r/\(0<n->r<n)/\r<=16777215): -1000000000000000<=r/\r<=1000000000000000:=⟨wg,wg⟩
theorem aHh{x:Int}(q: -1000000000000<=x/\x<=1000000000000/\(x<=256\/x=1000000000000)): -1000000000000000<=x/\x<=1000000000000000:=⟨wg,wg⟩
theorem aJo{r n:Int}(q:0<=r/\(0<n->r<n)/\r<=16777215)(j:0<n)(h:n<=1000):0<=r/\r<=1000:=⟨q.1,wg⟩
theorem s16{s:ByteArray}(h:s.size<=16):s.size<=maxLen:=by unfold maxLen;omega
theorem ml{n:Nat}(h:n<=1000000):n<=maxLen:=by unfold maxLen;omega
theorem DA{α:Type}{b:Nat}{xs ys:List α}(h:xs.length+ys.length<=1000000)(hb:b<=1000):app b xs ys=some (xs++ys):=dK (qh (Nat.mul_le_mul h hb) wg)
def RE(k:M.bD):Prop:=M.bD.ok k/\k.aK5.size<=16
theorem mkKey{a n:Int}{s:ByteArray}(h1: -1000000000000000<=a/\a<=1000000000000000)(h2: -1000000000000000<=n/\n<=1000000000000000)(h3:s.size<=16):RE ⟨a,n,s⟩:=⟨⟨bgI h1,bgI h2,s16 h3⟩,h3⟩
def UL(k:M.bD):Prop:=k.aKx=1/\0<=k.N/\k.N<=5/\k.aK5=⟨#[]⟩
theorem UL.any{k:M.bD}(h:UL k):RE k:=by obtain⟨a,n,s⟩:=k;obtain⟨h1,h2,h3,h4⟩:=h;dsimp only at h1 h2 h3 h4;subst h4;exact mkKey wg wg we
def Rh(k:M.bD):Prop:=RE k/\(k.aKx=1->k.N<=256\/k.N=1000000000000)
theorem UL.auto{k:M.bD}(h:UL k):Rh k:=⟨h.any,λ_=>.inl (by have:=h.2.2.1;omega)⟩
theorem BD{b:List Int}{i h:Int}(j:okC b i h):Dr b UL (fE ⟨b,i,h⟩):=by
 refine .bnd (bB j) λi1 U J C I=> ?_
 exact .ret C ⟨rfl,I.1,wa,rfl⟩
theorem QO{b:List Int}{i h:Int}(j:okC b i h):Dr b (λx=> -1000000000000<=x/\x<=1000000000000/\(x<=256\/x=1000000000000)) (Ce ⟨b,i,h⟩):=by
 refine .bnd (bB j) λi1 v1 r1 C q1=> ?_
 exact .bnd (uX (λx=> -1000000000000<=x/\x<=1000000000000/\(x<=256\/x=1000000000000)) wb (λx J=>by simp only[qq,qO,or_false]at J;omega) C) λi2 v2 r2 I U=>.ret I U
theorem Zt{b:List Int}{i h:Int}(U:okC b i h):Dr b Rh (E0 ⟨b,i,h⟩):=by
 refine .bnd (EG (λs=>s.size<=16) we we U) λi1 v1 r1 c1 J=>.bnd (bB c1) λi2 v2 r2 C q2=> ?_
 split
 ·exact .ret C ⟨mkKey wg wg J,λh=>by simp⟩
 split
 ·exact .bnd (QO C) λi3 v3 r3 I j=>.ret I ⟨mkKey wg (aHh j) J,λh=>by have h':(3:Int)=1:=h;omega⟩
 ·exact .bnd (QO C) λi3 v3 r3 I j=>.ret I ⟨mkKey wg (aHh j) we,λ_=>j.2.2⟩
theorem Uh{b:List Int}{i h:Int}(c0:okC b i h):Dr b RE (Dx ⟨b,i,h⟩):=by
 refine .bnd (Zt c0) λi1 v1 r1 c1 q1=>.bnd (bB c1) λi2 v2 r2 I q2=> ?_
 have hk:=q1.1
 split
 ·exact .bnd (bB I) λi3 U J C j=>.ret C ⟨⟨bgI (aAO j),hk.1.N,hk.1.aK5⟩,hk.2⟩
 split
 ·exact .bnd (uX (λx=> -1000000000000000<=x/\x<=1000000000000000) we we I) λi3 U J C j=>.ret C ⟨⟨hk.1.aKx,bgI j,hk.1.aK5⟩,hk.2⟩
 split
 ·exact .bnd (EG (λs=>s.size<=16) we we I) λi3 U J C j=>.ret C ⟨⟨hk.1.aKx,hk.1.N,s16 j⟩,j⟩
 ·exact .ret I hk
def Ou(r:M.aF):Prop:=r.ok/\cV r=true
theorem Zo{r:M.aF}{a:ByteArray}{n:Int}(h:Ou r)(j:a.size<=16)(C: -1000000000000000<=n/\n<=1000000000000000):∃x,iC r a n=some x/\Ou x.1:=by
 have J:=Il h.2
 have I:r.aKj.length<=1073741824:=by simp only[M.aF.sz]at J;omega
 exact⟨_,Cf h.1 wg (s16 j) (bgI C),Ml h.1 I (s16 j) (bgI C),Vt h.2 _ _⟩
theorem aDf:Ou ⟨[]⟩:=⟨IX,HZ⟩
theorem FP{b:List Int}{i h:Int}(c0:okC b i h):Dr b Ou (pC ⟨b,i,h⟩):=by
 refine .bnd (bB c0) λi1 v1 r1 c1 q1=> ?_
 obtain⟨N,rfl⟩:=CK q1.1
 refine DJ (L:=λn v (s:(M.aF)×Int×Int)=>tZ ⟨b,i,h⟩ n v s.2.1 s.2.2 s.1.aKj) (I:=λk s=>k<=100000/\okC b s.2.1 s.2.2/\Ou s.1) (Q:=Dr b Ou) (λn k s j ih=> ?_) (λn s j=> ?_) aJ N (⟨[]⟩,i1,v1) (nB wg) ⟨wg,c1,aDf⟩
 ·obtain⟨U,C,J⟩:=j
  simp only[tZ]
  rw[jF (Xm k),NP U]
  refine .bnd (B9 C) λi3 v3 r3 c3 q3=>.bnd (bB c3) λi4 v4 r4 c4 q4=>.JX (Zo J (qh q3 wg) (aAO q4)) λy hy=> ?_
  exact ih (y.1,i4,v4) ⟨wg,c4,hy⟩
 ·obtain⟨U,C,J⟩:=j;exact .ret C J
theorem aCz{r:M.aF}{a:ByteArray}{n:Int}(h:Ou r)(C:a.size<=16)(I: -1000000000000000<=n/\n<=1000000000000000):M.aF.ok ⟨r.aKj++[⟨a,n⟩]⟩/\M.aF.sz ⟨r.aKj++[⟨a,n⟩]⟩<=200:=by have J:=Il h.2;simp only[M.aF.sz]at J⊢;refine⟨⟨ml wa,λy j=> ?_⟩,?_⟩;(rcases qP.1 j with j|j;(exact h.1.aKj.2 y j);·rw[qQ.1 j];exact⟨s16 C,bgI I⟩);·rw[xT];simp only[dO,M.aR.sz,qE,qJ,qK];omega
def Vx(r:M.aF):Prop:=r.ok/\M.aF.sz r<=200
theorem Ou.any{r:M.aF}(h:Ou r):Vx r:=⟨h.1,by have:=Il h.2;omega⟩
theorem aCi{b:List Int}{i h:Int}(U:okC b i h):Dr b Vx (GH ⟨b,i,h⟩):=by
 refine .bnd (FP U) λi1 v1 J c1 j=>.bnd (bB c1) λi2 v2 r2 C q2=> ?_
 have hz:=Il j.2
 have hl:J.aKj.length<=100:=by simp only[M.aF.sz]at hz;omega
 split
 ·refine .bnd (EG (λs=>s.size<=16) we we C) λi3 v3 r3 c3 q3=>.bnd (uX (λx=> -1000000000000000<=x/\x<=1000000000000000) we we c3) λi4 v4 r4 c4 q4=> ?_
  rw[DA wa wg,qA]
  exact .ret c4 (aCz j q3 q4)
 split
 ·have key:∀(n k:Nat) (r:M.aF),6-k<n->k<=6->Ou r->Dr b Vx (xQ (i2,v2,r2) n k r.aKj):=by
   intro n
   induction n with
   |zero=>simp
   |succ n ih=>
    intro k r h hk I
    simp only[xQ]
    rcases jS k 6 with h6|h6
    ·have e:∃s,idx ([⟨#[100]⟩,⟨#[101]⟩,⟨#[102]⟩,⟨#[103]⟩,⟨#[104]⟩,(⟨#[105]⟩:ByteArray)]) k=some s/\s.size<=16:=by
      have:k=0\/k=1\/k=2\/k=3\/k=4\/k=5:=by omega
      rcases this with rfl|rfl|rfl|rfl|rfl|rfl<;>exact⟨_,rfl,we⟩
     rw[jF (bE h6)]
     refine .JX e λs hs=>.JX (Zo I hs wg) λy hy=> ?_
     rw[bM wg]
     exact ih (k+1) y.1 wg wg hy
    ·have:k=6:=by omega
     subst this
     exact .ret C I.any
  exact key aJ 0 J (nB wg) wg j
 ·exact .ret C j.any
def aB6(s:M.aD):Prop:=s.aK7<=256/\∀x∈s.aKg,x.Key.aKx=1->x.Key.N<=s.aK7\/x.Key.N=1000000000000
def Xp(s:M.aD):Prop:=s.ok/\iM s=true/\aB6 s
theorem aBA{s:M.aD}{k:M.bD}{r:M.aF}(C:aB6 s)(hk:Rh k):aB6 (Ca s k r).1:=by
 have J:s.aK7<=LV s k/\LV s k<=256/\(k.aKx=1->k.N<=LV s k\/k.N=1000000000000):=by obtain⟨a1,a2⟩:=C;have a3:=hk.2;unfold LV;grind
 unfold Ca
 split
 ·split;(split;(split;(refine⟨J.2.1,λx I h1=> ?_⟩;have j:x∈s.aKg.take (EE s.aKg k)++([⟨k,r⟩]++s.aKg.drop (EE s.aKg k)):=I;simp only[qP,qQ]at j;show x.Key.N<=LV s k\/_;rcases j with j|rfl|j;(have:=C.2 x (qk j) h1;omega);(simp_all);·have:=C.2 x (qv j) h1;omega);·exact C);·unfold OV;refine⟨C.1,?_⟩;split;(rename_i y U;intro x I h1;rcases jE I with I|rfl;(exact C.2 x I h1);·exact C.2 y (jD U) h1);·exact C.2);·exact C
 ·exact C
theorem Zx{s:M.aD}{k:M.bD}{r:M.aF}(C:Xp s)(hk:Rh k)(j:Ou r):∃x,fD s k r=some x/\Xp x.1:=by
 have J:=tR C.2.1
 have I:s.aKg.length<=1073741824:=by simp only[M.aD.sz]at J;omega
 refine⟨_,BT C.1 hk.1.1 j.1 j.2 wg (qh (Il j.2) wg),Q9 C.1 I hk.1.1 j.1,?_,aBA C.2.2 hk⟩
 cases h2:(Ca s k r).2 with
 |true=>exact G5 j.2 h2
 |false=>rw[MV h2];exact C.2.1
theorem aBn{a:ByteArray}(C:oO a=true)(j:a.size<=16):Xp ⟨a,[],0⟩:=⟨⟨s16 j,⟨wb,wb⟩,yH⟩,by unfold iM;simp[C,inR],wb,wb⟩
theorem I5{b:List Int}{i h:Int}{a:ByteArray}(hn:oO a=true)(ha:a.size<=16)(c0:okC b i h):Dr b Xp (xA ⟨b,i,h⟩ a):=by
 refine .bnd (uX (λx=>0<=x/\x<=6) we we c0) λi1 v1 r1 c1 q1=> ?_
 obtain⟨N,rfl⟩:=CK q1.1
 refine DJ (L:=λn v (s:(M.aD)×Int×Int)=>xG ⟨b,i,h⟩ n v s.1.Name s.1.aK7 s.2.1 s.2.2 s.1.aKg) (I:=λk s=>k<=100000/\okC b s.2.1 s.2.2/\Xp s.1) (Q:=Dr b Xp) (λn k s J ih=> ?_) (λn s J=> ?_) aJ N (⟨a,[],0⟩,i1,v1) (nB wg) ⟨wg,c1,aBn hn ha⟩
 ·obtain⟨k0,k1,C⟩:=J
  simp only[xG]
  rw[jF (Xm k),NP k0]
  refine .bnd (BD k1) λi3 v3 r3 j q3=>.bnd (FP j) λi4 v4 r4 c4 q4=>.JX (Zx C q3.auto q4) λy U=> ?_
  exact ih (y.1,i4,v4) ⟨wg,c4,U⟩
 ·obtain⟨k0,k1,C⟩:=J
  refine .bnd (Bh k1) λi3 v3 r3 j q3=> ?_
  split
  ·exact .bnd (Zt j) λi4 v4 r4 c4 q4=>.bnd (FP c4) λi5 v5 r5 c5 q5=>.JX (Zx C q4 q5) λy U=>.ret c5 U
  ·exact .ret j C
def QJ(s:M.aD):Prop:=s.ok/\M.aD.sz s<=20000
theorem Xp.any{s:M.aD}(h:Xp s):QJ s:=⟨h.1,by have:=tR h.2.1;omega⟩
def aA5(s:M.aD):Prop:=s.aK7<=256+s.aKg.length/\∀x∈s.aKg,x.Key.aKx=1->x.Key.N<=s.aK7\/x.Key.N=1000000000000
theorem XV{s:M.aD}(h1:s.ok)(h2:iM s=true)(h3:aA5 s)(hl:s.aKg.length<16):∃x,Cb s ⟨[]⟩=some x/\x.1.ok/\iM x.1=true/\aA5 x.1/\x.1.aKg.length=s.aKg.length+1:=by
 obtain⟨_,_,_,h0,_⟩:=Bi h2
 obtain⟨a1,a2⟩:=h3
 have ew:i64.wrap (s.aK7+1)=s.aK7+1:=eU wg wg
 have hz:=tR h2
 have hkey:Ec ⟨1,s.aK7+1,⟨#[]⟩⟩=true:=by
  unfold Ec inR
  have e:SJ ⟨#[]⟩=true:=by decide
  simp[e]
  omega
 have J:gJ (uB ⟨1,s.aK7+1,⟨#[]⟩⟩) s.aKg<0:=Classical.byContradiction λhn=>by obtain⟨j,ej,hj⟩:=cT hn;obtain⟨_,I⟩:=pY ej;unfold uB at I;grind
 have hk:M.bD.ok ⟨1,s.aK7+1,⟨#[]⟩⟩:=(mkKey wg wg we).1
 have e:=Ke h1 hk IX HZ wg (by simp[M.aF.sz,dO])
 have C:Ca s ⟨1,s.aK7+1,⟨#[]⟩⟩ ⟨[]⟩=(PK s ⟨1,s.aK7+1,⟨#[]⟩⟩ ⟨[]⟩,true):=by unfold Ca;rw[jF h2,jF hkey,jF J,jF hl]
 have U:=G5 (s:=s) (k:=⟨1,s.aK7+1,⟨#[]⟩⟩) HZ (by rw[C])
 rw[C]at U
 have en:QS s ⟨1,s.aK7+1,⟨#[]⟩⟩ ⟨[]⟩=(PK s ⟨1,s.aK7+1,⟨#[]⟩⟩ ⟨[]⟩,true):=by unfold QS;rw[jF J,C]
 have ea:LV s ⟨1,s.aK7+1,⟨#[]⟩⟩=s.aK7+1:=by unfold LV;rw[jF wV]
 rw[en]at e
 refine⟨(PK s ⟨1,s.aK7+1,⟨#[]⟩⟩ ⟨[]⟩,⟨1,s.aK7+1,⟨#[]⟩⟩,true),?_,?_,U,?_,?_⟩
 ·unfold Cb;rw[jG wV,ew,e,qA,jG wb]
 ·exact Uy _ h1 wg hk IX (by exact bgI wg)
 ·unfold PK aA5;grind
 ·unfold PK;grind
theorem aCm{s:M.aD}{k:M.bD}{r:M.aF}(C:Xp s)(hk:RE k)(I:Vx r):QJ ⟨s.Name,s.aKg++[⟨k,r⟩],s.aK7⟩:=by have J:=tR C.2.1;have h1:=hk.2;have h2:=I.2;refine⟨⟨C.1.Name,⟨?_,λy j=> ?_⟩,C.1.aK7⟩,?_⟩;(simp only[M.aD.sz]at J;exact ml wa);(rcases qP.1 j with j|j;(exact C.1.aKg.2 y j);·rw[qQ.1 j];exact⟨hk.1,I.1⟩);·simp only[M.aD.sz]at J⊢;rw[xT];simp only[dO,M.aKy.sz,M.bD.sz,qE,qJ,qK];omega
