/-
  Helper text. No conditions.
-/
import Derived.Test.YtjlnkcoeghonfaaGreatRunningPagesPd4
set_option linter.all false
namespace Go.Proofs.YtjlnkcoeghonfaaGreat.gen
open Go Go.Sh
open Go.IntKind (i64)
theorem RV{b:List Int}{p:Int}(hb:okB b)(j:b.length<=1500000)(J:inI p):El b p=some (match op9 b p 100 100 200 100 with
  |none=>(⟨0,⟨#[]⟩,⟨0,0,⟨#[]⟩⟩,⟨[]⟩,⟨#[]⟩⟩,0,false)
  |some (o,q)=>(o,q,true)):=by
 unfold El op9
 rw[vV hb j J,qA,Aa hb j (aCg hb j),qA]
 show(fA b (gS9 b p 100).2.1 100).bind _=_
 rw[Aa hb j (show inI (gS9 b p 100).2.1 from Rj hb j),qA]
 show(fA b (gK9 b p 100 100).2.1 200).bind _=_
 rw[Aa hb j (show inI (gK9 b p 100 100).2.1 from Rj hb j),qA]
 show(fA b (gR9 b p 100 100 200).2.1 100).bind _=_
 rw[Aa hb j (show inI (gR9 b p 100 100 200).2.1 from Rj hb j),qA]
 change (if(!(nUv b p).2.2)=true then _ else if(!(gS9 b p 100).2.2)=true then _ else if(!(gK9 b p 100 100).2.2)=true then _ else if(!(gR9 b p 100 100 200).2.2)=true then _ else if(!(gF9 b p 100 100 200 100).2.2)=true then _ else(toStr (gS9 b p 100).1).bind λaf=>(toStr (gF9 b p 100 100 200 100).1).bind λah=>(Ac (gK9 b p 100 100).1).bind λC=>(tP (gR9 b p 100 100 200).1).bind λI=>some ((⟨(nUv b p).1,bS (gS9 b p 100).1,C.1,I.1,bS (gF9 b p 100 100 200 100).1⟩:M.gN),(gF9 b p 100 100 200 100).2.1,true))=_
 cases h1:(nUv b p).2.2 with
 |false=>rfl
 |true=>
  cases h2:(gS9 b p 100).2.2 with
  |false=>rfl
  |true=>
   cases h3:(gK9 b p 100 100).2.2 with
   |false=>rfl
   |true=>
    cases h4:(gR9 b p 100 100 200).2.2 with
    |false=>rfl
    |true=>
     cases h5:(gF9 b p 100 100 200 100).2.2 with
     |false=>rfl
     |true=>
      have U:okB (gS9 b p 100).1/\(gS9 b p 100).1.length<=b.length:=Dk hb j h2
      have p3:okB (gK9 b p 100 100).1/\(gK9 b p 100 100).1.length<=b.length:=Dk hb j h3
      have p4:okB (gR9 b p 100 100 200).1/\(gR9 b p 100 100 200).1.length<=b.length:=Dk hb j h4
      have p5:okB (gF9 b p 100 100 200 100).1/\(gF9 b p 100 100 200 100).1.length<=b.length:=Dk hb j h5
      simp only[qB,qD,jG,jH]
      rw[D6 U.1.2,qA,D6 p5.1.2,qA,NQ p3.1 wi,qA,KO p4.1 wi,qA]
theorem doS{b:List Int}{x1:Int×Int×Bool}{N:Nat}(hb:okB b)(I:b.length<=1500000)(hN:N<=6)(J:x1.1=N):∀(j k m:Nat) (p:Int) (C:List M.gN),k+j=N->j<m->inI p->C.length=k->(∀x∈C,Kn x)->nW b x1 m p k C=some (aCe b (HI b 100 100 200 100 j p C))
 |_,_,0,_,_,_,h,_,_,_=>by omega
 |0,k,m+1,p,C,hk,_,hp,U,ho=>by simp only[nW,HI,aCe];rw[J,jF wX,II wi ho,qA,E3 (RK _) hb,qA];cases eqL zX (GZ C) b<;>rfl
 |j+1,k,m+1,p,C,hk,hm,hp,U,ho=>by
  simp only[nW,HI]
  rw[J,jE wX,RV hb I hp,qA]
  cases h:op9 b p 100 100 200 100 with
  |none=>rfl
  |some x=>
   obtain⟨o,q⟩:=x
   obtain⟨k1,k2⟩:=YF hb I h
   simp only[qD]
   rw[dN wX,qA,bL wi]
   refine doS hb I hN J j (k+1) m q _ wi wi k2 (by simp[U]) (λy hy=> ?_)
   grind
theorem M6{b:List Int}(hb:okB b)(j:b.length<=1500000):Ab b=some (RE b 100 100 200 100):=by
 unfold Ab RE
 rw[vV hb j zV,qA]
 cases h:(nUv b 0).2.2 with
 |false=>rfl
 |true=>
  obtain⟨a,m,e,C,I,u3,u4,J,U⟩:=D9 hb h
  rw[C]
  simp only[qB,qD,jG,jH]
  by_cases h6:(m:Int)>6
  ·rw[jE (by simpa using h6),jE h6]
  ·rw[jF wZ,jF h6,qH];exact doS (x1:=(m,e,true)) hb j (N:=m) wi rfl m 0 aH e [] wi wH (Nc u4 j) rfl (λ_ h=>absurd h we)
theorem doI{b:List Int}{x1:Int×Int×Bool}{N:Nat}(hb:okB b)(J:b.length<=1500000)(hN:N<=6)(U:x1.1=N):∀(j k m:Nat) (p:Int) (C:List M.gN),k+j=N->j<m->C.length=k->(∀x∈C,Kn x)->iI b x1 m p k C=some (aCe b (HI b b.length b.length b.length b.length j p C))
 |_,_,0,_,_,_,h,_,_=>by omega
 |0,k,m+1,p,C,hk,_,ha,ho=>by simp only[iI,HI,aCe];rw[U,jF wX,Iz wi ho,qA,yJ (RK _),qA];cases eqL zX (GZ C) b<;>rfl
 |j+1,k,m+1,p,C,hk,hm,ha,ho=>by
  have I:∀o q,op9 b p b.length b.length b.length b.length=some (o,q)->Kn o/\inI q:=λo q h=>YF hb J h
  simp only[iI,HI]
  rw[U,jE wX,vC hb J,qA]
  unfold op9 at I⊢
  cases h1:(nUv b p).2.2 with
  |false=>rfl
  |true=>
   rw[h1]at I
   rw[Av hb J,qA]
   change (if(gS9 b p b.length).2.2=true then(eY b (gS9 b p b.length).2.1 b.length).bind _ else _)=_
   cases h2:(gS9 b p b.length).2.2 with
   |false=>rfl
   |true=>
    rw[h2]at I
    rw[Av hb J,qA]
    change (if(gK9 b p b.length b.length).2.2=true then(eY b (gK9 b p b.length b.length).2.1 b.length).bind _ else _)=_
    cases h3:(gK9 b p b.length b.length).2.2 with
    |false=>rfl
    |true=>
     rw[h3]at I
     rw[Av hb J,qA]
     change (if(gR9 b p b.length b.length b.length).2.2=true then(eY b (gR9 b p b.length b.length b.length).2.1 b.length).bind _ else _)=_
     cases h4:(gR9 b p b.length b.length b.length).2.2 with
     |false=>rfl
     |true=>
      rw[h4]at I
      rw[Av hb J,qA]
      change (if(!(gF9 b p b.length b.length b.length b.length).2.2)=true then _ else(toStr (gS9 b p b.length).1).bind λaf=>(AD (gK9 b p b.length b.length).1).bind λaa=>(sY (gR9 b p b.length b.length b.length).1).bind λae=>(toStr (gF9 b p b.length b.length b.length b.length).1).bind λah=>(app 96 C ([⟨(nUv b p).1,bS (gS9 b p b.length).1,aa.1,ae.1,bS (gF9 b p b.length b.length b.length b.length).1⟩])).bind λai=>iI b x1 m (gF9 b p (b.length:Int) (b.length:Int) (b.length:Int) (b.length:Int)).2.1 (i64.wrap ((k:Int)+1)) (C++[(⟨(nUv b p).1,bS (gS9 b p (b.length:Int)).1,aa.1,ae.1,bS (gF9 b p (b.length:Int) (b.length:Int) (b.length:Int) (b.length:Int)).1⟩:M.gN)]))=_
      cases h5:(gF9 b p (b.length:Int) (b.length:Int) (b.length:Int) (b.length:Int)).2.2 with
      |false=>rfl
      |true=>
       rw[h5]at I
       have p2:okB (gS9 b p (b.length:Int)).1/\(gS9 b p (b.length:Int)).1.length<=b.length:=Dk hb J h2
       have p3:okB (gK9 b p (b.length:Int) (b.length:Int)).1/\(gK9 b p (b.length:Int) (b.length:Int)).1.length<=b.length:=Dk hb J h3
       have p4:okB (gR9 b p (b.length:Int) (b.length:Int) (b.length:Int)).1/\(gR9 b p (b.length:Int) (b.length:Int) (b.length:Int)).1.length<=b.length:=Dk hb J h4
       have p5:okB (gF9 b p (b.length:Int) (b.length:Int) (b.length:Int) (b.length:Int)).1/\(gF9 b p (b.length:Int) (b.length:Int) (b.length:Int) (b.length:Int)).1.length<=b.length:=Dk hb J h5
       simp only[qB,qD]
       rw[D6 p2.1.2,qA,NK p3.1 wi,qA,KC p4.1 wi,qA,D6 p5.1.2,qA,dN wX,qA,bL wi]
       refine doI hb J hN U j (k+1) m _ _ wi wi (by simp[ha]) (λy hy=> ?_)
       grind
theorem MZ{b:List Int}(hb:okB b)(j:b.length<=1500000):As b=some (RE b b.length b.length b.length b.length):=by
 unfold As RE
 rw[vC hb j,qA]
 cases h:(nUv b 0).2.2 with
 |false=>rfl
 |true=>
  obtain⟨a,m,e,C,I,u3,u4,J,U⟩:=D9 hb h
  rw[C]
  simp only[qB,qD,jG,jH]
  by_cases h6:(m:Int)>6
  ·rw[jE (by simpa using h6),jE h6]
  ·rw[jF wZ,jF h6,qH];exact doI (x1:=(m,e,true)) hb j (N:=m) wi rfl m 0 aH e [] wi wH rfl (λ_ h=>absurd h we)
theorem R0{b x y:List Int}{a:Nat}(h:b.drop a=x++y):b.drop (a+x.length)=y:=by rw[<-List.drop_drop,h,List.drop_left]
theorem Og{b s r:List Int}{a:Nat}{c:Int}(h:b.drop a=Hb s++r)(hc:s.length<=c)(j:s.length<=1000000000000):nRb b a c=(s,((a+(Hb s).length:Nat):Int),true)/\b.drop (a+(Hb s).length)=r:=by refine⟨?_,R0 h⟩;unfold Hb at h⊢;rw[qT]at h;rw[X6 h hc j,qE,Nat.add_assoc]
theorem aA6{b r:List Int}{a m:Nat}(h:b.drop a=uv m++r)(j:m<=1000000000000):nUv b a=((m:Int),((a+(uv m).length:Nat):Int),true)/\b.drop (a+(uv m).length)=r:=⟨T8 h j,R0 h⟩
theorem XO{b r:List Int}{a:Nat}{o:M.gN}{c1 c2 c3 c4:Int}(h:b.drop a=enO o++r)(C:nOp o=true)(h1:o.aE.size<=c1)(h2:((enK o.Key).length)<=c2)(h3:((enR o.aF).length)<=c3)(h4:o.Field.size<=c4):op9 b a c1 c2 c3 c4=some (⟨o.aLn,bS (bJ o.aE),(Wo (enK o.Key)).1,(Rv (enR o.aF)).1,bS (bJ o.Field)⟩,((a+(enO o).length:Nat):Int))/\b.drop (a+(enO o).length)=r:=by
 obtain⟨s1,s2,s3,s4,_⟩:=CV C
 have I:=aP o.aE
 have k5:=aP o.Field
 have J:=KN o.Key
 have U:=KJ o.aF
 refine⟨?_,R0 h⟩
 have j:=h
 unfold enO at j
 simp only[qT]at j
 obtain⟨e1,d1⟩:=aA6 j wi
 obtain⟨e2,d2⟩:=Og (c:=c1) d1 wi wi
 obtain⟨e3,d3⟩:=Og (c:=c2) d2 h2 wi
 obtain⟨e4,d4⟩:=Og (c:=c3) d3 h3 wi
 obtain⟨e5,d5⟩:=Og (c:=c4) d4 wi wi
 have f2:gS9 b a c1=(bJ o.aE,((a+(uv o.aLn.toNat).length+(Hb (bJ o.aE)).length):Int),true):=by unfold gS9;simp_all
 have f3:gK9 b a c1 c2=(enK o.Key,((a+(uv o.aLn.toNat).length+(Hb (bJ o.aE)).length+(Hb (enK o.Key)).length):Int),true):=by unfold gK9;simp_all
 have f4:gR9 b a c1 c2 c3=(enR o.aF,((a+(uv o.aLn.toNat).length+(Hb (bJ o.aE)).length+(Hb (enK o.Key)).length+(Hb (enR o.aF)).length):Int),true):=by unfold gR9;simp_all
 have f5:gF9 b a c1 c2 c3 c4=(bJ o.Field,((a+(uv o.aLn.toNat).length+(Hb (bJ o.aE)).length+(Hb (enK o.Key)).length+(Hb (enR o.aF)).length+(Hb (bJ o.Field)).length):Int),true):=by unfold gF9;simp_all
 unfold op9
 rw[e1,f2,f3,f4,f5]
 simp only[jH]
 rw[jS wi]
 congr 3
 unfold enO
 simp only[qE]
 omega
theorem ZM{b:List Int}{p:Int}{x:M.gN×Int}(hb:okB b)(j:b.length<=1500000)(h:op9 b p 100 100 200 100=some x):op9 b p b.length b.length b.length b.length=some x:=by
 have mono:∀{p c:Int},(nRb b p c).2.2=true->nRb b p b.length=nRb b p c:=λ{p c} h=>by have C:=Dk hb j h;exact aAJ hb (show nRb b p c=((nRb b p c).1,(nRb b p c).2.1,true)from by rw[<-h]) wi|>.trans (by rw[<-h])
 unfold op9 at h⊢
 split at h
 ·rename_i h1
  split at h
  ·rename_i h2
   split at h
   ·rename_i h3
    split at h
    ·rename_i h4
     split at h
     ·rename_i h5
      have f2:gS9 b p b.length=gS9 b p 100:=mono h2
      have f3:gK9 b p b.length b.length=gK9 b p 100 100:=by unfold gK9;rw[f2];exact mono h3
      have f4:gR9 b p b.length b.length b.length=gR9 b p 100 100 200:=by unfold gR9;rw[f3];exact mono h4
      have f5:gF9 b p b.length b.length b.length b.length=gF9 b p 100 100 200 100:=by unfold gF9;rw[f4];exact mono h5
      rw[f2,f3,f4,f5,jE h1,jE h2,jE h3,jE h4,jE h5]
      exact h
     ·cases h
    ·cases h
   ·cases h
  ·cases h
 ·cases h
theorem QK{b:List Int}(hb:okB b)(I:b.length<=1500000):∀(j:Nat) (p:Int) (C l:List M.gN),HI b 100 100 200 100 j p C=some l->HI b b.length b.length b.length b.length j p C=some l
 |0,_,_,_,h=>h
 |j+1,p,C,l,h=>by
  simp only[HI]at h⊢
  cases e:op9 b p 100 100 200 100 with
  |none=>simp_all
  |some x=>
   rw[ZM hb I e]
   rw[e]at h
   exact QK hb I j _ _ l h
theorem SF{b:List Int}{c1 c2 c3 c4 d1 d2 d3 d4:Int}:∀(rest:List M.gN) (a:Nat) (j:List M.gN) (t:List Int),b.drop a=M8 enO rest++t->(∀o∈rest,nOp o=true/\o.aE.size<=c1/\((enK o.Key).length)<=c2/\((enR o.aF).length)<=c3/\o.Field.size<=c4/\o.aE.size<=d1/\((enK o.Key).length)<=d2/\((enR o.aF).length)<=d3/\o.Field.size<=d4)->HI b c1 c2 c3 c4 rest.length a j=HI b d1 d2 d3 d4 rest.length a j
 |[],_,_,_,_,_=>rfl
 |o::rest,a,j,t,h,I=>by obtain⟨C,U,g2,g3,g4,g5,g6,g7,g8⟩:=I o we;rw[M8,qT]at h;obtain⟨e1,J⟩:=XO h C U g2 g3 g4;obtain⟨e2,_⟩:=XO h C g5 g6 g7 g8;simp only[qJ,HI];rw[e1,e2];exact SF rest _ _ t J (λx hx=>I x (by simp[hx]))
theorem U1{l:List M.gN}{b:List Int}(h:GZ l=b)(hb:b≠[]):b=uv l.length++M8 enO l/\(∀o∈l,nOp o=true)/\l.length<=6:=by unfold GZ at h;grind
theorem aC8{b:List Int}{l:List M.gN}(h:b=uv l.length++M8 enO l):∀o∈l,o.aE.size<=b.length/\(enK o.Key).length<=b.length/\(enR o.aF).length<=b.length/\o.Field.size<=b.length:=by
 have h1:(M8 enO l).length<=b.length:=by rw[h,qE];omega
 have key:∀(l:List M.gN) (o:M.gN),o∈l->(enO o).length<=(M8 enO l).length:=by
  intro l
  induction l with
  |nil=>intro o j;cases j
  |cons x U C=>
   intro o j
   rw[M8,qE]
   rcases qq.1 j with rfl|j
   ·omega
   ·have:=C o j;omega
 intro o j
 have h2:=qh (key l o j) h1
 have I:=aP o.aE
 have J:=aP o.Field
 unfold enO Hb at h2
 simp only[qE]at h2
 omega
theorem aAS{b:List Int}(hb:okB b)(hl:b.length<=1500000):RE b b.length b.length b.length b.length=RE b 100 100 200 100:=by
 unfold RE
 cases h:(nUv b 0).2.2 with
 |false=>simp only[Bool.false_eq_true,if_false]
 |true=>
  obtain⟨a,m,e,u1,u2,u3,u4,u5,u6⟩:=D9 hb h
  obtain rfl:a=0:=by omega
  rw[List.drop_zero]at u6
  have I:b≠[]:=λh0=>by have:=congrArg List.length u6;have h2:=Nv m;rw[h0]at this;simp at this;omega
  rw[u1]
  dsimp only
  by_cases h6:(m:Int)>6
  ·rw[jE h6,jE h6]
  ·rw[jF h6,jF h6,qH,jE rfl,jE rfl]
   cases hS:HI b 100 100 200 100 m e []with
   |some l=>rw[QK hb hl m _ _ l hS]
   |none=>
    cases hL:HI b b.length b.length b.length b.length m e []with
    |none=>rfl
    |some l=>
     simp only[aCe]
     rw[jF]
     rw[Ig]
     intro he
     obtain⟨j,U,b3⟩:=U1 he I
     have pl:=aC8 j
     have hu:=T8 (b:=b) (a:=0) (by rw[List.drop_zero];exact j) (show l.length<=1000000000000 by omega)
     rw[show((0:Nat):Int)=0 from rfl,u1]at hu
     simp only[qb,qp]at hu
     obtain rfl:m=l.length:=by omega
     have C:e=(uv l.length).length:=by omega
     have hd:b.drop e=M8 enO l++[]:=by
      rw[qY,C]
      conv=>lhs;rw[j]
      exact List.drop_left
     have:=SF (c1:=100) (c2:=100) (c3:=200) (c4:=100) (d1:=b.length) (d2:=b.length) (d3:=b.length) (d4:=b.length) l e [] [] hd (λo J=>by have q1:=CV (U o J);have q2:=KN o.Key;have q3:=KJ o.aF;have q4:=pl o J;exact⟨U o J,wi,wi,wi,wi,wi,wi,wi,wi⟩)
     rw[hS,hL]at this
     cases this
def GD(b:List Int):List M.gN×Bool:=RE b 100 100 200 100
theorem N4{b:List Int}(hb:okB b)(j:b.length<=1500000):Ab b=some (GD b):=M6 hb j
theorem NB{b:List Int}(hb:okB b)(j:b.length<=1500000):As b=some (GD b):=by rw[MZ hb j,aAS hb j];rfl
theorem VB{b:List Int}{c1 c2 c3 c4:Int}(hb:okB b)(J:b.length<=1500000):∀(j:Nat) (p:Int) (C l:List M.gN),HI b c1 c2 c3 c4 j p C=some l->(∀x∈C,Kn x)->(∀x∈l,Kn x)
 |0,_,_,_,h,U=>by simp only[HI,qc]at h;rw[<-h];exact U
 |j+1,p,C,l,h,U=>by
  simp only[HI]at h
  cases e:op9 b p c1 c2 c3 c4 with
  |none=>simp_all
  |some x=>
   obtain⟨o,q⟩:=x
   rw[e]at h
   refine VB hb J j q _ l h (λy I=> ?_)
   rcases qP.1 I with I|I
   ·simp_all
   ·rw[qQ.1 I];exact(YF hb J e).1
theorem M3{b:List Int}(hb:okB b)(hl:b.length<=1500000):(GD b).1.length<=6/\∀o∈(GD b).1,Kn o/\nOp o=true:=by
 have z:([]:List M.gN).length<=6/\∀o∈[],Kn o/\nOp o=true:=⟨we,λ_ h=>absurd h we⟩
 unfold GD RE
 split
 ·rename_i h
  obtain⟨a,m,e,u1,u2,u3,u4,u5,u6⟩:=D9 hb h
  have j:b≠[]:=λU=>by have:=congrArg List.length u6;have h2:=Nv m;rw[U]at this;simp at this;omega
  rw[u1]
  split
  ·exact z
  ·cases hr:HI b 100 100 200 100 (m:Int).toNat e []with
   |none=>exact z
   |some l=>
    simp only[aCe]
    split
    ·rename_i he;rw[Ig]at he;obtain⟨b1,I,J⟩:=U1 he j;exact⟨J,λo C=>⟨VB hb hl _ _ _ l hr (λ_ h=>absurd h we) o C,I o C⟩⟩
    ·exact z
 ·exact z
theorem JE{i:Int}{l:List Int}(j:l.length<=1500000):Bs i l=some (Kb ([101,i]++([(l.length:Int)]++l.map i64.wrap))):=by unfold Bs;rw[Ha j,qA,dN wX,qA,OX wF,qA]
theorem JB{i:Int}{l:List Int}(j:l.length<=1500000):BP i l=some (Kb ([101,i]++([(l.length:Int)]++l.map i64.wrap))):=by unfold BP;rw[Hf j,qA,dN wX,qA,OI wF,qA]
def YZ(i:Int)(l:List Int):Int:=Kb ([101,i]++([(l.length:Int)]++l.map i64.wrap))
def PZ(b:List Int):Nat->Int->List (List Int)->List (List Int)×Int
 |0,p,C=>(C,p)
 |j+1,p,C=>if(nRb b p 4000).2.2=true then if(nUv b (nRb b p 4000).2.1).2.2=true then if((nUv b (nRb b p 4000).2.1).1 !=YZ (C.length:Int) (nRb b p 4000).1)=true then(C,p)else PZ b j (nUv b (nRb b p 4000).2.1).2.1 (C++[(nRb b p 4000).1])else(C,p)else(C,p)
def aC5(b:List Int):List (List Int)×Int:=PZ b (b.length+1) 0 []
theorem aCQ{b:List Int}:nUv b b.length=(0,0,false):=by unfold nUv;rw[jF wi,qH];unfold Tl;rw[qZ wi]
theorem Xx{b:List Int}(hb:okB b)(I:b.length<=1500000):∀(j m a:Nat) (C:List (List Int)),b.length-a<j->j<=m->a<=b.length->C.length<=a->yQ b m a C=some (PZ b j a C)
 |0,_,_,_,h,_,_,_=>by omega
 |_+1,0,_,_,_,h,_,_=>by omega
 |j+1,m+1,a,C,hj,hm,J,hc=>by
  simp only[yQ,PZ]
  by_cases hlt:a<b.length
  case neg=>
   obtain rfl:a=b.length:=by omega
   rw[jF we]
   have:(nRb b b.length 4000).2.2=false:=by unfold nRb;rw[aCQ];rfl
   rw[this]
   rfl
  rw[jE wX,Aa hb I (Nc J I),qA]
  cases h1:(nRb b a 4000).2.2 with
  |false=>rfl
  |true=>
   obtain⟨s,a1,e1,U,r2,r3,r4,r5,r6,r7,r8⟩:=Jj hb h1
   rw[U]
   simp only[jG]
   rw[vV hb I (Nc r4 I),qA]
   cases h2:(nUv b e1).2.2 with
   |false=>rfl
   |true=>
    obtain⟨a2,v,e2,u1,u2,u3,u4,u5,u6⟩:=D9 hb h2
    have g1:=Nv s.length
    rw[u1]
    simp only[jG]
    rw[JE wi,qA]
    show(if(v !=YZ C.length s)=true then _ else _)=_
    split
    ·rfl
    ·rw[dN wX,qA];exact Xx hb I j m e2 _ wi wi u4 wX
theorem PI{b:List Int}(hb:okB b)(j:b.length<=1500000):Ft b=some (aC5 b):=by exact Xx hb j (b.length+1) aH 0 [] wi wH wi we
theorem X8{b:List Int}(hb:okB b)(I:b.length<=1500000):∀(j m a:Nat) (C:List (List Int)),b.length-a<j->j<=m->a<=b.length->C.length<=a->yK b m a C=some (PZ b j a C)
 |0,_,_,_,h,_,_,_=>by omega
 |_+1,0,_,_,_,h,_,_=>by omega
 |j+1,m+1,a,C,hj,hm,ha,hc=>by
  simp only[yK,PZ]
  rw[Av hb I,qA]
  cases h1:(nRb b a 4000).2.2 with
  |false=>rfl
  |true=>
   obtain⟨s,a1,e1,J,r2,r3,r4,r5,r6,r7,r8⟩:=Jj hb h1
   rw[J]
   simp only[jG]
   rw[vC hb I,qA]
   cases h2:(nUv b e1).2.2 with
   |false=>rfl
   |true=>
    obtain⟨a2,v,e2,U,u2,u3,u4,u5,u6⟩:=D9 hb h2
    have g1:=Nv s.length
    rw[U]
    simp only[jG]
    rw[JB wi,qA]
    show(if(v !=YZ C.length s)=true then _ else _)=_
    split
    ·rfl
    ·rw[dN wX,qA];exact X8 hb I j m e2 _ wi wi u4 wX
theorem PM{b:List Int}(hb:okB b)(j:b.length<=1500000):Fw b=some (aC5 b):=by exact X8 hb j (b.length+1) aH 0 [] wi wH wi we
theorem Wd{b:List Int}(hb:okB b):∀(j a:Nat) (C:List (List Int)),a<=b.length->C.length<=a->(∀l∈C,okB l/\l.length<=4000)->(PZ b j a C).1.length<=b.length/\∀l∈(PZ b j a C).1,okB l/\l.length<=4000
 |0,a,C,J,hc,h=>⟨by simp only[PZ];omega,h⟩
 |j+1,a,C,J,hc,h=>by simp only[PZ];split;(rename_i h1;obtain⟨s,a1,e1,U,r2,r3,r4,r5,r6,r7,r8⟩:=Jj hb h1;rw[U];dsimp only;split;(rename_i h2;obtain⟨a2,v,e2,u1,u2,u3,u4,u5,u6⟩:=D9 hb h2;have g1:=Nv s.length;rw[u1];split;(exact⟨wI,h⟩);·refine Wd hb j e2 _ u4 wX (λl I=> ?_);rcases qP.1 I with I|I;(exact h l I);·rw[qQ.1 I];exact⟨r8,wi⟩);·exact⟨wI,h⟩);grind
theorem Ut{b:List Int}(hb:okB b):(aC5 b).1.length<=b.length/\∀l∈(aC5 b).1,okB l/\l.length<=4000:=Wd hb (b.length+1) 0 [] wi we (λ_ h=>absurd h we)
theorem Qj{α:Type}{f:α->Nat}(q:α->Bool):∀(l:List α),dV f (l.filter q)<=dV f l
 |[]=>qg _
 |x::l=>by have h:=Qj (f:=f) q l;rw[List.filter_cons];split;(simp only[dV];omega);·simp only[dV];omega
theorem aAm{x y:M.bD}(C:EZ x=true)(I:EZ y=true):decide (bZ y x<=0)= !decide (bZ x y<0):=by have j:=EP x.aLu.toList y.aLu.toList;unfold bZ;grind
def zW(k:M.bD)(g:M.gE):Bool:=EZ k&&((!g.aMO||EZ g.Low)&&((!g.aMH||EZ g.aMK)&&((!g.aMO||decide (bZ g.Low k<=0))&&(!g.aMH||decide (bZ k g.aMK<=0)))))
theorem NC{k:M.bD}{g:M.gE}(hk:k.ok)(C:g.Low.ok)(j:g.aMK.ok):Cl k g=some (zW k g):=by unfold Cl zW;simp only[pF hk,pF C,pF j,A5 C hk,A5 hk j];grind
theorem NA{k:M.bD}{g:M.gE}(hk:k.ok)(C:g.Low.ok)(j:g.aMK.ok):Cg k g=some (zW k g):=by
 have h2:(!(decide (bZ k g.aMK>0)))=decide (bZ k g.aMK<=0):=by rw[<-decide_not,decide_eq_decide];omega
 have h1:EZ k=true->EZ g.Low=true->(!(decide (bZ k g.Low<0)))=decide (bZ g.Low k<=0):=λa b=>(aAm a b).symm
 unfold Cg zW
 simp only[uE hk,uE C,uE j,AV hk C,AV hk j,qA,h2]
 generalize (!(decide (bZ k g.Low<0)))=a0 at*
 generalize decide (bZ g.Low k<=0)=a1 at*
 generalize decide (bZ k g.aMK<=0)=a2
 generalize g.aMO=a3
 generalize g.aMH=a4
 generalize EZ k=a5 at*
 generalize EZ g.Low=a6 at*
 generalize EZ g.aMK=a7
 cases a5
 ·rfl
 cases a6
 ·cases a3<;>cases a4<;>cases a7<;>cases a2<;>cases a1<;>cases a0<;>rfl
 ·obtain rfl:=h1 rfl rfl;cases a0<;>cases a2<;>cases a3<;>cases a4<;>cases a7<;>rfl
theorem QZ{α R:Type}{xs:List α}{q:α->Bool}{E:List α->Option R}{L:Nat->Int->Int->List α->Option R}
  (h1:∀n (i j:Nat) (r:List α) (hj:j<r.length) (hi:i<r.length),r.length=xs.length->r[j]∈xs->L (n+1) i j r=if q r[j]=true then L n i ((j+1:Nat)) r else L n ((i+1:Nat)) ((j+1:Nat)) (r.set i r[j]))
  (h2:∀n (i:Nat) (r:List α),i<=r.length->L (n+1) i r.length r=E (r.take i)):
  ∀(n i j:Nat) (r:List α),xs.length-j<n->j<=xs.length->i<=j->r.length=xs.length->r.take i=(xs.take j).filter (λx=> !q x)->r.drop j=xs.drop j->L n i j r=E (xs.filter λx=> !q x)
 |0,i,j,r,hn,_,_,_,_,_=>by omega
 |n+1,i,j,r,hn,hj,hi,hr,ht,hd=>by
  rcases jR j xs.length with h|h
  ·have I:j<r.length:=by omega
   have U:r[j]=xs[j]:=by have:=congrArg (λl=>l[0]?) hd;simp only[List.getElem?_drop,Nat.add_zero,qF I,qF h,qc]at this;exact this
   have C:r.drop (j+1)=xs.drop (j+1):=by have:=congrArg (List.drop 1) hd;simpa only[List.drop_drop]using this
   have J:xs.take (j+1)=xs.take j++[xs[j]]:=(List.take_append_getElem h).symm
   rw[h1 n i j r I wi hr (by rw[U];exact qG h)]
   cases hq:q r[j]with
   |true=>
    refine QZ h1 h2 n i (j+1) r wi h wi hr ?_ C
    rw[ht,J,List.filter_append,<-U]
    simp[hq]
   |false=>
    refine QZ h1 h2 n (i+1) (j+1) (r.set i r[j]) wi h wi (by simpa using hr) ?_ ?_
    ·rw[J,List.filter_append,<-ht,<-U]
     have hl:i<(r.set i r[j]).length:=by rw[qN];omega
     rw[<-List.take_append_getElem hl,List.getElem_set_self,List.take_set_of_le (qg i)]
     simp[hq]
    ·rw[List.drop_set_of_lt wi];exact C
  grind
def ML(s:M.aE)(g:M.gE):M.aE×Int:=if kB s=true then(⟨s.Name,s.aLV.filter (λx=> !zW x.Key g),s.aLx⟩,i64.wrap (s.aLV.length-(List.length (s.aLV.filter (λx=> !zW x.Key g)))))else(s,0)
theorem ON{α:Type}{f:α->Bool}{l:List α}{k:Nat}(h:k<l.length):(l.take (k+1)).filter f=(l.take k).filter f++(if f l[k]=true then[l[k]]else[]):=by rw[<-List.take_append_getElem h,List.filter_append];rw[List.filter_cons,List.filter_nil]
theorem aAZ{s:M.aE}(C:M.aE.sz s<=1500000){x:M.aLo}(j:x∈s.aLV):M.aLo.sz x<=1500000:=by have:=eA (f:=M.aLo.sz) j;simp only[M.aE.sz]at C;omega
theorem Hd{s:M.aE}{g:M.gE}(C:s.ok)(hl:g.Low.ok)(U:g.aMK.ok)(I:M.aE.sz s<=1500000):vY s g=some (ML s g):=by
 have hn:s.aLV.length<=1500000:=by simp only[M.aE.sz]at I;omega
 have key:∀(n k:Nat) (r:List M.aLo),s.aLV.length-k<n->k<=s.aLV.length->r=(s.aLV.take k).filter (λx=> !zW x.Key g)->lB s g n k r=some (⟨s.Name,s.aLV.filter (λx=> !zW x.Key g),s.aLx⟩,i64.wrap (s.aLV.length-(List.length (s.aLV.filter (λx=> !zW x.Key g))))):=by
  intro n
  induction n with
  |zero=>simp
  |succ n J=>
   intro k r hk hle j
   simp only[lB]
   rcases jR k s.aLV.length with hlt|hge
   ·have hx:=C.aLV.2 _ (qG hlt)
    have hrl:r.length<=1500000:=by rw[j];refine qh (List.length_filter_le _ _) ?_;rw[qV];omega
    rw[jE (bE hlt),aM hlt,qA,NC hx.Key hl U,qA]
    cases hq:zW s.aLV[k].Key g with
    |true=>
     rw[jF we,bL wi]
     refine J (k+1) r wi hlt ?_
     rw[ON hlt,hq,<-j]
     simp
    |false=>
     rw[jE we,Im _ (qh (aAZ I (qG hlt)) wi),qA,dN wA,qA,bL wi]
     refine J (k+1) _ wi hlt ?_
     rw[ON hlt,hq,<-j]
     simp
   ·have e:k=s.aLV.length:=by omega
    subst e
    rw[jF we,j,List.take_length]
 unfold vY ML
 rw[CE C,qA,rF s wi]
 cases kB s with
 |false=>rfl
 |true=>
  rw[jF we,jE rfl]
  exact key aH 0 [] wH wi we
theorem He{s:M.aE}{g:M.gE}(hs:s.ok)(hl:g.Low.ok)(hh:g.aMK.ok)(hz:M.aE.sz s<=1500000):vA s g=some (ML s g):=by
 have hn:s.aLV.length<=1500000:=by simp only[M.aE.sz]at hz;omega
 have hp:∀x∈s.aLV,mG x g=some (zW x.Key g):=λx C=>by unfold mG;rw[NA (hs.aLV.2 x C).Key hl hh,qA]
 unfold vA ML
 rw[lK s wi,qA,Cv hs,qA]
 cases kB s with
 |false=>rfl
 |true=>
  rw[jF we,jE rfl,IA (f:=λx=>zW x.Key g) hs.aLV.1 hp,qA]
  unfold kP
  cases hf:s.aLV.findIdx? (λx=>zW x.Key g)with
  |none=>
   rw[jE we]
   rw[List.findIdx?_eq_none_iff]at hf
   rw[List.filter_eq_self.2 (λx C=>by simp[hf x C])]
  |some k=>
   obtain⟨hk,hqk,U⟩:=List.findIdx?_eq_some_iff_getElem.1 hf
   simp only[qD]
   rw[bL wi]
   refine QZ (xs:=s.aLV) (q:=λx=>zW x.Key g) (L:=fE s g s) (E:=λl=>some (⟨s.Name,l,s.aLx⟩,i64.wrap (s.aLV.length-(l.length)))) (λn i j r I J hrl hmem=> ?_) (λn i r J=> ?_) aH k (k+1) s.aLV wH hk wi rfl ?_ rfl
   ·simp only[fE];rw[jE (bE I),aM I,qA,hp _ hmem,qA,aM J,qA];rw[bL (n:=i) wi,bL (n:=j) wi,qH];cases zW r[j].Key g<;>rfl
   ·simp only[fE];rw[jF we,show Cn r i=some (r.drop i)from by unfold Cn;rw[jE ⟨wi,by simpa using J⟩,qH],qA,qH]
   ·rw[ON hk];have:(s.aLV.take k).filter (λx=> !zW x.Key g)=s.aLV.take k:=List.filter_eq_self.2 (λx C=>by obtain⟨j,I,rfl⟩:=List.mem_iff_getElem.1 C;rw[qV]at I;have:=U j wi;simpa using this);rw[this];simp[hqk]
theorem Vg{s:M.aE}{g:M.gE}(j:s.ok):(ML s g).1.ok/\M.aE.sz (ML s g).1<=M.aE.sz s:=by unfold ML;split;(refine⟨⟨j.Name,⟨qh (List.length_filter_le _ _) j.aLV.1,λy C=>j.aLV.2 y (jB.1 C).1⟩,j.aLx⟩,?_⟩;have h4:=List.length_filter_le (λx:M.aLo=> !zW x.Key g) s.aLV;have h5:=Qj (f:=M.aLo.sz) (λx:M.aLo=> !zW x.Key g) s.aLV;simp only[M.aE.sz];omega);simp_all
def QT(s:M.aE)(k:M.bD)(r:M.aF):M.aE×Bool:=if kP (zK k) s.aLV<0 then EX s k r else(s,false)
theorem Kq{s:M.aE}{k:M.bD}{r:M.aF}(C:s.ok)(hk:k.ok)(U:r.ok)(J:cT r=true)(I:M.aE.sz s<=1073741824)(j:M.aF.sz r<=1073741824):Cy s k r=some (QT s k r):=by unfold Cy QT;rw[BW C,qA,rF s I,Cw C hk U J I j];by_cases h:kP (zK k) s.aLV<0;(rw[jF wX,jE h];rfl);·rw[jE wX,jF h];rfl
theorem PT{s:M.aE}{k:M.bD}{r:M.aF}(C:s.ok)(hk:k.ok)(U:r.ok)(J:cT r=true)(I:M.aE.sz s<=1073741824)(j:M.aF.sz r<=1073741824):DV s k r=some (QT s k r):=by unfold DV QT;rw[CZ C,qA,lK s I,DK C hk U J I j];by_cases h:kP (zK k) s.aLV<0;(rw[jF wX,jE h];rfl);·rw[jE wX,jF h];rfl
def aBT:M.gE:=⟨false,false,⟨0,0,⟨#[]⟩⟩,⟨0,0,⟨#[]⟩⟩⟩
def aDM(s:M.aE)(o:M.gN):M.aE×Int×Bool:=if(JO (gP s o.Key) o.Field (i64.wrap ((eS (gP s o.Key) o.Field).1+1))).2=true then((EX s o.Key (JO (gP s o.Key) o.Field (i64.wrap ((eS (gP s o.Key) o.Field).1+1))).1).1,i64.wrap ((eS (gP s o.Key) o.Field).1+1),(EX s o.Key (JO (gP s o.Key) o.Field (i64.wrap ((eS (gP s o.Key) o.Field).1+1))).1).2)else(s,0,false)
def nOn(s:M.aE)(o:M.gN):M.aE×Int×Bool:=if o.aLn=1 then((EX s o.Key o.aF).1,1,(EX s o.Key o.aF).2)else if o.aLn=2 then((QT s o.Key o.aF).1,1,(QT s o.Key o.aF).2)else if o.aLn=3 then((ML s ⟨true,true,o.Key,o.Key⟩).1,(ML s ⟨true,true,o.Key,o.Key⟩).2,true)else if o.aLn=4 then if kP (zK o.Key) s.aLV<0 then(s,-1,true)else(s,List.length (gP s o.Key).aLY,true)else if o.aLn=5 then((ML s aBT).1,(ML s aBT).2,true)else aDM s o
theorem OO:M.bD.ok ⟨0,0,⟨#[]⟩⟩:=⟨zV,zV,sz0⟩
theorem Ii{s:M.aE}{k:M.bD}(h:¬kP (zK k) s.aLV<0):∃x,idx s.aLV (kP (zK k) s.aLV)=some x/\x.aF=gP s k:=by obtain⟨j,e,C⟩:=dM h;refine⟨s.aLV[j],by rw[e,aM C],?_⟩;unfold gP;rw[jF h,e,qH,qF C]
theorem Lg{s:M.aE}{k:M.bD}(h:kP (zK k) s.aLV<0):gP s k=⟨[]⟩:=by unfold gP;rw[jE h]
theorem Ij:cT ⟨[]⟩=true:=by rfl
theorem YT{s:M.aE}(h:kB s=true)(k:M.bD):cT (gP s k)=true:=by by_cases hf:kP (zK k) s.aLV<0;(rw[Lg hf];exact Ij);·obtain⟨j,e,C⟩:=dM hf;obtain⟨x,e1,e2⟩:=Ii hf;rw[<-e2];rw[e,aM C]at e1;obtain rfl:=qd e1;exact((LU (B2 h).1).1 j _ (qF C)).2
theorem Vm{r:M.aF}(h:cT r=true)(a:ByteArray)(n:Int):cT (JO r a n).1=true:=by
 cases e:(JO r a n).2 with
 |true=>exact GN e
 |false=>
  unfold JO OA at e⊢
  grind
structure Xg (x:M.aE) (y:M.gN):Prop where
 s:x.ok
 o:Kn y
 n:nOp y=true
 t:kB x=true
theorem Xg.z{s:M.aE}{o:M.gN}(h:Xg s o):M.aE.sz s<=10000:=uZ h.t
theorem Xg.r{s:M.aE}{o:M.gN}(h:Xg s o):M.aF.sz o.aF<=100:=IE (CV h.n).2.2.2.2
theorem OM{s:M.aE}{o:M.gN}(h:Xg s o):(gP s o.Key).ok/\M.aF.sz (gP s o.Key)<=100/\(JO (gP s o.Key) o.Field (i64.wrap ((eS (gP s o.Key) o.Field).1+1))).1.ok/\cT (JO (gP s o.Key) o.Field (i64.wrap ((eS (gP s o.Key) o.Field).1+1))).1=true:=by have h1:=YT h.t o.Key;have h2:=Gx (k:=o.Key) h.s;have h3:=(AY h1).1;exact⟨h2,IE h1,Mq h2 wi h.o.2.2.2.2 (bV _),Vm h1 _ _⟩
theorem TV{s:M.aE}{o:M.gN}(h:Xg s o):GQ s o=some (nOn s o):=by have C:=h.z;have j:=h.r;obtain⟨i1,i2,i3,i4⟩:=OM h;have i5:=IE i4;unfold GQ nOn;rw[CZ h.s,qA,DK h.s h.o.2.2.1 h.o.2.2.2.1 (CV h.n).2.2.2.2 wi wi,PT h.s h.o.2.2.1 h.o.2.2.2.1 (CV h.n).2.2.2.2 wi wi,He h.s h.o.2.2.1 h.o.2.2.1 wi,He (g:=⟨false,false,⟨0,0,⟨#[]⟩⟩,⟨0,0,⟨#[]⟩⟩⟩) h.s OO OO wi];by_cases k1:o.aLn=1;(rw[jE (by simpa using k1),jE k1];rfl);rw[jF wZ,jF k1];by_cases k2:o.aLn=2;(rw[jE (by simpa using k2),jE k2];rfl);rw[jF wZ,jF k2];by_cases k3:o.aLn=3;(rw[jE (by simpa using k3),jE k3];rfl);rw[jF wZ,jF k3];by_cases k5:o.aLn=5;(rw[jE (by simpa using k5),jF wi,jE k5];rfl);rw[jF wZ];by_cases k4:o.aLn=4;(rw[jE wZ,jE k4];by_cases hf:kP (zK o.Key) s.aLV<0;(rw[jE (by simpa using hf),jE hf]);·obtain⟨x,e1,e2⟩:=Ii hf;rw[jF (by simpa using hf),jF hf,e1,qA,e2]);·rw[jF wZ,jF k4,jF k5];unfold aDM;by_cases hf:kP (zK o.Key) s.aLV<0;(rw[Lg hf]at i1 i2 i3 i4 i5⊢;rw[jF wX,nD i1,qA,EG i1 wi h.o.2.2.2.2 (bV _),qA,DK h.s h.o.2.2.1 i3 i4 wi wi];cases (JO ⟨[]⟩ o.Field (i64.wrap ((eS ⟨[]⟩ o.Field).1+1))).2<;>rfl);·obtain⟨x,e1,e2⟩:=Ii hf;rw[jE wX,e1,qA,e2,nD i1,qA,EG i1 wi h.o.2.2.2.2 (bV _),qA,DK h.s h.o.2.2.1 i3 i4 wi wi];cases (JO (gP s o.Key) o.Field (i64.wrap ((eS (gP s o.Key) o.Field).1+1))).2<;>rfl
theorem Tx{s:M.aE}{o:M.gN}(h:Xg s o):∃x,FD s o.Key o.Field=some x/\x.2.2=(aDM s o).2.2/\(x.2.2=true->x=aDM s o):=by have j:=h.z;obtain⟨i1,i2,i3,i4⟩:=OM h;have i5:=IE i4;unfold FD aDM;rw[BW h.s,qA];by_cases hf:kP (zK o.Key) s.aLV<0;(rw[Lg hf]at i1 i2 i3 i4 i5⊢;rw[jF wX,uH i1,qA,CR i1 wi h.o.2.2.2.2 (bV _),qA,Cw h.s h.o.2.2.1 i3 i4 wi wi,qA];cases (JO ⟨[]⟩ o.Field (i64.wrap ((eS ⟨[]⟩ o.Field).1+1))).2;(exact⟨_,rfl,rfl,λe=>by cases e⟩);·exact⟨_,rfl,rfl,λ_=>rfl⟩);·obtain⟨x,e1,e2⟩:=Ii hf;rw[jE wX,e1,qA,e2,uH i1,qA,CR i1 wi h.o.2.2.2.2 (bV _),qA,Cw h.s h.o.2.2.1 i3 i4 wi wi,qA];cases (JO (gP s o.Key) o.Field (i64.wrap ((eS (gP s o.Key) o.Field).1+1))).2;(exact⟨_,rfl,rfl,λe=>by cases e⟩);·exact⟨_,rfl,rfl,λ_=>rfl⟩
theorem PH{s:M.aE}{o:M.gN}(h:Xg s o):∃x,DN s o=some x/\x.2.2=(nOn s o).2.2/\(x.2.2=true->x=nOn s o):=by
 have C:=h.z
 have j:=h.r
 have same:∀{m:Option (M.aE×Int×Bool)} {y:M.aE×Int×Bool},m=some y->∃x,m=some x/\x.2.2=y.2.2/\(x.2.2=true->x=y):=λe=>⟨_,e,rfl,λ_=>rfl⟩
 unfold DN nOn
 rw[BW h.s,qA,rF s wi,Cw h.s h.o.2.2.1 h.o.2.2.2.1 (CV h.n).2.2.2.2 wi wi,Kq h.s h.o.2.2.1 h.o.2.2.2.1 (CV h.n).2.2.2.2 wi wi,Hd h.s h.o.2.2.1 h.o.2.2.1 wi,Hd (g:=⟨false,false,⟨0,0,⟨#[]⟩⟩,⟨0,0,⟨#[]⟩⟩⟩) h.s OO OO wi]
 by_cases k1:o.aLn=1
 ·rw[jE (by simpa using k1),jE k1];exact same rfl
 rw[jF wZ,jF k1]
 by_cases k2:o.aLn=2
 ·rw[jE (by simpa using k2),jE k2];exact same rfl
 rw[jF wZ,jF k2]
 by_cases k3:o.aLn=3
 ·rw[jE (by simpa using k3),jE k3];exact same rfl
 rw[jF wZ,jF k3]
 by_cases k4:o.aLn=4
 ·rw[jE wZ,jE k4];by_cases hf:kP (zK o.Key) s.aLV<0;(rw[jE (by simpa using hf),jE hf];exact same rfl);·obtain⟨x,e1,e2⟩:=Ii hf;rw[jF (by simpa using hf),jF hf,qA,e1,qA,e2];exact same rfl
 rw[jF wZ,jF k4]
 by_cases k5:o.aLn=5
 ·rw[jE wZ,jE k5];exact same rfl
 ·obtain⟨x,e1,e2,e3⟩:=Tx h;grind
theorem Pp{s:M.aE}{k:M.bD}{r:M.aF}(J:s.ok)(U:kB s=true)(hk:k.ok)(I:r.ok)(C:cT r=true):(EX s k r).1.ok/\M.aE.sz (EX s k r).1<=10000:=by
 have j:=uZ U
 refine⟨Ra J (by simp only[M.aE.sz]at j;omega) hk I,?_⟩
 cases e:(EX s k r).2 with
 |true=>exact uZ (Hv C e)
 |false=>rw[M5 e];exact j
theorem UM{s:M.aE}{o:M.gN}(h:Xg s o):(nOn s o).1.ok/\M.aE.sz (nOn s o).1<=10000:=by
 have j:=h.z
 have C:=(CV h.n).2.2.2.2
 obtain⟨i1,i2,i3,i4⟩:=OM h
 have I:∀g,(ML s g).1.ok/\M.aE.sz (ML s g).1<=10000:=λg=>⟨(Vg h.s).1,qh (Vg h.s).2 j⟩
 unfold nOn aDM QT
 split
 ·exact Pp h.s h.t h.o.2.2.1 h.o.2.2.2.1 C
 split
 ·split;(exact Pp h.s h.t h.o.2.2.1 h.o.2.2.2.1 C);·exact⟨h.s,j⟩
 split
 ·exact I _
 split
 ·split<;>exact⟨h.s,j⟩
 split
 ·exact I _
 split
 ·exact Pp h.s h.t h.o.2.2.1 i3 i4
 ·exact⟨h.s,j⟩
theorem LR{d:M.aLS}(h:nDb d=true):(∀(k:Nat) (hk:k<d.aLc.length),kB d.aLc[k]=true)/\d.Name.size<=8/\d.aLc.length<=4/\d.aLm.length<=4/\∀u∈d.aLm,u.Field.size<=8:=by unfold nDb at h;simp only[qM,qL,qR,qS]at h;obtain⟨h1,h2,h3,_,h5,h6⟩:=h;refine⟨λk hk=> ?_,?_,h5,h6,λu j=> ?_⟩;(have:=h1 k hk;unfold Il at this;simp_all);(unfold pS inR at h3;grind);·obtain⟨k,hk,rfl⟩:=List.getElem_of_mem j;have:=h2 k hk;unfold I8 pS inR at this;grind
def Sq(d:M.aLS)(j:Nat)(s:M.aE):M.aLS:=⟨d.Name,d.aLT,d.aLc.set j s,d.aLm⟩
def Sx(d:M.aLS)(o:M.gN)(j:Nat)(s:M.aE):M.aLS×Int×Bool:=if(nOn s o).2.2=true then if nDb (Sq d j (nOn s o).1)=true then(Sq d j (nOn s o).1,(nOn s o).2.1,true)else(d,0,false)else(d,0,false)
def Ue(d:M.aLS)(o:M.gN):M.aLS×Int×Bool:=if(nDb d&&nOp o)=true then(match d.aLc[(kP (C6 o.aE) d.aLc).toNat]? with
 |some s=>if kP (C6 o.aE) d.aLc<0 then(d,0,false)else Sx d o (kP (C6 o.aE) d.aLc).toNat s
 |none=>(d,0,false))else(d,0,false)
theorem Rd{d:M.aLS}{s:M.aE}{j:Nat}(C:d.ok)(I:s.ok):(Sq d j s).ok:=⟨C.Name,C.aLT,⟨by show(d.aLc.set j s).length<=_;rw[qN];exact C.aLc.1,λy J=>by rcases jD J with h|rfl;(exact C.aLc.2 y h);·exact I⟩,C.aLm⟩
theorem VO{d:M.aLS}{s:M.aE}{j:Nat}(C:M.aLS.sz d<=1000000)(I:M.aE.sz s<=10000):M.aLS.sz (Sq d j s)<=1500000:=by have:=JQ (f:=M.aE.sz) (x:=s) (l:=d.aLc) (i:=j);simp only[Sq,M.aLS.sz,qN]at C⊢;omega
theorem SQ{d:M.aLS}{o:M.gN}(I:d.ok)(U:Kn o)(hz:M.aLS.sz d<=1000000):Ef d o=some (Ue d o):=by
 unfold Ef Ue
 rw[Du d wi,qA,D4 I,qA,yM I wi,qA,Oj U,qA]
 cases hD:nDb d with
 |false=>rfl
 |true=>
  cases hO:nOp o with
  |false=>rfl
  |true=>
   by_cases hf:kP (C6 o.aE) d.aLc<0
   ·grind
   ·obtain⟨j,e,J⟩:=dM hf
    have ht:=(LR hD).1 j J
    have hs:=I.aLc.2 _ (qG J)
    have C:Xg d.aLc[j] o:=⟨hs,U,hO,ht⟩
    obtain⟨v1,v2⟩:=UM C
    rw[jF wZ,e,qH,qF J]
    simp only[show ¬(j)<0 from by omega]
    rw[aM J,qA]
    unfold Sx
    obtain⟨x,e1,e2,e3⟩:=PH C
    rw[e1,qA,qA,<-e2]
    cases hx:x.2.2 with
    |false=>rfl
    |true=>
     have:=yM (Rd (j:=j) I v1) (VO hz v2)
     unfold Sq at this⊢
     grind
theorem Sk{d:M.aLS}{o:M.gN}(I:d.ok)(U:Kn o)(hz:M.aLS.sz d<=1000000):Eg d o=some (Ue d o):=by
 unfold Eg Ue
 rw[yX d wi,qA,FP I,qA,Di I wi,qA,OK U,qA]
 cases hD:nDb d with
 |false=>rfl
 |true=>
  cases hO:nOp o with
  |false=>rfl
  |true=>
   by_cases hf:kP (C6 o.aE) d.aLc<0
   ·grind
   ·obtain⟨j,e,J⟩:=dM hf
    have ht:=(LR hD).1 j J
    have hs:=I.aLc.2 _ (qG J)
    have C:Xg d.aLc[j] o:=⟨hs,U,hO,ht⟩
    obtain⟨v1,v2⟩:=UM C
    rw[jF wZ,e,qH,qF J]
    simp only[show ¬(j)<0 from by omega]
    rw[aM J,qA]
    unfold Sx
    rw[TV C,qA]
    cases hx:(nOn d.aLc[j] o).2.2 with
    |false=>rfl
    |true=>
     have:=Di (Rd (j:=j) I v1) (VO hz v2)
     unfold Sq at this⊢
     grind
theorem RB{d:M.aLS}{o:M.gN}(C:d.ok)(U:Kn o)(hz:M.aLS.sz d<=1000000):(Ue d o).1.ok/\M.aLS.sz (Ue d o).1<=M.aLS.sz d+10000:=by unfold Ue;split;(rename_i h;rw[qM]at h;by_cases hf:kP (C6 o.aE) d.aLc<0;(split;(rw[jE hf];exact⟨C,wI⟩);·exact⟨C,wI⟩);·obtain⟨j,e,I⟩:=dM hf;have J:Xg d.aLc[j] o:=⟨C.aLc.2 _ (qG I),U,h.2,(LR h.1).1 j I⟩;obtain⟨v1,v2⟩:=UM J;rw[e,qH,qF I];simp only[show ¬(j:Int)<0 from by omega,jG];unfold Sx;split;(split;(refine⟨Rd C v1,?_⟩;have:=JQ (f:=M.aE.sz) (x:=(nOn d.aLc[j] o).1) (l:=d.aLc) (i:=j);simp only[Sq,M.aLS.sz,qN];omega);·exact⟨C,wI⟩);·exact⟨C,wI⟩);simp_all
