/-
  Helper text. No conditions.
-/
import Derived.Test.YtjlnkcoeghonfaaGreatRunPagePr
set_option linter.all false
namespace Go.Proofs.YtjlnkcoeghonfaaGreat.gen
open Go Go.Sh
theorem Xr{k r n m:Int}{t:ByteArray}(j:t.size<=maxLen)(h:Om (⟨k,r,n,t⟩:M.Instr) m=true):inR k 1 9=true/\inR r 0 3=true/\(k=2->inR n 0 3=true)/\(k=5\/k=6\/k=7\/k=8->t.size<=8):=by
 unfold Om rQ at h
 simp only[bR,cT j,qA]at h
 cases hk:inR k 1 9 with
 |false=>
  rw[hk]at h
  exact absurd h jF
 |true=>
  rw[hk]at h
  cases hr:inR r 0 3 with
  |false=>
   rw[hr]at h
   exact absurd h jF
  |true=>
   rw[hr]at h
   refine⟨rfl,rfl,λh2=> ?_,λh2=> ?_⟩
   ·subst h2;simp+decide only[if_true,if_false,qA,aAO,qB]at h;revert h;cases inR n 0 3<;>cases (t.toList==(⟨#[]⟩:ByteArray).toList)<;>simp
   ·cases j:mN t with
    |true=>
     unfold mN inR at j
     simp only[qM,qL]at j
     omega
    |false=>
     rw[j]at h
     rcases h2 with rfl|rfl|rfl|rfl<;>exact absurd h (by simp+decide [aAO])
def Y9(v:Int):Int:=if(if v<1000 then v else 1000)>(-1)then if v<1000 then v else 1000 else -1
theorem Z5(v:Int): -1<=Y9 v/\Y9 v<=1000:=by unfold Y9;split<;>split at* <;>omega
theorem Oj(v:Int):yE v=some (Y9 v):=rfl
theorem MD(v:Int):rE v=some (Y9 v):=by unfold rE FL uO Y9;by_cases h:v<1000;(simp only[h,decide_true,if_true,qA];by_cases h2:v> -1;(simp only[h2,decide_true,if_true,qA]);·simp only[h2,decide_false,qD,if_false,qA]);·simp only[h,decide_false,qD,if_false,qA];rfl
def W6(m:M.aJn)(R:M.aJn×M.Ask):Prop:=R.1.aKD=m.aKD/\R.1.aKQ.length=m.aKQ.length/\(∀y∈R.1.aKQ,inI y)/\inI R.1.Pc/\inI R.1.aKW/\(0<=R.2.aJz/\R.2.aJz<=4)/\inI R.2.N/\inI R.2.Value/\R.2.aKA.size<=8/\(R.2.aJz=0->cY R.1=some (R.1,(⟨0,0,0,(⟨#[]⟩:ByteArray),0⟩:M.Ask)))
theorem Wz{r:List Int}{v:Int}{j:Nat}(C:∀y∈r,inI y)(I:inI v):∀y∈r.set j v,inI y:=λy J=>by rcases jC J with h|rfl;(exact C y h);·exact I
theorem WE{n m:Int}(h:inR n 0 m=true):∃j:Nat,n=(j:Int)/\(j:Int)<=m:=by unfold inR at h;simp only[qM,qL]at h;obtain⟨j,rfl⟩:=Int.eq_ofNat_of_zero_le h.1;exact⟨j,rfl,h.2⟩
theorem aAE{m:M.aJn}(j:m.aKb=true)(hz:M.aJn.sz m<=1073741824):cY m=some (m,(⟨0,0,0,(⟨#[]⟩:ByteArray),0⟩:M.Ask)):=by unfold cY;rw[uT m hz,qA,if_pos j]
theorem W3{m:M.aJn}(hm:m.ok)(hz:M.aJn.sz m<=1500000)(h4:m.aKQ.length=4)(hwt:m.aKY=false):∀(n:Nat) (U st:Int) (r:List Int),(60-st).toNat<n->0<=st->inI st->inI U->r.length=4->(∀y∈r,inI y)->∃R,dU m n U st r=some R/\dB m n U st r=some R/\W6 m R
 |0,_,_,_,h,_,_,_,_,_=>absurd h (Nat.not_lt_zero _)
 |n+1,U,st,r,hn,h0,hs,hp,hl,hr=>by
  have hz':=hz
  simp only[M.aJn.sz]at hz'
  have good:∀(p s:Int) (b c:Bool) (a:M.Ask),inI p->inI s->(1<=a.aJz/\a.aJz<=4)->inI a.N->inI a.Value->a.aKA.size<=8->W6 m ((⟨m.aKD,p,r,s,b,c⟩:M.aJn),a):=λp s b c a k1 k2 k3 k4 k5 k6=>⟨rfl,by rw[h4];exact hl,hr,k1,k2,⟨by have:=k3.1;show 0<=a.aJz;omega,k3.2⟩,k4,k5,k6,λh=>absurd (show a.aJz=0 from h) (by have:=k3.1;omega)⟩
  have stop:∀(p s:Int) (c:Bool),inI p->inI s->W6 m ((⟨m.aKD,p,r,s,true,c⟩:M.aJn),(⟨0,0,0,(⟨#[]⟩:ByteArray),0⟩:M.Ask)):=λp s c k1 k2=>⟨rfl,by rw[h4];exact hl,hr,k1,k2,⟨Int.le_refl _,by show(0:Int)<=4;omega⟩,Qv,Qv,Nat.zero_le _,λ_=>aAE rfl (by simp only[M.aJn.sz];omega)⟩
  have el:IntKind.i64.wrap ((List.length m.aKD:Int)-1)=(List.length m.aKD:Int)-1:=bI jD jD
  simp only[dU,dB,cG,qA,el,hwt]
  by_cases h1:U<0
  ·have e:inR U 0 ((List.length m.aKD:Int)-1)=false:=by unfold inR;simp;omega
   rw[e,if_pos (show(!false)=true from rfl),if_pos (by simpa using h1)]
   exact⟨_,rfl,rfl,stop _ _ _ hp hs⟩
  ·by_cases h2:U>=(List.length m.aKD:Int)
   ·have e:inR U 0 ((List.length m.aKD:Int)-1)=false:=by unfold inR;simp;omega
    rw[e,if_pos (show(!false)=true from rfl),if_neg (by simpa using h1),if_pos (by simpa using h2)]
    exact⟨_,rfl,rfl,stop _ _ _ hp hs⟩
   ·have e:inR U 0 ((List.length m.aKD:Int)-1)=true:=by unfold inR;simp;omega
    obtain⟨k,rfl⟩:=Int.eq_ofNat_of_zero_le (show 0<=U by omega)
    have hk:k<m.aKD.length:=by omega
    have hx:=hm.aKD.2 _ (qG hk)
    rw[e,if_neg jF,if_neg (by simpa using h1),if_neg (by simpa using h2),aH hk]
    simp only[qA]
    generalize m.aKD[k]=x at hx
    rw[Oo hx,OC hx]
    simp only[qA]
    cases hi:Om x (List.length m.aKD:Int)with
    |false=>exact⟨_,rfl,rfl,stop _ _ _ hp hs⟩
    |true=>
     simp only[qB,qD,if_false]
     by_cases h6:st>=60
     ·simp only[h6,decide_true,if_true];exact⟨_,rfl,rfl,stop _ _ _ hp hs⟩
     ·simp only[h6,decide_false,qD,if_false]
      have ew:IntKind.i64.wrap (st+1)=st+1:=bI jD jD
      rw[ew]
      obtain⟨kd,rr,nn,tt⟩:=x
      obtain⟨q1,q2,q3,q6⟩:=Xr hx.aKA hi
      have q4:inI nn:=hx.N
      clear hi hx
      have J:inI (st+1):=by unfold inI;omega
      have C:=Gx ((k:Int)+1)
      have IH:=λ(pc':Int) (r':List Int) (a:inI pc') (b:r'.length=4) (c:∀y∈r',inI y)=>W3 hm hz h4 hwt n pc' (st+1) r' jD jD J a b c
      obtain⟨j,rfl,hj⟩:=WE q2
      have I:j<r.length:=by omega
      have ij:=hr _ (qG I)
      rcases Pg q1 with rfl|rfl|rfl|rfl|rfl|rfl|rfl|rfl|rfl
      ·simp+decide only[if_true,if_false];rw[aH I];simp only[qA,qH];exact IH _ _ C (by rw[qN];exact hl) (Wz hr q4)
      ·obtain⟨i,rfl,hi⟩:=WE (q3 rfl)
       have hi':i<r.length:=by omega
       simp+decide only[if_true,if_false]
       rw[aH I,aH hi']
       simp only[qA,MD,Oj,qH]
       refine IH _ _ C (by rw[qN];exact hl) (Wz hr ?_)
       have:=Z5 (IntKind.i64.wrap (Y9 r[j]+Y9 r[i]))
       unfold inI
       omega
      ·simp+decide only[if_true,if_false];rw[aH I];simp only[qA];by_cases hb:(r[j]==0)=true;(rw[if_pos hb,if_pos hb];exact IH _ _ q4 hl hr);·rw[if_neg hb,if_neg hb];exact IH _ _ C hl hr
      ·simp+decide only[if_true,if_false];exact IH _ _ q4 hl hr
      ·simp+decide only[if_true,if_false,vN,qA];exact⟨_,rfl,rfl,good _ _ _ _ _ C J (by show(1:Int)<=1/\(1:Int)<=4;omega) Qv Qv (q6 jD)⟩
      ·simp+decide only[if_true,if_false,vN,qA];exact⟨_,rfl,rfl,good _ _ _ _ _ C J (by show(1:Int)<=2/\(2:Int)<=4;omega) q4 Qv (q6 jD)⟩
      ·simp+decide only[if_true,if_false,vN];rw[aH I];exact⟨_,rfl,rfl,good _ _ _ _ _ C J (by show(1:Int)<=3/\(3:Int)<=4;omega) q4 ij (q6 jD)⟩
      ·simp+decide only[if_true,if_false,vN];rw[aH I];exact⟨_,rfl,rfl,good _ _ _ _ _ C J (by show(1:Int)<=4/\(4:Int)<=4;omega) q4 ij (q6 jD)⟩
      ·simp+decide only[if_true,if_false];exact⟨_,rfl,rfl,stop _ _ _ C J⟩
theorem Qh{m:M.aJn}(h:m.aKb=true\/m.aKY=true \/¬m.aKQ.length=4\/m.aKW<0)(hz:M.aJn.sz m<=1073741824):cY m=some (m,(⟨0,0,0,(⟨#[]⟩:ByteArray),0⟩:M.Ask)):=by unfold cY;rw[uT m hz,qA];by_cases hd:m.aKb=true;(rw[if_pos hd]);·rw[if_neg hd];by_cases hw:m.aKY=true;(rw[if_pos hw]);·rw[if_neg hw];by_cases h4:m.aKQ.length=4;(rw[if_neg (by simp[h4]),if_pos (by rcases h with h|h|h|h;(exact absurd h hd);(exact absurd h hw);(exact absurd h4 h);·simpa using h)]);·rw[if_pos jE]
theorem QM{m:M.aJn}(j:m.ok)(hz:M.aJn.sz m<=1500000):∃R,yO m=some R/\cY m=some R/\W6 m R:=by
 have C:=hz
 simp only[M.aJn.sz]at C
 unfold yO cY
 rw[GI m jD,uT m jD]
 simp only[qA]
 have same:cY m=some (m,(⟨0,0,0,(⟨#[]⟩:ByteArray),0⟩:M.Ask))->W6 m (m,(⟨0,0,0,(⟨#[]⟩:ByteArray),0⟩:M.Ask)):=λh=>⟨rfl,rfl,j.aKQ.2,j.Pc,j.aKW,⟨Int.le_refl _,by show(0:Int)<=4;omega⟩,Qv,Qv,Nat.zero_le _,λ_=>h⟩
 by_cases hd:m.aKb=true
 ·rw[if_pos hd,if_pos hd];exact⟨_,rfl,rfl,same (Qh (.inl hd) jD)⟩
 ·rw[if_neg hd,if_neg hd]
  by_cases hw:m.aKY=true
  ·rw[if_pos hw,if_pos hw];exact⟨_,rfl,rfl,same (Qh (.inr (.inl hw)) jD)⟩
  ·rw[if_neg hw,if_neg hw]
   by_cases h4:m.aKQ.length=4
   ·have e4:((List.length m.aKQ:Int) !=4)=false:=by simp[h4]
    simp only[e4,qD,if_false]
    by_cases hs:m.aKW<0
    ·simp only[hs,decide_true,if_true];exact⟨_,rfl,rfl,same (Qh (.inr (.inr (.inr hs))) jD)⟩
    ·simp only[hs,decide_false,qD,if_false];exact W3 j jD h4 (by simpa using hw) fuel m.Pc m.aKW m.aKQ jI jD j.aKW j.Pc h4 j.aKQ.2
   ·have e:((List.length m.aKQ:Int) !=4)=true:=by simp;omega
    rw[if_pos e,if_pos e]
    exact⟨_,rfl,rfl,same (Qh (.inr (.inr (.inl h4))) jD)⟩
theorem Iq{m:M.aJn}(C:m.ok)(hz:M.aJn.sz m<=1500000)(r n:Int):∃R,mU m r n=some R/\nD m r n=some R/\R.1.ok/\M.aJn.sz R.1=M.aJn.sz m:=by
 have J:=hz
 simp only[M.aJn.sz]at J
 unfold mU nD
 rw[GI m jD,uT m jD]
 have el:IntKind.i64.wrap ((List.length m.aKQ:Int)-1)=(List.length m.aKQ:Int)-1:=bI jD jD
 simp only[qA,cG,bR,el]
 by_cases hw:(!m.aKY)=true
 ·rw[if_pos hw,if_pos hw];exact⟨_,rfl,rfl,C,rfl⟩
 ·rw[if_neg hw,if_neg hw]
  by_cases h1:r<0
  ·have e:inR r 0 ((List.length m.aKQ:Int)-1)=false:=by unfold inR;simp;omega
   simp only[e,h1,decide_true,qC,if_true]
   exact⟨_,rfl,rfl,C,rfl⟩
  ·by_cases h2:r>=(List.length m.aKQ:Int)
   ·have e:inR r 0 ((List.length m.aKQ:Int)-1)=false:=by unfold inR;simp;omega
    simp only[e,h1,h2,decide_true,decide_false,qC,qD,if_true,if_false]
    exact⟨_,rfl,rfl,C,rfl⟩
   ·have e:inR r 0 ((List.length m.aKQ:Int)-1)=true:=by unfold inR;simp;omega
    simp only[e,h1,h2,decide_false,qB,qD,if_false]
    obtain⟨j,rfl⟩:=Int.eq_ofNat_of_zero_le (show 0<=r by omega)
    have U:j<m.aKQ.length:=by omega
    rw[aH U]
    by_cases I:inR n (-1) 1000=true
    ·simp only[I,qB,qD,if_false,qA,qH]
     have hn:inI n:=by unfold inR at I;simp only[qM,qL]at I;unfold inI;omega
     exact⟨_,rfl,rfl,⟨C.aKD,C.Pc,⟨by rw[qN];exact C.aKQ.1,Wz C.aKQ.2 hn⟩,C.aKW⟩,by simp only[M.aJn.sz,qN]⟩
    ·have I:inR n (-1) 1000=false:=by simpa using I
     simp only[I,qC,if_true]
     exact⟨_,rfl,rfl,C,rfl⟩
theorem Uc(p:M.bD)(m:M.aJn)(f:ByteArray)(x:M.aJo):HM (⟨p.Id,p.aJr,p.Top,p.aJl,p.aJ,m⟩:M.bD) f x=((⟨(HM p f x).1.Id,(HM p f x).1.aJr,(HM p f x).1.Top,(HM p f x).1.aJl,(HM p f x).1.aJ,m⟩:M.bD),(HM p f x).2):=by unfold HM HR;dsimp only;rw[show GO (⟨p.Id,p.aJr,p.Top,p.aJl,p.aJ,m⟩:M.bD)=GO p from rfl,show GO (⟨p.Id,p.aJr,p.Top,p.aJl,p.aJ++[(⟨f,x.aJl⟩:M.aJ)],m⟩:M.bD)=GO (⟨p.Id,p.aJr,p.Top,p.aJl,p.aJ++[(⟨f,x.aJl⟩:M.aJ)],p.aJn⟩:M.bD)from rfl];cases (x.aKS !=200)<;>cases (x.aJl !=p.aJl)<;>cases GO p<;>cases GO (⟨p.Id,p.aJr,p.Top,p.aJl,p.aJ++[(⟨f,x.aJl⟩:M.aJ)],p.aJn⟩:M.bD)<;>rfl
theorem Na(v:Int):uO 0 v=some (if v>0 then v else 0):=by unfold uO;by_cases h:v>0;(simp only[h,decide_true,if_true]);·simp only[h,decide_false,qD,if_false]
theorem ZQ(p:M.bD)(f:ByteArray)(x:M.aJo):(HM p f x).1.aJn=p.aJn:=by unfold HM HR;split;(rfl);·split;(rfl);·split;(split<;>rfl);·rfl
theorem ZV{w:M.World}{i:Int}(C:w.ok)(hz:M.World.sz w<=1500000):∃R:M.World×Int,Bh w i=some R/\hJ w i=some R/\R.1.ok/\M.World.sz R.1<=M.World.sz w+6000/\(R.2<=0->R.1=w \/∃(k:Nat) (p:M.bD),Sl R.1 i=(k:Int)/\R.1.aJ2[k]? =some p/\cY p.aJn=some (p.aJn,(⟨0,0,0,(⟨#[]⟩:ByteArray),0⟩:M.Ask))/\M.World.sz R.1<=M.World.sz w):=by
 have hz':=hz
 simp only[M.World.sz]at hz'
 unfold Bh hJ
 rw[CL w jD,uL w jD,qA,qA,Mm C,E4 C,qA,qA,Oz C hz,GP C hz,qA,qA]
 cases hn:HZ w with
 |false=>exact⟨(w,-1),jF,jF,C,Nat.le_add_right _ _,λ_=>.inl rfl⟩
 |true=>
  simp only[qB,qD,if_false]
  by_cases h:Sl w i<0
  ·simp only[h,decide_true,if_true];exact⟨(w,-1),rfl,rfl,C,Nat.le_add_right _ _,λ_=>.inl rfl⟩
  ·obtain⟨k,e,hk⟩:=eN (show ¬mF (λp:M.bD=>p.Id==i) w.aJ2<0 from h)
   simp only[h,decide_false,qD,if_false]
   have hy:=dW (f:=M.bD.sz) (qG hk)
   have U:=C.aJ2.2 _ (qG hk)
   rw[show Sl w i=(k:Int)from e]
   obtain⟨p,hp0⟩:∃p,w.aJ2[k]=p:=⟨_,rfl⟩
   have hix:∀v:M.World,v.aJ2=w.aJ2->idx v.aJ2 (k:Int)=some p:=λv j=>by rw[j,aH hk,hp0]
   have nM:∀q:M.bD,bA M.bD.sz (w.aJ2.set k q)+M.bD.sz p=bA M.bD.sz w.aJ2+M.bD.sz q:=λq=>by have:=Lp (f:=M.bD.sz) (x:=q) hk;rw[hp0]at this;exact this
   obtain⟨_,hid⟩:=Ez e
   rw[hp0]at hy U hid
   rw[hix w rfl]
   simp only[qA,qH]
   have zl:p.aJ.length<=M.bD.sz p:=by simp only[M.bD.sz];omega
   have zm:M.aJn.sz p.aJn<=M.bD.sz p:=by simp only[M.bD.sz];omega
   obtain⟨⟨m,a⟩,r1,r2,g1,g2,g3,g4,g5,g6,g7,g8,g9,aa⟩:=QM U.aJn jD
   dsimp only at g1 g2 g3 g4 g5 g6 g7 g8 g9 aa
   rw[GL p jD,D0 p jD,r1]
   simp only[qA]
   rw[r2]
   simp only[qA]
   have hfm:a.aKA.size<=maxLen:=by unfold maxLen;omega
   have em:M.aJn.sz m=M.aJn.sz p.aJn:=by simp only[M.aJn.sz];rw[g1,g2]
   have I:M.aJn.ok m:=⟨by rw[g1];exact U.aJn.aKD,g4,⟨by rw[g2];exact U.aJn.aKQ.1,g3⟩,g5⟩
   have J:∀(q:M.bD) (o:M.aJn),q.ok->o.ok->M.bD.ok (⟨q.Id,q.aJr,q.Top,q.aJl,q.aJ,o⟩:M.bD):=λq o hq ho=>⟨hq.Id,hq.aJr,hq.Top,hq.aJl,hq.aJ,ho⟩
   have psz:∀(q:M.bD) (o:M.aJn),M.bD.sz (⟨q.Id,q.aJr,q.Top,q.aJl,q.aJ,o⟩:M.bD)+M.aJn.sz q.aJn=M.bD.sz q+M.aJn.sz o:=λq o=>by simp only[M.bD.sz];omega
   have fin:∀(v:M.World) (q:M.bD) (c:Nat),v.ok->M.World.sz v<=M.World.sz w+c->v.aJ2=w.aJ2->q.ok->M.bD.sz q<=M.bD.sz p+20->M.World.ok (⟨v.Now,v.aKF,v.aJy,v.aA,List.set v.aJ2 k q,v.aJ4,v.aJ3,v.aJu,v.aKE,v.aJ6⟩:M.World)/\M.World.sz (⟨v.Now,v.aKF,v.aJy,v.aA,List.set v.aJ2 k q,v.aJ4,v.aJ3,v.aJu,v.aKE,v.aJ6⟩:M.World)+M.bD.sz p<=M.World.sz w+c+M.bD.sz q:=λv q c j zv hvp hq zq=>by
    have hs:=nM q
    rw[<-hvp]at hs
    refine⟨⟨j.Now,j.aJy,j.aA,⟨by rw[qN];exact j.aJ2.1,λy hy=> ?_⟩,j.aJ4,j.aJ3,j.aJu,j.aKE,j.aJ6⟩,?_⟩
    ·rcases jC hy with hy|rfl;(exact j.aJ2.2 _ hy);·exact hq
    ·have zv':=zv
     rw[show M.World.sz v=(M.World.sz v-bA M.bD.sz v.aJ2)+bA M.bD.sz v.aJ2 by simp only[M.World.sz];omega]at zv'
     have hs2:M.World.sz (⟨v.Now,v.aKF,v.aJy,v.aA,List.set v.aJ2 k q,v.aJ4,v.aJ3,v.aJu,v.aKE,v.aJ6⟩:M.World)+bA M.bD.sz v.aJ2=M.World.sz v+bA M.bD.sz (v.aJ2.set k q):=by simp only[M.World.sz,qN];omega
     omega
   by_cases k1:(a.aJz==1)=true
   ·rw[if_pos k1,if_pos k1];obtain⟨x,e1,e2,e3⟩:=Yy (f:=a.aKA) C U hn hz jD;have e1':tW w (⟨p.Id,p.aJr,p.Top,p.aJl,p.aJ,m⟩:M.bD) a.aKA=some x:=e1;rw[e1',e2];simp only[qA];have zq:=psz p m;rw[Oi (J p m U I) (by show p.aJ.length<=_;omega) jD hfm e3.aJl,N4 U jD jD hfm e3.aJl,Uc];simp only[qA];have lok:=Ys (x:=x) U jD hfm e3.aJl;have lsz:=X7 p a.aKA x;have lm:=ZQ p a.aKA x;generalize (HM p a.aKA x).1=L at lok lsz lm;obtain⟨T,t1,t2,t3,t4⟩:=Iq I jD a.R x.aKS;rw[t1,t2];simp only[qA];have f1:=psz L T.1;rw[lm]at f1;obtain⟨f2,f3⟩:=fin w _ 0 C (Nat.le_add_right _ _) rfl (J L T.1 lok t3) jD;exact⟨_,rfl,rfl,f2,by dsimp only;omega,λh=>absurd (show a.aJz<=0 from h) (by have:=eq_of_beq k1;omega)⟩
   ·rw[if_neg k1,if_neg k1]
    by_cases k2:(a.aJz==2)=true
    ·rw[if_pos k2,if_pos k2];have e1:xG w (⟨p.Id,p.aJr,p.Top,p.aJl,p.aJ,m⟩:M.bD) a.N a.aKA=some (UB w p a.N a.aKA):=NJ (p:=p) C hz;rw[e1,NT C hz];simp only[qA];obtain⟨T,t1,t2,t3,t4⟩:=Iq I jD a.R (UB w p a.N a.aKA);rw[t1,t2];simp only[qA];have f1:=psz p T.1;obtain⟨f2,f3⟩:=fin w _ 0 C (Nat.le_add_right _ _) rfl (J p T.1 U t3) jD;exact⟨_,rfl,rfl,f2,by dsimp only;omega,λh=>absurd (show a.aJz<=0 from h) (by have:=eq_of_beq k2;omega)⟩
    ·rw[if_neg k2,if_neg k2]
     have j:inI (if a.Value>0 then a.Value else 0):=by split;(exact g8);·exact Qv
     have f1:=psz p m
     by_cases k3:(a.aJz==3)=true
     ·rw[if_pos k3,if_pos k3,Na,qA];obtain⟨T,t1,t2,t3,t4,t5⟩:=SI (p:=p) (n:=a.N) (f:=a.aKA) C g7 j jD hz;have t1':tL w (⟨p.Id,p.aJr,p.Top,p.aJl,p.aJ,m⟩:M.bD) a.N a.aKA (if a.Value>0 then a.Value else 0)=some T:=t1;rw[t1',t2];simp only[qA];rw[hix T.1 t5];simp only[qA];obtain⟨f2,f3⟩:=fin T.1 _ 4000 t3 t4 t5 (J p m U I) jD;exact⟨_,rfl,rfl,f2,by dsimp only;omega,λh=>absurd (show a.aJz<=0 from h) (by have:=eq_of_beq k3;omega)⟩
     ·rw[if_neg k3,if_neg k3]
      by_cases k4:(a.aJz==4)=true
      ·rw[if_pos k4,if_pos k4,Na,qA];obtain⟨T,t1,t2,t3,t4,t5⟩:=UN (p:=p) (n:=a.N) (f:=a.aKA) C g7 j jD hz;have t1':wR w (⟨p.Id,p.aJr,p.Top,p.aJl,p.aJ,m⟩:M.bD) a.N a.aKA (if a.Value>0 then a.Value else 0)=some T:=t1;rw[t1',t2];simp only[qA];rw[hix T.1 t5];simp only[qA];obtain⟨f2,f3⟩:=fin T.1 _ (a.aKA.size+1) t3 t4 t5 (J p m U I) jD;exact⟨_,rfl,rfl,f2,by dsimp only;omega,λh=>absurd (show a.aJz<=0 from h) (by have:=eq_of_beq k4;omega)⟩
      ·rw[if_neg k4,if_neg k4]
       obtain⟨f2,f3⟩:=fin w _ 0 C (Nat.le_add_right _ _) rfl (J p m U I) jD
       have k5:a.aJz=0:=by rw[beq_iff_eq]at k1 k2 k3 k4;omega
       have fx:=Xy (x:=(⟨p.Id,p.aJr,p.Top,p.aJl,p.aJ,m⟩:M.bD)) e hid
       exact⟨_,rfl,rfl,f2,by dsimp only;omega,λ_=>.inr ⟨k,_,fx.1,fx.2,aa k5,by dsimp only;omega⟩⟩
