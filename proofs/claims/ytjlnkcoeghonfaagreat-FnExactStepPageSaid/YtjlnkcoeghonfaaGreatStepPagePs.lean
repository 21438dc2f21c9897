/-
  Helper text. No conditions.
-/
import Derived.Test.YtjlnkcoeghonfaaGreatStepPagePr
set_option linter.all false
namespace Go.Proofs.YtjlnkcoeghonfaaGreat.gen
open Go Go.Sh
theorem Xl{k r n m:Int}{t:ByteArray}(j:t.size<=maxLen)(h:Oh (⟨k,r,n,t⟩:M.Instr) m=true):inR k 1 9=true/\inR r 0 3=true/\(k=2->inR n 0 3=true)/\(k=5\/k=6\/k=7\/k=8->t.size<=8):=by
 unfold Oh rM at h
 simp only[bR,cT j,qA]at h
 cases hk:inR k 1 9 with
 |false=>
  rw[hk]at h
  exact absurd h jF
 |true=>
  rw[hk]at h
  cases hr:inR r 0 3 with
  |false=>
   rw[hr]at h
   exact absurd h jF
  |true=>
   rw[hr]at h
   refine⟨rfl,rfl,λh2=> ?_,λh2=> ?_⟩
   ·subst h2;simp+decide only[if_true,if_false,qA,aAH,qB]at h;revert h;cases inR n 0 3<;>cases (t.toList==(⟨#[]⟩:ByteArray).toList)<;>simp
   ·cases j:mL t with
    |true=>
     unfold mL inR at j
     simp only[qM,qL]at j
     omega
    |false=>
     rw[j]at h
     rcases h2 with rfl|rfl|rfl|rfl<;>exact absurd h (by simp+decide [aAH])
def Y1(v:Int):Int:=if(if v<1000 then v else 1000)>(-1)then if v<1000 then v else 1000 else -1
theorem ZW(v:Int): -1<=Y1 v/\Y1 v<=1000:=by unfold Y1;split<;>split at* <;>omega
theorem Oe(v:Int):yC v=some (Y1 v):=rfl
theorem Mx(v:Int):pZ v=some (Y1 v):=by unfold pZ FF uM Y1;by_cases h:v<1000;(simp only[h,decide_true,if_true,qA];by_cases h2:v> -1;(simp only[h2,decide_true,if_true,qA]);·simp only[h2,decide_false,qD,if_false,qA]);·simp only[h,decide_false,qD,if_false,qA];rfl
def WY(m:M.aJf)(R:M.aJf×M.Ask):Prop:=R.1.aJ5=m.aJ5/\R.1.aKH.length=m.aKH.length/\(∀y∈R.1.aKH,inI y)/\inI R.1.Pc/\inI R.1.aKO/\(0<=R.2.aJr/\R.2.aJr<=4)/\inI R.2.N/\inI R.2.Value/\R.2.aJ2.size<=8/\(R.2.aJr=0->dZ R.1=some (R.1,(⟨0,0,0,(⟨#[]⟩:ByteArray),0⟩:M.Ask)))
theorem Wt{r:List Int}{v:Int}{j:Nat}(C:∀y∈r,inI y)(I:inI v):∀y∈r.set j v,inI y:=λy J=>by rcases jC J with h|rfl;(exact C y h);·exact I
theorem Wz{n m:Int}(h:inR n 0 m=true):∃j:Nat,n=(j:Int)/\(j:Int)<=m:=by unfold inR at h;simp only[qM,qL]at h;obtain⟨j,rfl⟩:=Int.eq_ofNat_of_zero_le h.1;exact⟨j,rfl,h.2⟩
theorem Z6{m:M.aJf}(j:m.aKT=true)(hz:M.aJf.sz m<=1073741824):dZ m=some (m,(⟨0,0,0,(⟨#[]⟩:ByteArray),0⟩:M.Ask)):=by unfold dZ;rw[uR m hz,qA,if_pos j]
theorem WV{m:M.aJf}(hm:m.ok)(hz:M.aJf.sz m<=1048576)(h4:m.aKH.length=4)(hwt:m.aKQ=false):∀(n:Nat) (U st:Int) (r:List Int),(60-st).toNat<n->0<=st->inI st->inI U->r.length=4->(∀y∈r,inI y)->∃R,dS m n U st r=some R/\dA m n U st r=some R/\WY m R
 |0,_,_,_,h,_,_,_,_,_=>absurd h (Nat.not_lt_zero _)
 |n+1,U,st,r,hn,h0,hs,hp,hl,hr=>by
  have hz':=hz
  simp only[M.aJf.sz]at hz'
  have good:∀(p s:Int) (b c:Bool) (a:M.Ask),inI p->inI s->(1<=a.aJr/\a.aJr<=4)->inI a.N->inI a.Value->a.aJ2.size<=8->WY m ((⟨m.aJ5,p,r,s,b,c⟩:M.aJf),a):=λp s b c a k1 k2 k3 k4 k5 k6=>⟨rfl,by rw[h4];exact hl,hr,k1,k2,⟨by have:=k3.1;show 0<=a.aJr;omega,k3.2⟩,k4,k5,k6,λh=>absurd (show a.aJr=0 from h) (by have:=k3.1;omega)⟩
  have stop:∀(p s:Int) (c:Bool),inI p->inI s->WY m ((⟨m.aJ5,p,r,s,true,c⟩:M.aJf),(⟨0,0,0,(⟨#[]⟩:ByteArray),0⟩:M.Ask)):=λp s c k1 k2=>⟨rfl,by rw[h4];exact hl,hr,k1,k2,⟨Int.le_refl _,by show(0:Int)<=4;omega⟩,Qr,Qr,Nat.zero_le _,λ_=>Z6 rfl (by simp only[M.aJf.sz];omega)⟩
  have el:IntKind.i64.wrap ((List.length m.aJ5:Int)-1)=(List.length m.aJ5:Int)-1:=bK jD jD
  simp only[dS,dA,cG,qA,el,hwt]
  by_cases h1:U<0
  ·have e:inR U 0 ((List.length m.aJ5:Int)-1)=false:=by unfold inR;simp;omega
   rw[e,if_pos (show(!false)=true from rfl),if_pos (by simpa using h1)]
   exact⟨_,rfl,rfl,stop _ _ _ hp hs⟩
  ·by_cases h2:U>=(List.length m.aJ5:Int)
   ·have e:inR U 0 ((List.length m.aJ5:Int)-1)=false:=by unfold inR;simp;omega
    rw[e,if_pos (show(!false)=true from rfl),if_neg (by simpa using h1),if_pos (by simpa using h2)]
    exact⟨_,rfl,rfl,stop _ _ _ hp hs⟩
   ·have e:inR U 0 ((List.length m.aJ5:Int)-1)=true:=by unfold inR;simp;omega
    obtain⟨k,rfl⟩:=Int.eq_ofNat_of_zero_le (show 0<=U by omega)
    have hk:k<m.aJ5.length:=by omega
    have hx:=hm.aJ5.2 _ (qG hk)
    rw[e,if_neg jF,if_neg (by simpa using h1),if_neg (by simpa using h2),aH hk]
    simp only[qA]
    generalize m.aJ5[k]=x at hx
    rw[Oj hx,Ox hx]
    simp only[qA]
    cases hi:Oh x (List.length m.aJ5:Int)with
    |false=>exact⟨_,rfl,rfl,stop _ _ _ hp hs⟩
    |true=>
     simp only[qB,qD,if_false]
     by_cases h6:st>=60
     ·simp only[h6,decide_true,if_true];exact⟨_,rfl,rfl,stop _ _ _ hp hs⟩
     ·simp only[h6,decide_false,qD,if_false]
      have ew:IntKind.i64.wrap (st+1)=st+1:=bK jD jD
      rw[ew]
      obtain⟨kd,rr,nn,tt⟩:=x
      obtain⟨q1,q2,q3,q6⟩:=Xl hx.aJ2 hi
      have q4:inI nn:=hx.N
      clear hi hx
      have J:inI (st+1):=by unfold inI;omega
      have C:=Gr ((k:Int)+1)
      have IH:=λ(pc':Int) (r':List Int) (a:inI pc') (b:r'.length=4) (c:∀y∈r',inI y)=>WV hm hz h4 hwt n pc' (st+1) r' jD jD J a b c
      obtain⟨j,rfl,hj⟩:=Wz q2
      have I:j<r.length:=by omega
      have ij:=hr _ (qG I)
      rcases Pb q1 with rfl|rfl|rfl|rfl|rfl|rfl|rfl|rfl|rfl
      ·simp+decide only[if_true,if_false];rw[aH I];simp only[qA,qH];exact IH _ _ C (by rw[qN];exact hl) (Wt hr q4)
      ·obtain⟨i,rfl,hi⟩:=Wz (q3 rfl)
       have hi':i<r.length:=by omega
       simp+decide only[if_true,if_false]
       rw[aH I,aH hi']
       simp only[qA,Mx,Oe,qH]
       refine IH _ _ C (by rw[qN];exact hl) (Wt hr ?_)
       have:=ZW (IntKind.i64.wrap (Y1 r[j]+Y1 r[i]))
       unfold inI
       omega
      ·simp+decide only[if_true,if_false];rw[aH I];simp only[qA];by_cases hb:(r[j]==0)=true;(rw[if_pos hb,if_pos hb];exact IH _ _ q4 hl hr);·rw[if_neg hb,if_neg hb];exact IH _ _ C hl hr
      ·simp+decide only[if_true,if_false];exact IH _ _ q4 hl hr
      ·simp+decide only[if_true,if_false,vJ,qA];exact⟨_,rfl,rfl,good _ _ _ _ _ C J (by show(1:Int)<=1/\(1:Int)<=4;omega) Qr Qr (q6 jD)⟩
      ·simp+decide only[if_true,if_false,vJ,qA];exact⟨_,rfl,rfl,good _ _ _ _ _ C J (by show(1:Int)<=2/\(2:Int)<=4;omega) q4 Qr (q6 jD)⟩
      ·simp+decide only[if_true,if_false,vJ];rw[aH I];exact⟨_,rfl,rfl,good _ _ _ _ _ C J (by show(1:Int)<=3/\(3:Int)<=4;omega) q4 ij (q6 jD)⟩
      ·simp+decide only[if_true,if_false,vJ];rw[aH I];exact⟨_,rfl,rfl,good _ _ _ _ _ C J (by show(1:Int)<=4/\(4:Int)<=4;omega) q4 ij (q6 jD)⟩
      ·simp+decide only[if_true,if_false];exact⟨_,rfl,rfl,stop _ _ _ C J⟩
theorem Qd{m:M.aJf}(h:m.aKT=true\/m.aKQ=true \/¬m.aKH.length=4\/m.aKO<0)(hz:M.aJf.sz m<=1073741824):dZ m=some (m,(⟨0,0,0,(⟨#[]⟩:ByteArray),0⟩:M.Ask)):=by unfold dZ;rw[uR m hz,qA];by_cases hd:m.aKT=true;(rw[if_pos hd]);·rw[if_neg hd];by_cases hw:m.aKQ=true;(rw[if_pos hw]);·rw[if_neg hw];by_cases h4:m.aKH.length=4;(rw[if_neg (by simp[h4]),if_pos (by rcases h with h|h|h|h;(exact absurd h hd);(exact absurd h hw);(exact absurd h4 h);·simpa using h)]);·rw[if_pos jE]
theorem QI{m:M.aJf}(j:m.ok)(hz:M.aJf.sz m<=1048576):∃R,yM m=some R/\dZ m=some R/\WY m R:=by
 have C:=hz
 simp only[M.aJf.sz]at C
 unfold yM dZ
 rw[GC m jD,uR m jD]
 simp only[qA]
 have same:dZ m=some (m,(⟨0,0,0,(⟨#[]⟩:ByteArray),0⟩:M.Ask))->WY m (m,(⟨0,0,0,(⟨#[]⟩:ByteArray),0⟩:M.Ask)):=λh=>⟨rfl,rfl,j.aKH.2,j.Pc,j.aKO,⟨Int.le_refl _,by show(0:Int)<=4;omega⟩,Qr,Qr,Nat.zero_le _,λ_=>h⟩
 by_cases hd:m.aKT=true
 ·rw[if_pos hd,if_pos hd];exact⟨_,rfl,rfl,same (Qd (.inl hd) jD)⟩
 ·rw[if_neg hd,if_neg hd]
  by_cases hw:m.aKQ=true
  ·rw[if_pos hw,if_pos hw];exact⟨_,rfl,rfl,same (Qd (.inr (.inl hw)) jD)⟩
  ·rw[if_neg hw,if_neg hw]
   by_cases h4:m.aKH.length=4
   ·have e4:((List.length m.aKH:Int) !=4)=false:=by simp[h4]
    simp only[e4,qD,if_false]
    by_cases hs:m.aKO<0
    ·simp only[hs,decide_true,if_true];exact⟨_,rfl,rfl,same (Qd (.inr (.inr (.inr hs))) jD)⟩
    ·simp only[hs,decide_false,qD,if_false];exact WV j jD h4 (by simpa using hw) fuel m.Pc m.aKO m.aKH jI jD j.aKO j.Pc h4 j.aKH.2
   ·have e:((List.length m.aKH:Int) !=4)=true:=by simp;omega
    rw[if_pos e,if_pos e]
    exact⟨_,rfl,rfl,same (Qd (.inr (.inr (.inl h4))) jD)⟩
theorem Ii{m:M.aJf}(C:m.ok)(hz:M.aJf.sz m<=1048576)(r n:Int):∃R,mS m r n=some R/\nB m r n=some R/\R.1.ok/\M.aJf.sz R.1=M.aJf.sz m:=by
 have J:=hz
 simp only[M.aJf.sz]at J
 unfold mS nB
 rw[GC m jD,uR m jD]
 have el:IntKind.i64.wrap ((List.length m.aKH:Int)-1)=(List.length m.aKH:Int)-1:=bK jD jD
 simp only[qA,cG,bR,el]
 by_cases hw:(!m.aKQ)=true
 ·rw[if_pos hw,if_pos hw];exact⟨_,rfl,rfl,C,rfl⟩
 ·rw[if_neg hw,if_neg hw]
  by_cases h1:r<0
  ·have e:inR r 0 ((List.length m.aKH:Int)-1)=false:=by unfold inR;simp;omega
   simp only[e,h1,decide_true,qC,if_true]
   exact⟨_,rfl,rfl,C,rfl⟩
  ·by_cases h2:r>=(List.length m.aKH:Int)
   ·have e:inR r 0 ((List.length m.aKH:Int)-1)=false:=by unfold inR;simp;omega
    simp only[e,h1,h2,decide_true,decide_false,qC,qD,if_true,if_false]
    exact⟨_,rfl,rfl,C,rfl⟩
   ·have e:inR r 0 ((List.length m.aKH:Int)-1)=true:=by unfold inR;simp;omega
    simp only[e,h1,h2,decide_false,qB,qD,if_false]
    obtain⟨j,rfl⟩:=Int.eq_ofNat_of_zero_le (show 0<=r by omega)
    have U:j<m.aKH.length:=by omega
    rw[aH U]
    by_cases I:inR n (-1) 1000=true
    ·simp only[I,qB,qD,if_false,qA,qH]
     have hn:inI n:=by unfold inR at I;simp only[qM,qL]at I;unfold inI;omega
     exact⟨_,rfl,rfl,⟨C.aJ5,C.Pc,⟨by rw[qN];exact C.aKH.1,Wt C.aKH.2 hn⟩,C.aKO⟩,by simp only[M.aJf.sz,qN]⟩
    ·have I:inR n (-1) 1000=false:=by simpa using I
     simp only[I,qC,if_true]
     exact⟨_,rfl,rfl,C,rfl⟩
theorem T6(p:M.bD)(m:M.aJf)(f:ByteArray)(x:M.aJg):HF (⟨p.Id,p.aJj,p.Top,p.aJd,p.aJ,m⟩:M.bD) f x=((⟨(HF p f x).1.Id,(HF p f x).1.aJj,(HF p f x).1.Top,(HF p f x).1.aJd,(HF p f x).1.aJ,m⟩:M.bD),(HF p f x).2):=by unfold HF HK;dsimp only;rw[show GJ (⟨p.Id,p.aJj,p.Top,p.aJd,p.aJ,m⟩:M.bD)=GJ p from rfl,show GJ (⟨p.Id,p.aJj,p.Top,p.aJd,p.aJ++[(⟨f,x.aJd⟩:M.aJ)],m⟩:M.bD)=GJ (⟨p.Id,p.aJj,p.Top,p.aJd,p.aJ++[(⟨f,x.aJd⟩:M.aJ)],p.aJf⟩:M.bD)from rfl];cases (x.aKK !=200)<;>cases (x.aJd !=p.aJd)<;>cases GJ p<;>cases GJ (⟨p.Id,p.aJj,p.Top,p.aJd,p.aJ++[(⟨f,x.aJd⟩:M.aJ)],p.aJf⟩:M.bD)<;>rfl
theorem M4(v:Int):uM 0 v=some (if v>0 then v else 0):=by unfold uM;by_cases h:v>0;(simp only[h,decide_true,if_true]);·simp only[h,decide_false,qD,if_false]
theorem ZI(p:M.bD)(f:ByteArray)(x:M.aJg):(HF p f x).1.aJf=p.aJf:=by unfold HF HK;split;(rfl);·split;(rfl);·split;(split<;>rfl);·rfl
theorem ZN{w:M.World}{i:Int}(C:w.ok)(hz:M.World.sz w<=1048576):∃R:M.World×Int,wW w i=some R/\sR w i=some R/\R.1.ok/\M.World.sz R.1<=M.World.sz w+6000/\(R.2<=0->R.1=w \/∃(k:Nat) (p:M.bD),VT R.1 i=(k:Int)/\R.1.aJu[k]? =some p/\dZ p.aJf=some (p.aJf,(⟨0,0,0,(⟨#[]⟩:ByteArray),0⟩:M.Ask))/\M.World.sz R.1<=M.World.sz w):=by
 have hz':=hz
 simp only[M.World.sz]at hz'
 unfold wW sR
 rw[EG w jD,E5 w jD,qA,qA,Mg C,Mo C,qA,qA,Ou C hz,OD C hz,qA,qA]
 cases hn:Jn w with
 |false=>exact⟨(w,-1),jF,jF,C,Nat.le_add_right _ _,λ_=>.inl rfl⟩
 |true=>
  simp only[qB,qD,if_false]
  by_cases h:VT w i<0
  ·simp only[h,decide_true,if_true];exact⟨(w,-1),rfl,rfl,C,Nat.le_add_right _ _,λ_=>.inl rfl⟩
  ·obtain⟨k,e,hk⟩:=eN (show ¬mD (λp:M.bD=>p.Id==i) w.aJu<0 from h)
   simp only[h,decide_false,qD,if_false]
   have hy:=eD (f:=M.bD.sz) (qG hk)
   have U:=C.aJu.2 _ (qG hk)
   rw[show VT w i=(k:Int)from e]
   obtain⟨p,hp0⟩:∃p,w.aJu[k]=p:=⟨_,rfl⟩
   have hix:∀v:M.World,v.aJu=w.aJu->idx v.aJu (k:Int)=some p:=λv j=>by rw[j,aH hk,hp0]
   have nJ:∀q:M.bD,bA M.bD.sz (w.aJu.set k q)+M.bD.sz p=bA M.bD.sz w.aJu+M.bD.sz q:=λq=>by have:=Lj (f:=M.bD.sz) (x:=q) hk;rw[hp0]at this;exact this
   obtain⟨_,hid⟩:=Es e
   rw[hp0]at hy U hid
   rw[hix w rfl]
   simp only[qA,qH]
   have zl:p.aJ.length<=M.bD.sz p:=by simp only[M.bD.sz];omega
   have zm:M.aJf.sz p.aJf<=M.bD.sz p:=by simp only[M.bD.sz];omega
   obtain⟨⟨m,a⟩,r1,r2,g1,g2,g3,g4,g5,g6,g7,g8,g9,aa⟩:=QI U.aJf jD
   dsimp only at g1 g2 g3 g4 g5 g6 g7 g8 g9 aa
   rw[GG p jD,FX p jD,r1]
   simp only[qA]
   rw[r2]
   simp only[qA]
   have hfm:a.aJ2.size<=maxLen:=by unfold maxLen;omega
   have em:M.aJf.sz m=M.aJf.sz p.aJf:=by simp only[M.aJf.sz];rw[g1,g2]
   have I:M.aJf.ok m:=⟨by rw[g1];exact U.aJf.aJ5,g4,⟨by rw[g2];exact U.aJf.aKH.1,g3⟩,g5⟩
   have J:∀(q:M.bD) (o:M.aJf),q.ok->o.ok->M.bD.ok (⟨q.Id,q.aJj,q.Top,q.aJd,q.aJ,o⟩:M.bD):=λq o hq ho=>⟨hq.Id,hq.aJj,hq.Top,hq.aJd,hq.aJ,ho⟩
   have psz:∀(q:M.bD) (o:M.aJf),M.bD.sz (⟨q.Id,q.aJj,q.Top,q.aJd,q.aJ,o⟩:M.bD)+M.aJf.sz q.aJf=M.bD.sz q+M.aJf.sz o:=λq o=>by simp only[M.bD.sz];omega
   have fin:∀(v:M.World) (q:M.bD) (c:Nat),v.ok->M.World.sz v<=M.World.sz w+c->v.aJu=w.aJu->q.ok->M.bD.sz q<=M.bD.sz p+20->M.World.ok (⟨v.Now,v.aKB,v.aJq,v.aC,List.set v.aJu k q,v.aJy,v.aJv,v.aJp,v.aJ6,v.aJ0⟩:M.World)/\M.World.sz (⟨v.Now,v.aKB,v.aJq,v.aC,List.set v.aJu k q,v.aJy,v.aJv,v.aJp,v.aJ6,v.aJ0⟩:M.World)+M.bD.sz p<=M.World.sz w+c+M.bD.sz q:=λv q c j zv hvp hq zq=>by
    have hs:=nJ q
    rw[<-hvp]at hs
    refine⟨⟨j.Now,j.aJq,j.aC,⟨by rw[qN];exact j.aJu.1,λy hy=> ?_⟩,j.aJy,j.aJv,j.aJp,j.aJ6,j.aJ0⟩,?_⟩
    ·rcases jC hy with hy|rfl;(exact j.aJu.2 _ hy);·exact hq
    ·have zv':=zv
     rw[show M.World.sz v=(M.World.sz v-bA M.bD.sz v.aJu)+bA M.bD.sz v.aJu by simp only[M.World.sz];omega]at zv'
     have hs2:M.World.sz (⟨v.Now,v.aKB,v.aJq,v.aC,List.set v.aJu k q,v.aJy,v.aJv,v.aJp,v.aJ6,v.aJ0⟩:M.World)+bA M.bD.sz v.aJu=M.World.sz v+bA M.bD.sz (v.aJu.set k q):=by simp only[M.World.sz,qN];omega
     omega
   by_cases k1:(a.aJr==1)=true
   ·rw[if_pos k1,if_pos k1];obtain⟨x,e1,e2,e3⟩:=Yr (f:=a.aJ2) C U hn hz jD;have e1':tV w (⟨p.Id,p.aJj,p.Top,p.aJd,p.aJ,m⟩:M.bD) a.aJ2=some x:=e1;rw[e1',e2];simp only[qA];have zq:=psz p m;rw[Od (J p m U I) (by show p.aJ.length<=_;omega) jD hfm e3.aJd,NZ U jD jD hfm e3.aJd,T6];simp only[qA];have lok:=Yl (x:=x) U jD hfm e3.aJd;have lsz:=XY p a.aJ2 x;have lm:=ZI p a.aJ2 x;generalize (HF p a.aJ2 x).1=L at lok lsz lm;obtain⟨T,t1,t2,t3,t4⟩:=Ii I jD a.R x.aKK;rw[t1,t2];simp only[qA];have f1:=psz L T.1;rw[lm]at f1;obtain⟨f2,f3⟩:=fin w _ 0 C (Nat.le_add_right _ _) rfl (J L T.1 lok t3) jD;exact⟨_,rfl,rfl,f2,by dsimp only;omega,λh=>absurd (show a.aJr<=0 from h) (by have:=eq_of_beq k1;omega)⟩
   ·rw[if_neg k1,if_neg k1]
    by_cases k2:(a.aJr==2)=true
    ·rw[if_pos k2,if_pos k2];have e1:xE w (⟨p.Id,p.aJj,p.Top,p.aJd,p.aJ,m⟩:M.bD) a.N a.aJ2=some (Uv w p a.N a.aJ2):=ND (p:=p) C hz;rw[e1,NO C hz];simp only[qA];obtain⟨T,t1,t2,t3,t4⟩:=Ii I jD a.R (Uv w p a.N a.aJ2);rw[t1,t2];simp only[qA];have f1:=psz p T.1;obtain⟨f2,f3⟩:=fin w _ 0 C (Nat.le_add_right _ _) rfl (J p T.1 U t3) jD;exact⟨_,rfl,rfl,f2,by dsimp only;omega,λh=>absurd (show a.aJr<=0 from h) (by have:=eq_of_beq k2;omega)⟩
    ·rw[if_neg k2,if_neg k2]
     have j:inI (if a.Value>0 then a.Value else 0):=by split;(exact g8);·exact Qr
     have f1:=psz p m
     by_cases k3:(a.aJr==3)=true
     ·rw[if_pos k3,if_pos k3,M4,qA];obtain⟨T,t1,t2,t3,t4,t5⟩:=SD (p:=p) (n:=a.N) (f:=a.aJ2) C g7 j jD hz;have t1':tK w (⟨p.Id,p.aJj,p.Top,p.aJd,p.aJ,m⟩:M.bD) a.N a.aJ2 (if a.Value>0 then a.Value else 0)=some T:=t1;rw[t1',t2];simp only[qA];rw[hix T.1 t5];simp only[qA];obtain⟨f2,f3⟩:=fin T.1 _ 4000 t3 t4 t5 (J p m U I) jD;exact⟨_,rfl,rfl,f2,by dsimp only;omega,λh=>absurd (show a.aJr<=0 from h) (by have:=eq_of_beq k3;omega)⟩
     ·rw[if_neg k3,if_neg k3]
      by_cases k4:(a.aJr==4)=true
      ·rw[if_pos k4,if_pos k4,M4,qA];obtain⟨T,t1,t2,t3,t4,t5⟩:=UH (p:=p) (n:=a.N) (f:=a.aJ2) C g7 j jD hz;have t1':wO w (⟨p.Id,p.aJj,p.Top,p.aJd,p.aJ,m⟩:M.bD) a.N a.aJ2 (if a.Value>0 then a.Value else 0)=some T:=t1;rw[t1',t2];simp only[qA];rw[hix T.1 t5];simp only[qA];obtain⟨f2,f3⟩:=fin T.1 _ (a.aJ2.size+1) t3 t4 t5 (J p m U I) jD;exact⟨_,rfl,rfl,f2,by dsimp only;omega,λh=>absurd (show a.aJr<=0 from h) (by have:=eq_of_beq k4;omega)⟩
      ·rw[if_neg k4,if_neg k4]
       obtain⟨f2,f3⟩:=fin w _ 0 C (Nat.le_add_right _ _) rfl (J p m U I) jD
       have k5:a.aJr=0:=by rw[beq_iff_eq]at k1 k2 k3 k4;omega
       have fx:=Xs (x:=(⟨p.Id,p.aJj,p.Top,p.aJd,p.aJ,m⟩:M.bD)) e hid
       exact⟨_,rfl,rfl,f2,by dsimp only;omega,λ_=>.inr ⟨k,_,fx.1,fx.2,aa k5,by dsimp only;omega⟩⟩
theorem UP{w:M.World}{i:Int}(j:w.ok)(hz:M.World.sz w<=1048576):∃R:M.World×Int,wW w i=some R/\sR w i=some R/\R.1.ok/\M.World.sz R.1<=16777216:=by obtain⟨R,e1,e2,e3,e4,_⟩:=ZN (i:=i) j hz;exact⟨R,e1,e2,e3,jD⟩
