/-
  Helper text. No conditions.
-/
import Derived.Test.YtjlnkcoeghonfaaGreatRunningPagesPd10
set_option linter.all false
namespace Go.Proofs.YtjlnkcoeghonfaaGreat.gen
open Go Go.Sh
theorem Y7{n m:Int}(h:inR n 0 m=true):∃j:Nat,n=(j:Int)/\(j:Int)<=m:=by unfold inR at h;simp only[qM,qL]at h;obtain⟨j,rfl⟩:=jU h.1;exact⟨j,rfl,h.2⟩
theorem aDF{m:M.aLX}(j:m.aMJ=true)(C:M.aLX.sz m<=1073741824):dO m=some (m,(⟨0,0,0,(⟨#[]⟩:ByteArray),0⟩:M.Ask)):=by unfold dO;rw[AJ m C,qA,jE j]
theorem Zx{m:M.aLX}(hm:m.ok)(hz:M.aLX.sz m<=1500000)(h4:m.aMC.length=4)(hwt:m.aMI=false):∀(n:Nat) (U st:Int) (r:List Int),(60-st).toNat<n->0<=st->inI st->inI U->r.length=4->(∀y∈r,inI y)->∃R,eR m n U st r=some R/\dW m n U st r=some R/\ZB m R
 |0,_,_,_,h,_,_,_,_,_=>absurd h (Nat.not_lt_zero _)
 |n+1,U,st,r,hn,h0,hs,hp,hl,hr=>by
  have hz':=hz
  simp only[M.aLX.sz]at hz'
  have good:∀(p s:Int) (b c:Bool) (a:M.Ask),inI p->inI s->(1<=a.aLn/\a.aLn<=4)->inI a.N->inI a.Value->a.aLu.size<=8->ZB m ((⟨m.aLz,p,r,s,b,c⟩:M.aLX),a):=λp s b c a k1 k2 k3 k4 k5 k6=>⟨rfl,by rw[h4];exact hl,hr,k1,k2,⟨by have:=k3.1;show 0<=a.aLn;omega,k3.2⟩,k4,k5,k6,λh=>absurd (show a.aLn=0 from h) (by have:=k3.1;omega)⟩
  have stop:∀(p s:Int) (c:Bool),inI p->inI s->ZB m ((⟨m.aLz,p,r,s,true,c⟩:M.aLX),(⟨0,0,0,(⟨#[]⟩:ByteArray),0⟩:M.Ask)):=λp s c k1 k2=>⟨rfl,by rw[h4];exact hl,hr,k1,k2,⟨Int.le_refl _,by show(0:Int)<=4;omega⟩,zV,zV,Nat.zero_le _,λ_=>aDF rfl (by simp only[M.aLX.sz];omega)⟩
  have el:IntKind.i64.wrap ((List.length m.aLz:Int)-1)=(List.length m.aLz:Int)-1:=bQ wi wi
  simp only[eR,dW,cK,qA,el,hwt]
  by_cases h1:U<0
  ·have e:inR U 0 ((List.length m.aLz:Int)-1)=false:=by unfold inR;simp;omega
   rw[e,jE (show(!false)=true from rfl),jE (by simpa using h1)]
   exact⟨_,rfl,rfl,stop _ _ _ hp hs⟩
  ·by_cases h2:U>=(List.length m.aLz:Int)
   ·have e:inR U 0 ((List.length m.aLz:Int)-1)=false:=by unfold inR;simp;omega
    rw[e,jE (show(!false)=true from rfl),jF (by simpa using h1),jE (by simpa using h2)]
    exact⟨_,rfl,rfl,stop _ _ _ hp hs⟩
   ·have e:inR U 0 ((List.length m.aLz:Int)-1)=true:=by unfold inR;simp;omega
    obtain⟨k,rfl⟩:=jU (show 0<=U by omega)
    have hk:k<m.aLz.length:=by omega
    have hx:=hm.aLz.2 _ (qG hk)
    rw[e,jF we,jF (by simpa using h1),jF (by simpa using h2),aM hk]
    simp only[qA]
    generalize m.aLz[k]=x at hx
    rw[Kh hx,PV hx]
    simp only[qA]
    cases hi:Nx x (List.length m.aLz:Int)with
    |false=>exact⟨_,rfl,rfl,stop _ _ _ hp hs⟩
    |true=>
     simp only[qB,qD,jG]
     by_cases h6:st>=60
     ·simp only[h6,jb,jH];exact⟨_,rfl,rfl,stop _ _ _ hp hs⟩
     ·simp only[h6,jc,qD,jG]
      have ew:IntKind.i64.wrap (st+1)=st+1:=bQ wi wi
      rw[ew]
      obtain⟨kd,rr,nn,tt⟩:=x
      obtain⟨q1,q2,q3,q6⟩:=ZU hx.aLu hi
      have q4:inI nn:=hx.N
      clear hi hx
      have J:inI (st+1):=by unfold inI;omega
      have C:=bV ((k:Int)+1)
      have IH:=λ(pc':Int) (r':List Int) (a:inI pc') (b:r'.length=4) (c:∀y∈r',inI y)=>Zx hm hz h4 hwt n pc' (st+1) r' wi wi J a b c
      obtain⟨j,rfl,hj⟩:=Y7 q2
      have I:j<r.length:=by omega
      have ij:=hr _ (qG I)
      rcases Qx q1 with rfl|rfl|rfl|rfl|rfl|rfl|rfl|rfl|rfl
      ·simp+decide only[jH,jG];rw[aM I];simp only[qA,qH];exact IH _ _ C (by rw[qN];exact hl) (Y3 hr q4)
      ·obtain⟨i,rfl,hi⟩:=Y7 (q3 rfl)
       have hi':i<r.length:=by omega
       simp+decide only[jH,jG]
       rw[aM I,aM hi']
       simp only[qA,NL,PA,qH]
       refine IH _ _ C (by rw[qN];exact hl) (Y3 hr ?_)
       have:=aC1 (IntKind.i64.wrap (aBn r[j]+aBn r[i]))
       unfold inI
       omega
      ·simp+decide only[jH,jG];rw[aM I];simp only[qA];by_cases hb:(r[j]==0)=true;(rw[jE hb,jE hb];exact IH _ _ q4 hl hr);·rw[jF hb,jF hb];exact IH _ _ C hl hr
      ·simp+decide only[jH,jG];exact IH _ _ q4 hl hr
      ·simp+decide only[jH,jG,AX,qA];exact⟨_,rfl,rfl,good _ _ _ _ _ C J (by show(1:Int)<=1/\(1:Int)<=4;omega) zV zV (q6 wi)⟩
      ·simp+decide only[jH,jG,AX,qA];exact⟨_,rfl,rfl,good _ _ _ _ _ C J (by show(1:Int)<=2/\(2:Int)<=4;omega) q4 zV (q6 wi)⟩
      ·simp+decide only[jH,jG,AX];rw[aM I];exact⟨_,rfl,rfl,good _ _ _ _ _ C J (by show(1:Int)<=3/\(3:Int)<=4;omega) q4 ij (q6 wi)⟩
      ·simp+decide only[jH,jG,AX];rw[aM I];exact⟨_,rfl,rfl,good _ _ _ _ _ C J (by show(1:Int)<=4/\(4:Int)<=4;omega) q4 ij (q6 wi)⟩
      ·simp+decide only[jH,jG];exact⟨_,rfl,rfl,stop _ _ _ C J⟩
theorem RT{m:M.aLX}(h:m.aMJ=true\/m.aMI=true \/¬m.aMC.length=4\/m.aME<0)(j:M.aLX.sz m<=1073741824):dO m=some (m,(⟨0,0,0,(⟨#[]⟩:ByteArray),0⟩:M.Ask)):=by unfold dO;rw[AJ m j,qA];by_cases hd:m.aMJ=true;(rw[jE hd]);·rw[jF hd];by_cases hw:m.aMI=true;(rw[jE hw]);·rw[jF hw];by_cases h4:m.aMC.length=4;(rw[jF (by simp[h4]),jE (by rcases h with h|h|h|h;(exact absurd h hd);(exact absurd h hw);(exact absurd h4 h);·simpa using h)]);·rw[jE wX]
theorem SA{m:M.aLX}(j:m.ok)(I:M.aLX.sz m<=1500000):∃R,BV m=some R/\dO m=some R/\ZB m R:=by
 have C:=I
 simp only[M.aLX.sz]at C
 unfold BV dO
 rw[Hm m wi,AJ m wi]
 simp only[qA]
 have same:dO m=some (m,(⟨0,0,0,(⟨#[]⟩:ByteArray),0⟩:M.Ask))->ZB m (m,(⟨0,0,0,(⟨#[]⟩:ByteArray),0⟩:M.Ask)):=λh=>⟨rfl,rfl,j.aMC.2,j.Pc,j.aME,⟨Int.le_refl _,by show(0:Int)<=4;omega⟩,zV,zV,Nat.zero_le _,λ_=>h⟩
 by_cases hd:m.aMJ=true
 ·rw[jE hd,jE hd];exact⟨_,rfl,rfl,same (RT (.inl hd) wi)⟩
 ·rw[jF hd,jF hd]
  by_cases hw:m.aMI=true
  ·rw[jE hw,jE hw];exact⟨_,rfl,rfl,same (RT (.inr (.inl hw)) wi)⟩
  ·rw[jF hw,jF hw]
   by_cases h4:m.aMC.length=4
   ·have e4:((List.length m.aMC:Int) !=4)=false:=by simp[h4]
    simp only[e4,qD,jG]
    by_cases hs:m.aME<0
    ·simp only[hs,jb,jH];exact⟨_,rfl,rfl,same (RT (.inr (.inr (.inr hs))) wi)⟩
    ·simp only[hs,jc,qD,jG];exact Zx j wi h4 (by simpa using hw) aH m.Pc m.aME m.aMC wH wi j.aME j.Pc h4 j.aMC.2
   ·have e:((List.length m.aMC:Int) !=4)=true:=by simp;omega
    rw[jE e,jE e]
    exact⟨_,rfl,rfl,same (RT (.inr (.inr (.inl h4))) wi)⟩
theorem Jh{m:M.aLX}(C:m.ok)(hz:M.aLX.sz m<=1500000)(r n:Int):∃R,rH m r n=some R/\rQ m r n=some R/\R.1.ok/\M.aLX.sz R.1=M.aLX.sz m:=by
 have J:=hz
 simp only[M.aLX.sz]at J
 unfold rH rQ
 rw[Hm m wi,AJ m wi]
 have U:IntKind.i64.wrap ((List.length m.aMC:Int)-1)=(List.length m.aMC:Int)-1:=bQ wi wi
 simp only[qA,cK,bY,U]
 by_cases hw:(!m.aMI)=true
 ·rw[jE hw,jE hw];exact⟨_,rfl,rfl,C,rfl⟩
 ·rw[jF hw,jF hw]
  by_cases h1:r<0
  ·have e:inR r 0 ((List.length m.aMC:Int)-1)=false:=by unfold inR;simp;omega
   simp only[e,h1,jb,qC,jH]
   exact⟨_,rfl,rfl,C,rfl⟩
  ·by_cases h2:r>=(List.length m.aMC:Int)
   ·have e:inR r 0 ((List.length m.aMC:Int)-1)=false:=by unfold inR;simp;omega
    simp only[e,h1,h2,jb,jc,qC,qD,jH,jG]
    exact⟨_,rfl,rfl,C,rfl⟩
   ·have e:inR r 0 ((List.length m.aMC:Int)-1)=true:=by unfold inR;simp;omega
    simp only[e,h1,h2,jc,qB,qD,jG]
    obtain⟨j,rfl⟩:=jU (show 0<=r by omega)
    have hj:j<m.aMC.length:=by omega
    rw[aM hj]
    by_cases I:inR n (-1) 1000=true
    ·simp only[I,qB,qD,jG,qA,qH]
     have hn:inI n:=by unfold inR at I;simp only[qM,qL]at I;unfold inI;omega
     exact⟨_,rfl,rfl,⟨C.aLz,C.Pc,⟨by rw[qN];exact C.aMC.1,Y3 C.aMC.2 hn⟩,C.aME⟩,by simp only[M.aLX.sz,qN]⟩
    ·have I:inR n (-1) 1000=false:=by simpa using I
     simp only[I,qC,jH]
     exact⟨_,rfl,rfl,C,rfl⟩
theorem Wg(p:M.bO)(m:M.aLX)(f:ByteArray)(x:M.aLb):EY (⟨p.Id,p.aLa,p.Top,p.aLT,p.aW,m⟩:M.bO) f x=((⟨(EY p f x).1.Id,(EY p f x).1.aLa,(EY p f x).1.Top,(EY p f x).1.aLT,(EY p f x).1.aW,m⟩:M.bO),(EY p f x).2):=by unfold EY Gt;dsimp only;rw[show EW (⟨p.Id,p.aLa,p.Top,p.aLT,p.aW,m⟩:M.bO)=EW p from rfl,show EW (⟨p.Id,p.aLa,p.Top,p.aLT,p.aW++[(⟨f,x.aLT⟩:M.aW)],m⟩:M.bO)=EW (⟨p.Id,p.aLa,p.Top,p.aLT,p.aW++[(⟨f,x.aLT⟩:M.aW)],p.aLX⟩:M.bO)from rfl];cases (x.aMD !=200)<;>cases (x.aLT !=p.aLT)<;>cases EW p<;>cases EW (⟨p.Id,p.aLa,p.Top,p.aLT,p.aW++[(⟨f,x.aLT⟩:M.aW)],p.aLX⟩:M.bO)<;>rfl
theorem Ok(v:Int):AA 0 v=some (if v>0 then v else 0):=by unfold AA;by_cases h:v>0;(simp only[h,jb,jH]);·simp only[h,jc,qD,jG]
theorem aCj(p:M.bO)(f:ByteArray)(x:M.aLb):(EY p f x).1.aLX=p.aLX:=by unfold EY Gt;split;(rfl);·split;(rfl);·split;(split<;>rfl);·rfl
theorem Uy{w:M.aD}{i:Int}(C:w.ok)(hz:M.aD.sz w<=1500000):∃R:M.aD×Int,uI w i=some R/\iP w i=some R/\R.1.ok/\M.aD.sz R.1<=M.aD.sz w+6000/\(R.2<=0->R.1=w \/∃(k:Nat) (p:M.bO),G0 R.1 i=(k:Int)/\R.1.aLf[k]? =some p/\dO p.aLX=some (p.aLX,(⟨0,0,0,(⟨#[]⟩:ByteArray),0⟩:M.Ask))/\M.aD.sz R.1<=M.aD.sz w)/\Zy w i R:=by
 have hz':=hz
 simp only[M.aD.sz]at hz'
 unfold uI iP
 rw[Bh w wi,Ay w wi,qA,qA,D3 C,D5 C,qA,qA,DM C hz,Hu C hz,qA,qA]
 cases hn:CJ w with
 |false=>exact⟨(w,-1),we,we,C,jT _ _,λ_=>.inl rfl,.refl w i _⟩
 |true=>
  simp only[qB,qD,jG]
  by_cases h:G0 w i<0
  ·simp only[h,jb,jH];exact⟨(w,-1),rfl,rfl,C,jT _ _,λ_=>.inl rfl,.refl w i _⟩
  ·obtain⟨k,e,hk⟩:=dM (show ¬kP (λp:M.bO=>p.Id==i) w.aLf<0 from h)
   simp only[h,jc,qD,jG]
   have hy:=eA (f:=M.bO.sz) (qG hk)
   have hp:=C.aLf.2 _ (qG hk)
   rw[show G0 w i=(k:Int)from e]
   obtain⟨p,hp0⟩:∃p,w.aLf[k]=p:=⟨_,rfl⟩
   have hix:∀v:M.aD,v.aLf=w.aLf->idx v.aLf (k:Int)=some p:=λv j=>by rw[j,aM hk,hp0]
   have sG:∀q:M.bO,dV M.bO.sz (w.aLf.set k q)+M.bO.sz p=dV M.bO.sz w.aLf+M.bO.sz q:=λq=>by have:=JY (f:=M.bO.sz) (x:=q) hk;rw[hp0]at this;exact this
   have I:w.aLf[k]? =some p:=by rw[qF hk,hp0]
   have ek:G0 w i=(k:Int):=e
   obtain⟨_,hid⟩:=CC e
   rw[hp0]at hy hp hid
   rw[hix w rfl]
   simp only[qA,qH]
   have zl:p.aW.length<=M.bO.sz p:=by simp only[M.bO.sz];omega
   have zm:M.aLX.sz p.aLX<=M.bO.sz p:=by simp only[M.bO.sz];omega
   obtain⟨⟨m,a⟩,r1,r2,g1,g2,g3,g4,g5,g6,g7,g8,g9,aa⟩:=SA hp.aLX wi
   dsimp only at g1 g2 g3 g4 g5 g6 g7 g8 g9 aa
   rw[Hr p wi,ED p wi,r1]
   simp only[qA]
   rw[r2]
   simp only[qA]
   have hfm:a.aLu.size<=maxLen:=by unfold maxLen;omega
   have em:M.aLX.sz m=M.aLX.sz p.aLX:=by simp only[M.aLX.sz];rw[g1,g2]
   have J:M.aLX.ok m:=⟨by rw[g1];exact hp.aLX.aLz,g4,⟨by rw[g2];exact hp.aLX.aMC.1,g3⟩,g5⟩
   have U:∀(q:M.bO) (o:M.aLX),q.ok->o.ok->M.bO.ok (⟨q.Id,q.aLa,q.Top,q.aLT,q.aW,o⟩:M.bO):=λq o I ho=>⟨I.Id,I.aLa,I.Top,I.aLT,I.aW,ho⟩
   have psz:∀(q:M.bO) (o:M.aLX),M.bO.sz (⟨q.Id,q.aLa,q.Top,q.aLT,q.aW,o⟩:M.bO)+M.aLX.sz q.aLX=M.bO.sz q+M.aLX.sz o:=λq o=>by simp only[M.bO.sz];omega
   have fin:∀(v:M.aD) (q:M.bO) (c:Nat),v.ok->M.aD.sz v<=M.aD.sz w+c->v.aLf=w.aLf->q.ok->M.bO.sz q<=M.bO.sz p+20->M.aD.ok (⟨v.Now,v.aLt,v.aLZ,v.aC,List.set v.aLf k q,v.aLd,v.aLk,v.aLe,v.aLp,v.aLh⟩:M.aD)/\M.aD.sz (⟨v.Now,v.aLt,v.aLZ,v.aC,List.set v.aLf k q,v.aLd,v.aLk,v.aLe,v.aLp,v.aLh⟩:M.aD)+M.bO.sz p<=M.aD.sz w+c+M.bO.sz q:=λv q c j zv hvp I zq=>by
    have hs:=sG q
    rw[<-hvp]at hs
    refine⟨⟨j.Now,j.aLZ,j.aC,⟨by rw[qN];exact j.aLf.1,λy hy=> ?_⟩,j.aLd,j.aLk,j.aLe,j.aLp,j.aLh⟩,?_⟩
    ·rcases jD hy with hy|rfl;(exact j.aLf.2 _ hy);·exact I
    ·have zv':=zv
     rw[show M.aD.sz v=(M.aD.sz v-dV M.bO.sz v.aLf)+dV M.bO.sz v.aLf by simp only[M.aD.sz];omega]at zv'
     have hs2:M.aD.sz (⟨v.Now,v.aLt,v.aLZ,v.aC,List.set v.aLf k q,v.aLd,v.aLk,v.aLe,v.aLp,v.aLh⟩:M.aD)+dV M.bO.sz v.aLf=M.aD.sz v+dV M.bO.sz (v.aLf.set k q):=by simp only[M.aD.sz,qN];omega
     omega
   by_cases k1:(a.aLn==1)=true
   ·rw[jE k1,jE k1];obtain⟨x,e1,e2,e3⟩:=aBC (f:=a.aLu) C hp hn hz wi;have e1':gJ w (⟨p.Id,p.aLa,p.Top,p.aLT,p.aW,m⟩:M.bO) a.aLu=some x:=e1;rw[e1',e2];simp only[qA];have zq:=psz p m;rw[GY (U p m hp J) (by show p.aW.length<=_;omega) wi hfm e3.aLT,Pk hp wi wi hfm e3.aLT,Wg];simp only[qA];have lok:=RP (x:=x) hp wi hfm e3.aLT;have lsz:=Rk p a.aLu x;have lm:=aCj p a.aLu x;generalize (EY p a.aLu x).1=L at lok lsz lm;obtain⟨T,t1,t2,t3,t4⟩:=Jh J wi a.R x.aMD;rw[t1,t2];simp only[qA];have f1:=psz L T.1;rw[lm]at f1;obtain⟨f2,f3⟩:=fin w _ 0 C (jT _ _) rfl (U L T.1 lok t3) wi;exact⟨_,rfl,rfl,f2,wI,λh=>absurd (show a.aLn<=0 from h) (by have:=eq_of_beq k1;omega),.mk g6.1 ek I (.refl w p)⟩
   ·rw[jF k1,jF k1]
    by_cases k2:(a.aLn==2)=true
    ·rw[jE k2,jE k2];have e1:Bw w (⟨p.Id,p.aLa,p.Top,p.aLT,p.aW,m⟩:M.bO) a.N a.aLu=some (WJ w p a.N a.aLu):=OU (p:=p) C hz;rw[e1,O3 C hz];simp only[qA];obtain⟨T,t1,t2,t3,t4⟩:=Jh J wi a.R (WJ w p a.N a.aLu);rw[t1,t2];simp only[qA];have f1:=psz p T.1;obtain⟨f2,f3⟩:=fin w _ 0 C (jT _ _) rfl (U p T.1 hp t3) wi;exact⟨_,rfl,rfl,f2,wI,λh=>absurd (show a.aLn<=0 from h) (by have:=eq_of_beq k2;omega),.mk g6.1 ek I (.refl w p)⟩
    ·rw[jF k2,jF k2]
     have j:inI (if a.Value>0 then a.Value else 0):=by split;(exact g8);·exact zV
     have f1:=psz p m
     by_cases k3:(a.aLn==3)=true
     ·rw[jE k3,jE k3,Ok,qA];obtain⟨T,t1,t2,t3,t4,t5,t6⟩:=Uz (p:=p) (n:=a.N) (f:=a.aLu) C g7 j wi hz;have t1':Ad w (⟨p.Id,p.aLa,p.Top,p.aLT,p.aW,m⟩:M.bO) a.N a.aLu (if a.Value>0 then a.Value else 0)=some T:=t1;rw[t1',t2];simp only[qA];rw[hix T.1 t5];simp only[qA];obtain⟨f2,f3⟩:=fin T.1 _ 4000 t3 t4 t5 (U p m hp J) wi;exact⟨_,rfl,rfl,f2,wI,λh=>absurd (show a.aLn<=0 from h) (by have:=eq_of_beq k3;omega),.mk g6.1 ek I t6⟩
     ·rw[jF k3,jF k3]
      by_cases k4:(a.aLn==4)=true
      ·rw[jE k4,jE k4,Ok,qA];obtain⟨T,t1,t2,t3,t4,t5,t6⟩:=WY (p:=p) (n:=a.N) (f:=a.aLu) C g7 j wi hz;have t1':Bm w (⟨p.Id,p.aLa,p.Top,p.aLT,p.aW,m⟩:M.bO) a.N a.aLu (if a.Value>0 then a.Value else 0)=some T:=t1;rw[t1',t2];simp only[qA];rw[hix T.1 t5];simp only[qA];obtain⟨f2,f3⟩:=fin T.1 _ (a.aLu.size+1) t3 t4 t5 (U p m hp J) wi;exact⟨_,rfl,rfl,f2,wI,λh=>absurd (show a.aLn<=0 from h) (by have:=eq_of_beq k4;omega),.mk g6.1 ek I t6⟩
      ·rw[jF k4,jF k4]
       obtain⟨f2,f3⟩:=fin w _ 0 C (jT _ _) rfl (U p m hp J) wi
       have k5:a.aLn=0:=by rw[beq_iff_eq]at k1 k2 k3 k4;omega
       have fx:=Vf (x:=(⟨p.Id,p.aLa,p.Top,p.aLT,p.aW,m⟩:M.bO)) e hid
       exact⟨_,rfl,rfl,f2,wI,λ_=>.inr ⟨k,_,fx.1,fx.2,aa k5,wI⟩,.mk g6.1 ek I (.refl w p)⟩
theorem aEm{w:M.aD}{i:Int}{k:Nat}{p:M.bO}(I:w.ok)(J:M.aD.sz w<=1500000)(hn:CJ w=true)(e:G0 w i=(k:Int))(j:w.aLf[k]? =some p)(hm:dO p.aLX=some (p.aLX,(⟨0,0,0,(⟨#[]⟩:ByteArray),0⟩:M.Ask))):iP w i=some (w,0):=by
 obtain⟨hk,j⟩:=qe.1 j
 have C:=J
 simp only[M.aD.sz]at C
 have hy:=eA (f:=M.bO.sz) (qG hk)
 rw[j]at hy
 have U:idx w.aLf (k:Int)=some p:=by rw[aM hk,j]
 unfold iP
 rw[Ay w wi,qA,D5 I,qA,Hu I J,qA,hn,e,jF wh,jF we,U,qA,ED p wi,qA,hm,qA]
 simp+decide only[jG]
 rw[qA,qH,show(⟨p.Id,p.aLa,p.Top,p.aLT,p.aW,p.aLX⟩:M.bO)=p from rfl,<-j,List.set_getElem_self]
theorem aAz{w:M.aD}{i:Int}{R:M.aD×Int}(I:M.aD.sz w<=1500000)(e2:iP w i=some R)(C:R.1.ok)(h:R.1=w \/∃(k:Nat) (p:M.bO),G0 R.1 i=(k:Int)/\R.1.aLf[k]? =some p/\dO p.aLX=some (p.aLX,(⟨0,0,0,(⟨#[]⟩:ByteArray),0⟩:M.Ask))/\M.aD.sz R.1<=M.aD.sz w):∃c,iP R.1 i=some (R.1,c):=by
 obtain⟨v,c⟩:=R
 dsimp only at h C⊢
 rcases h with h|⟨k,p,h1,h2,h3,h4⟩
 ·subst h;exact⟨c,e2⟩
 ·have j:M.aD.sz v<=1500000:=by omega
  cases hn:CJ v with
  |true=>exact⟨0,aEm C j hn h1 h2 h3⟩
  |false=>
   refine⟨-1,?_⟩
   unfold iP
   rw[Ay v wi,qA,D5 C,qA,Hu C j,qA,hn,jE (show(!false)=true from rfl)]
theorem XV{i c:Int}{w:M.aD}(f:iP w i=some (w,c)):∀(t n:Nat) (v:Int),v=60-(t:Int)->t<=60->t<n->iV i n v w.Now w.aLt w.aLZ w.aLd w.aC.Buckets w.aLf w.aLk.aLk w.aLe.aL8 w.aLp w.aLh=some w
 |_,0,_,_,_,h=>absurd h (Nat.not_lt_zero _)
 |0,n+1,v,j,_,_=>by simp only[iV];rw[jF wX]
 |t+1,n+1,v,j,I,C=>by simp only[iV];rw[jE wX,show(⟨w.Now,w.aLt,w.aLZ,(⟨w.aC.Buckets⟩:M.aC),w.aLf,w.aLd,(⟨w.aLk.aLk⟩:M.aT),(⟨w.aLe.aL8⟩:M.aLe),w.aLp,w.aLh⟩:M.aD)=w from rfl,f];simp only[qA];exact XV f t n _ jr wi wi
theorem U0{i:Int}:∀(t n:Nat) (v:Int) (w:M.aD),v=60-(t:Int)->t<=60->t<n->w.ok->M.aD.sz w+6000*t<=1500000->∃R,tA i n v w.Now w.aLt w.aLZ w.aLd w.aC.Buckets w.aLf w.aLk.aLk w.aLe.aL8 w.aLp w.aLh=some R/\iV i n v w.Now w.aLt w.aLZ w.aLd w.aC.Buckets w.aLf w.aLk.aLk w.aLe.aL8 w.aLp w.aLh=some R/\R.ok/\M.aD.sz R<=1500000
 |_,0,_,_,_,_,h,_,_=>absurd h (Nat.not_lt_zero _)
 |0,n+1,v,w,C,_,_,j,I=>by simp only[tA,iV];rw[jF wX,jF wX];exact⟨w,rfl,rfl,j,wi⟩
 |t+1,n+1,v,w,C,ht,U,j,I=>by simp only[tA,iV];rw[jE wX,jE wX,show(⟨w.Now,w.aLt,w.aLZ,(⟨w.aC.Buckets⟩:M.aC),w.aLf,w.aLd,(⟨w.aLk.aLk⟩:M.aT),(⟨w.aLe.aL8⟩:M.aLe),w.aLp,w.aLh⟩:M.aD)=w from rfl];obtain⟨R,e1,e2,e3,e4,e5,_⟩:=Uy (i:=i) j wi;rw[e1,e2];simp only[qA];by_cases hc:R.2<=0;(simp only[hc,jb,jH];obtain⟨J,f⟩:=aAz wi e2 e3 (e5 hc);exact⟨R.1,rfl,XV f t n _ jr wi wi,e3,wi⟩);·simp only[hc,jc,qD,jG];exact U0 t n _ R.1 jr wi wi e3 wi
theorem Zq{w:M.aD}{i:Int}(j:w.ok)(C:M.aD.sz w<=1048570):∃R:M.aD,DF w i=some R/\DT w i=some R/\R.ok/\M.aD.sz R<=1500000:=by unfold DF DT;rw[Bh w wi,Ay w wi,qA,qA];exact U0 60 aH 0 w wi wi wH j wi
theorem aDD{w:M.aD}{f:Int}(I:w.ok):∃c,tK w f=some c/\tJ w f=some c:=by unfold tK tJ;rw[D3 I,D5 I,qA];by_cases h:G0 w f<0;(rw[jF wN];exact⟨_,rfl,rfl⟩);·obtain⟨j,J,C⟩:=dM (show ¬kP (λp:M.bO=>p.Id==f) w.aLf<0 from h);rw[jE wN,show G0 w f=(j:Int)from J,aM C];exact⟨_,rfl,rfl⟩
def wdJ(Z:Nat)(w:M.aD):Prop:=w.ok/\M.aD.sz w<=Z/\w.aLp.length=3/\w.aLh.length=3
theorem aEE{Z:Nat}{w:M.aD}{i:Int}(h:wdJ Z w)(j:Z<=1000000):∃R:M.aD×Int,uI w i=some R/\wdJ (Z+6000) R.1:=by obtain⟨h1,h2,h3,h4⟩:=h;obtain⟨R,e1,_,e3,e4,_,e5⟩:=Uy (i:=i) h1 wi;exact⟨R,e1,e3,wi,by rw[e5.2.1];exact h3,by rw[e5.2.2.1];exact h4⟩
theorem W8{b:List Int}{i h:Int}(c0:okC b i h):Dr b (wdJ 150000) (C3 (⟨b,i,h⟩:M.bI)):=by
 unfold C3
 refine .bnd (Xa c0) λi1 v1 r1 c1 J=>.bnd (bA c1) λi2 v2 r2 c2 U=> ?_
 obtain⟨N,rfl⟩:=Dw U.1
 have hN:=U.2.1 wi
 have key:∀(n k:Nat) (w:M.aD) (ci j:Int),k<n->k<=5->okC b ci j->wdJ (110000+6000*(5-k)) w->Dr b (wdJ 150000) (vU (⟨b,i,h⟩:M.bI) n (k:Int) w.Now w.aLt w.aLZ w.aLd ci j w.aC.Buckets w.aLf w.aLk.aLk w.aLe.aL8 w.aLp w.aLh):=by
  intro n
  induction n with
  |zero=>intro k w ci j h _ _ _;omega
  |succ n ih=>
   intro k w ci j hn hk hc C
   simp only[vU]
   cases k with
   |zero=>
    rw[jF we]
    exact .ret hc ⟨C.1,by have:=C.2.1;show M.aD.sz w<=_;omega,C.2.2⟩
   |succ k=>
    rw[jE (decide_eq_true wi),aBZ k wi]
    refine .bnd (bA hc) λi3 v3 r3 c3 q3=>.J9 (aEE (w:=w) C wi) λR I=> ?_
    exact ih k R.1 i3 v3 wi wi c3 ⟨I.1,by have:=I.2.1;omega,I.2.2⟩
 have z1:=J.1.sz
 exact key aH N r1 i2 v2 (nN wi) wi c2 ⟨J.1.ok wi wi,wi,J.2⟩
theorem aEJ{b:List Int}{i h:Int}{o:Bool}{w:M.aD}(c0:okC b i h)(hw:wdJ 150000 w):Dr b (λv=>M.aD.ok v/\M.aD.sz v<=950000) ((aK (⟨b,i,h⟩:M.bI) 24).bind λx=>if(x.2.2==0)=true then(cD (⟨b,x.1,x.2.1⟩:M.bI) ([-1,999999990000,999999990001])).bind λy=>some (y.1,y.2.1,(⟨y.2.2,o,w.aLZ,w.aC,w.aLf,w.aLd,w.aLk,w.aLe,w.aLp,w.aLh⟩:M.aD))else if(x.2.2==1)=true then some (x.1,x.2.1,(⟨w.Now,o,0,w.aC,w.aLf,w.aLd,w.aLk,w.aLe,w.aLp,w.aLh⟩:M.aD))else if(x.2.2==2)=true then(CK w.aLp 2).bind λy=>some (x.1,x.2.1,(⟨w.Now,o,w.aLZ,w.aC,w.aLf,w.aLd,w.aLk,w.aLe,List.take (2:Int).toNat w.aLp,w.aLh⟩:M.aD))else if(x.2.2==3)=true then(yR (⟨b,x.1,x.2.1⟩:M.bI)).bind λy=>some (y.1,y.2.1,(⟨w.Now,o,w.aLZ,y.2.2,w.aLf,w.aLd,w.aLk,w.aLe,w.aLp,w.aLh⟩:M.aD))else if(x.2.2==4)=true then(Dh (⟨b,x.1,x.2.1⟩:M.bI)).bind λy=>(app 144 w.aLf ([y.2.2])).bind λz=>some (y.1,y.2.1,(⟨w.Now,o,w.aLZ,w.aC,w.aLf++[y.2.2],w.aLd,w.aLk,w.aLe,w.aLp,w.aLh⟩:M.aD))else if(x.2.2==5)=true then some (x.1,x.2.1,(⟨w.Now,o,w.aLZ,w.aC,w.aLf,0,w.aLk,w.aLe,w.aLp,w.aLh⟩:M.aD))else if(x.2.2==6)=true then(Dv (⟨b,x.1,x.2.1⟩:M.bI)).bind λy=>(idx w.aLh 0).bind λz=>some (y.1,y.2.1,(⟨w.Now,o,w.aLZ,w.aC,w.aLf,w.aLd,w.aLk,w.aLe,w.aLp,List.set w.aLh (0:Int).toNat y.2.2⟩:M.aD))else some (x.1,x.2.1,(⟨w.Now,o,w.aLZ,w.aC,w.aLf,w.aLd,w.aLk,w.aLe,w.aLp,w.aLh⟩:M.aD))):=by
 obtain⟨j,hz,h3,U⟩:=hw
 simp only[M.aD.sz]at hz
 refine .bnd (bA c0) λi1 v1 r1 I q1=> ?_
 dsimp only
 split
 ·exact .bnd (xX (λx=> -1000000000000000<=x/\x<=1000000000000000) wh wh I) λi2 v2 r2 J C=>.ret J ⟨⟨bgI C,j.aLZ,j.aC,j.aLf,j.aLd,j.aLk,j.aLe,j.aLp,j.aLh⟩,ju⟩
 split
 ·exact .ret I ⟨⟨j.Now,zV,j.aC,j.aLf,j.aLd,j.aLk,j.aLe,j.aLp,j.aLh⟩,ju⟩
 split
 ·rw[show CK w.aLp 2=CK w.aLp ((2:Nat):Int)from rfl,FT wi,qA];have e:=yY (f:=M.aLa.sz) (w.aLp.take 2) (w.aLp.drop 2);rw[qo]at e;refine .ret I ⟨⟨j.Now,j.aLZ,j.aC,j.aLf,j.aLd,j.aLk,j.aLe,⟨ml (by show(List.take 2 w.aLp).length<=_;rw[qV];omega),λs U=>j.aLp.2 s (qk U)⟩,j.aLh⟩,?_⟩;simp only[M.aD.sz,show(2:Int).toNat=2 from rfl,qV];omega
 split
 ·refine .bnd (SL I) λi2 v2 r2 J C=>.ret J ⟨⟨j.Now,j.aLZ,C.G.ok wi,j.aLf,j.aLd,j.aLk,j.aLe,j.aLp,j.aLh⟩,?_⟩
  have g1:=C.G.1
  have g2:=C.G.2.2
  simp only[M.aD.sz,M.aC.sz]at hz⊢
  omega
 split
 ·refine .bnd (aAt I) λi2 v2 r2 J C=> ?_
  dsimp only
  rw[DY wA wi,qA]
  refine .ret J ⟨⟨j.Now,j.aLZ,j.aC,⟨ml (by rw[qE,qJ,qK];omega),λp hp=> ?_⟩,j.aLd,j.aLk,j.aLe,j.aLp,j.aLh⟩,?_⟩
  ·rcases qP.1 hp with hp|hp;(exact j.aLf.2 p hp);·rw[qQ.1 hp];exact C.1
  ·have e:=yY (f:=M.bO.sz) w.aLf [r2];have:=C.2;simp only[dV]at e;simp only[M.aD.sz,qE,qJ,qK];omega
 split
 ·exact .ret I ⟨⟨j.Now,j.aLZ,j.aC,j.aLf,zV,j.aLk,j.aLe,j.aLp,j.aLh⟩,ju⟩
 split
 ·refine .bnd (aAx I) λi2 v2 r2 J C=> ?_
  dsimp only
  rw[show idx w.aLh 0=idx w.aLh ((0:Nat):Int)from rfl,aM wi,qA]
  refine .ret J ⟨⟨j.Now,j.aLZ,j.aC,j.aLf,j.aLd,j.aLk,j.aLe,j.aLp,⟨ml (by show(List.set w.aLh 0 r2).length<=_;rw[qN];omega),λs U=> ?_⟩⟩,?_⟩
  ·rcases jD U with U|rfl;(exact j.aLh.2 s U);·exact C.1
  ·have e:=JQ (f:=M.aLj.sz) (x:=r2) (l:=w.aLh) (i:=0);have:=C.2;simp only[M.aD.sz,show(0:Int).toNat=0 from rfl,qN];omega
 ·exact .ret I ⟨⟨j.Now,j.aLZ,j.aC,j.aLf,j.aLd,j.aLk,j.aLe,j.aLp,j.aLh⟩,ju⟩
theorem aAi{b:List Int}{i h:Int}(j:okC b i h):Dr b (λv=>M.aD.ok v/\M.aD.sz v<=950000) (ES (⟨b,i,h⟩:M.bI)):=by
 unfold ES
 refine .bnd (W8 j) λi1 v1 U C J=>.bnd (CG C) λi2 v2 r2 I q2=> ?_
 exact aEJ (w:=U) (o:= !r2) I J
theorem Xp{I:List Int}(hl:I.length<=1500000)(hb:∀x∈I,0<=x/\x<=255):∃x,zP I=some x/\M.aD.ok x.1/\M.aD.sz x.1<=950000:=by unfold zP;obtain⟨h,e,c0⟩:=aC3 hl hb;rw[e,qA];obtain⟨i1,v1,w,e1,U,J⟩:=aAi c0;rw[e1,qA];dsimp only;by_cases hp:(w.aLf.length:Int)>0;(rw[jE (decide_eq_true hp)];obtain⟨i2,v2,r2,e2,c2,q2⟩:=CG (n:=6) U;rw[e2,qA];dsimp only;split;(obtain⟨i3,v3,r3,e3,c3,C⟩:=bA (n:=(w.aLf.length:Int)) c2;obtain⟨j,rfl⟩:=Dw C.1;have hj:=C.2.1 wi;rw[e3,qA,aM wi,qA];exact⟨_,rfl,J⟩);·obtain⟨i3,v3,r3,e3,c3,C⟩:=bA (n:=6) c2;rw[e3,qA];exact⟨_,rfl,J⟩);·rw[jF (by simpa using hp)];obtain⟨i3,v3,r3,e3,c3,C⟩:=bA (n:=6) U;rw[e3,qA];exact⟨_,rfl,J⟩
set_option maxHeartbeats 4000000 in
theorem aDU(p0:List Int)(hb:∀b∈p0,0<=b/\b<=255):uT p0=some true:=by
 unfold uT J1
 rw[qA]
 by_cases hl:(p0.length:Int)>1048576
 ·rw[jE (by simpa using hl)]
 rw[jF (by simpa using hl)]
 obtain⟨⟨w,i⟩,ed,I,hz⟩:=Xp (show p0.length<=1500000 by omega) hb
 rw[ed,qA]
 dsimp only at I hz⊢
 obtain⟨⟨v,c⟩,e1,e2,ok,_,_,hk⟩:=Uy (i:=i) I wi
 obtain⟨z,f1,f2,fo,fz⟩:=Zq (i:=i) I wi
 rw[e2,qA,e1,qA]
 dsimp only at ok⊢
 refine jn (v:=false) ?_ ?_
 ·rw[jF we,ET ok,qA,KM];rfl
 rw[jF we,D3 I,qA]
 obtain⟨k1,_,_,k4⟩:=hk
 dsimp only at k1 k4
 have hmx:=aY I.aC.Buckets.1
 have key:∀(n j:Nat),w.aC.Buckets.length-j<n->j<=w.aC.Buckets.length->gQ (w,i) (v,c) (G0 w i) n (j:Int)=some true:=by
  intro n
  induction n with
  |zero=>intro j h _;omega
  |succ n ih=>
   intro j hn hj
   simp only[gQ]
   by_cases hc:j<w.aC.Buckets.length/\0<=G0 w i/\CJ w=true
   ·obtain⟨C,J,c3⟩:=hc
    refine jn (v:=true) ?_ ?_
    ·rw[jE (bE C),jE (decide_eq_true J),DM I wi,qA,c3]
    obtain⟨q,eq,hq⟩:=dM (show ¬kP (λp:M.bO=>p.Id==i) w.aLf<0 from λh=>absurd J (Int.not_le.2 h))
    have U:G0 w i=(q:Int):=eq
    have K:=(k4 q _ U (qF hq)).2.2 j _ (qF C)
    have hB:=I.aC.Buckets.2 _ (qG C)
    rw[jE rfl,aM C,qA]
    refine jn (v:=false) ?_ ?_
    ·rw[U,aM hq,qA]
     generalize w.aLf[q]=p at K
     generalize w.aC.Buckets[j]=b at K hB
     have same:nAt p.aLa p.Top b=false->(if decide ((j:Int)>=(v.aC.Buckets.length:Int))=true then some true else(idx v.aC.Buckets (j:Int)).bind λx=>(nZ b x).bind λy=>some (!y))=some false:=λhf=>by obtain⟨d1,d2⟩:=qe.1 (K hf);rw[jF wX,aM d1,qA,d2,KQ hB hB,qA,Nl];rfl
     unfold nAt at same
     by_cases s1:(b.aLa.toList==p.aLa.toList)=true
     ·rw[s1]at same⊢;by_cases s2:(b.Top.toList==p.Top.toList)=true;(rw[s2,jF we,jF we]);·rw[jF we,jE (by simpa using s2)];exact same (by simpa using s2)
     ·rw[jE (by simpa using s1)];exact same (by simp[s1])
    rw[jF we,bL wi]
    exact ih (j+1) wi C
   ·refine jn (v:=false) ?_ ?_
    ·by_cases C:j<w.aC.Buckets.length
     ·rw[jE (bE C)]
      by_cases J:0<=G0 w i
      ·rw[jE (decide_eq_true J),DM I wi,qA]
       cases c3:CJ w with
       |false=>rfl
       |true=>exact absurd ⟨C,J,c3⟩ hc
      ·rw[jF (by simpa using J)]
     ·rw[jF (by simpa using C)]
    rw[jF we,f2,qA,f1,qA,ET fo,qA,KM,jE rfl]
    have fin:((tJ z i).bind λx=>(tK z i).bind λy=>some (x==y))=some true:=by obtain⟨d,d1,d2⟩:=aDD (f:=i) fo;rw[d2,qA,d1,qA,beq_self_eq_true]
    by_cases h0:c<0
    ·rw[jF (by simpa using h0),k1 h0,ET I,qA,KM,jE rfl,jE (by simpa using h0)];rfl
    ·rw[jE (by simpa using h0),jF (by simpa using h0),fin];rfl
 exact key aH 0 (nN wi) (Nat.zero_le _)
