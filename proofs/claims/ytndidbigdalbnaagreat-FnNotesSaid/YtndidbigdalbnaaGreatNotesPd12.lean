/-
  Helper text. No conditions.
-/
import Derived.Test.YtndidbigdalbnaaGreatNotesPd11
set_option linter.all false
namespace Go.Proofs.YtndidbigdalbnaaGreat.gen
open Go Go.Sh
open Go.IntKind (i64)
theorem QL{w:M.aE}{b:M.aKe}{ok:Bool}{j:Nat}{p:M.bK}(e:gJ (nAt p.aKl p.Top) w.aC.aKf=j)(J:j<w.aC.aKf.length)(h1:b.aKl=w.aC.aKf[j].aKl)(h2:b.Top=w.aC.aKf[j].Top)(hL:LG w.aC.aKf[j].bJ->LG b.bJ):NN w p (HC w b ok).1:=by
 have eL:=RT e J h1 h2
 obtain⟨_,hf⟩:=pY e
 have key:∀(i:Nat) (c:M.aKe),w.aC.aKf[i]? =some c->nAt p.aKl p.Top c=false->(w.aC.aKf.set j b)[i]? =some c:=λi c I hc=>by
  have U:j≠i:=λh=>by subst h;rw[qF J]at I;rw[qd I,hc]at hf;cases hf
  rw[List.getElem?_set_ne U]
  exact I
 have keyL:LGw w->∀c∈w.aC.aKf.set j b,LG c.bJ:=λC c hc=>by rcases jE hc with hc|rfl;(exact C c hc);·exact hL (C _ (qG J))
 unfold HC
 split
 ·split
  ·refine⟨rfl,rfl,?_,λC=> ?_⟩;rotate_left;(show ∀c∈(Ij w.aC b).1.aKf,LG c.bJ;unfold Ij Kr;rw[eL];split;(split;(exact keyL C);·exact C);·exact C);show ∀(i:Nat) (c:M.aKe),w.aC.aKf[i]? =some c->nAt p.aKl p.Top c=false->(Ij w.aC b).1.aKf[i]? =some c;unfold Ij Kr;rw[eL];split;(split;(exact key);·exact λ_ _ h _=>h);·exact λ_ _ h _=>h
  ·exact NN.refl w p
 ·exact NN.refl w p
def ZK(w:M.aE)(i:Int)(R:M.aE×Int):Prop:=(R.2<0->R.1=w)/\R.1.aK0=w.aK0/\R.1.aKr=w.aKr/\(∀(k:Nat) (p:M.bK),Lj w i=k->w.aKq[k]? =some p->NN w p R.1)/\(LGw w->LGw R.1)
theorem ZK.refl(w:M.aE)(i c:Int):ZK w i (w,c):=⟨λ_=>rfl,rfl,rfl,λ_ p _ _=>NN.refl w p,λh=>h⟩
theorem ZK.mk{w v:M.aE}{i c:Int}{k:Nat}{p:M.bK}{l:List M.bK}(hc:0<=c)(e:Lj w i=k)(I:w.aKq[k]? =some p)(h:NN w p v):ZK w i (⟨v.Now,v.aK4,v.aKk,v.aC,l,v.aKn,v.aKu,v.aKp,v.aK0,v.aKr⟩,c):=⟨λC=>absurd (show c<0 from C) wg,h.1,h.2.1,λU p' e' j=>by
 have:U=k:=by omega
 subst this
 rw[I]at j
 cases j
 exact h,λJ=>h.2.2.2 J⟩
theorem Xw{b o:M.aKe}(h:LG b.bJ->LG o.bJ):LG b.bJ->LG (Mb b o).1.bJ:=by unfold Mb;split;(split;(exact h);·exact λh=>h);·exact λh=>h
theorem Qn{w:M.aE}{b:M.aKe}{ok:Bool}{c j:Nat}{a t:ByteArray}(e:gJ (nAt a t) w.aC.aKf=j)(C:j<w.aC.aKf.length)(h1:b.aKl=w.aC.aKf[j].aKl)(h2:b.Top=w.aC.aKf[j].Top)(U:M.aKe.sz b<=M.aKe.sz w.aC.aKf[j]+c):M.aE.sz (HC w b ok).1<=M.aE.sz w+c:=by
 have I:=RT e C h1 h2
 have J:=JJ (f:=M.aKe.sz) (x:=b) C
 have key:M.aC.sz (Ij w.aC b).1<=M.aC.sz w.aC+c:=by unfold Ij Kr;rw[I];split;(split;(simp only[M.aC.sz,qN];omega);·exact jU _ _);·exact jU _ _
 unfold HC
 split
 ·split;(simp only[M.aE.sz];omega);·exact jU _ _
 ·exact jU _ _
theorem Sd{b o:M.aKe}{c:Nat}(h1:o.aKl=b.aKl)(h2:o.Top=b.Top)(j:M.aKe.sz o<=M.aKe.sz b+c):(Mb b o).1.aKl=b.aKl/\(Mb b o).1.Top=b.Top/\M.aKe.sz (Mb b o).1<=M.aKe.sz b+c:=by unfold Mb;split;(split;(exact⟨h1,h2,j⟩);·exact⟨rfl,rfl,jU _ _⟩);·exact⟨rfl,rfl,jU _ _⟩
def wrote(w:M.aE)(p:M.bK)(n:Int)(f:ByteArray)(v:Int)(R:M.aE×Bool):Prop:=(R.2=false->R.1=w)/\(R.2=true->∃(j:Nat) (q b:M.aKe),gJ (nAt p.aKl p.Top) w.aC.aKf=j/\w.aC.aKf[j]? =some q/\(GL (D9 (zV q.bJ).1 n) f v).2=true/\Vl q.bJ [Eg n (GL (D9 (zV q.bJ).1 n) f v).1]=true/\b.aKl=q.aKl/\b.Top=q.Top/\b.bJ=(tN q.bJ [Eg n (GL (D9 (zV q.bJ).1 n) f v).1]).1/\R.1.aC.aKf=w.aC.aKf.set j b)
theorem YD{k:M.bJ}{l:List M.fA}:(tN k l).2=Vl k l:=by unfold tN;cases Vl k l<;>rfl
theorem aDz{b o:M.aKe}(h:(Mb b o).2=true):(Mb b o).1=o:=by unfold Mb at h⊢;split at h;(rename_i h1;rw[jF h1];split at h;(rename_i h2;rw[jF h2]);·cases h);·cases h
theorem Ym{w:M.aE}{b:M.aKe}{ok:Bool}:((HC w b ok).2=false->(HC w b ok).1=w)/\((HC w b ok).2=true->ok=true/\(HC w b ok).1.aC.aKf=Ef w.aC b):=by unfold HC;split;(rename_i j;split;(rename_i h1;refine⟨λh=>(by cases h),λ_=>⟨j,?_⟩⟩;show(Ij w.aC b).1.aKf=_;unfold Ij Kr at h1⊢;split at h1;(rename_i h2;rw[jF h2];split at h1;(rename_i h3;rw[jF h3]);·cases h1);·cases h1);·exact⟨λ_=>rfl,λh=>by cases h⟩);·exact⟨λ_=>rfl,λh=>by cases h⟩
theorem W8{w:M.aE}{p:M.bK}{n v:Int}{f:ByteArray}(J:w.ok)(hn:inI n)(hv:inI v)(hf:f.size<=1500000)(hz:M.aE.sz w<=1500000):∃R:M.aE×Bool,AF w p n f v=some R/\FT w p n f v=some R/\R.1.ok/\M.aE.sz R.1<=M.aE.sz w+(f.size+1)/\R.1.aKq=w.aKq/\NN w p R.1:=by
 have hz':=hz
 simp only[M.aE.sz,M.aC.sz]at hz'
 have U:f.size<=maxLen:=by unfold maxLen;omega
 unfold AF FT mJ rE Bn
 rw[lF J.aC,xN J.aC,Ff w wg,BX w wg]
 simp only[qA]
 by_cases h:gJ (nAt p.aKl p.Top) w.aC.aKf<0
 ·simp only[h,jc,jI,qA];exact⟨(w,false),rfl,wb,J,jU _ _,rfl,NN.refl w p⟩
 ·obtain⟨j,ej,hj⟩:=cT h
  simp only[h,jd,qD,jH]
  rw[ej,aK hj]
  simp only[qA,qB,qD,jH]
  have hb:=J.aC.aKf.2 _ (qG hj)
  have z1:=dW (f:=M.aKe.sz) (qG hj)
  have B8:=λb ok=>QL (w:=w) (b:=b) (ok:=ok) (p:=p) ej hj
  have grow:=λb ok c=>Qn (w:=w) (b:=b) (ok:=ok) (c:=c) ej hj
  generalize w.aC.aKf[j]=q at hb z1 grow B8
  have z2:M.aH.sz q.aH<=M.aKe.sz q:=by simp only[M.aKe.sz];omega
  have z3:q.aH.aK3.aO.aKw.length<=M.aH.sz q.aH:=by simp only[M.aH.sz,M.aK3.sz,M.aO.sz];omega
  have hk:M.bD.ok ⟨1,n,⟨#[]⟩⟩:=⟨wJ,hn,by simp[maxLen,ByteArray.size]⟩
  rw[Hw hb.aH wg hk U hv,Mj hb.aH wg hk U hv]
  have C:=aDs (n:=v) hb.aH wg hk U hv
  have sz1:=aEE q.aH ⟨1,n,⟨#[]⟩⟩ f v
  generalize nWL q.aH ⟨1,n,⟨#[]⟩⟩ f v=T at C sz1
  obtain⟨r,c⟩:=T
  have hk0:(⟨#[]⟩:ByteArray).size=0:=rfl
  simp only[hk0]at C sz1
  simp only[qA]
  have zo:M.aKc.sz (eV q r).bJ.aK1<=1500000:=AW (b:=q) wg
  have zr:=Gk q r
  have zc:=ZP q (eV q r)
  have zd:=ZA (b:=q) (o:=eV q r) wg zo
  have I:=Y8 hb (FX hb C)
  rw[JC hb C wg wg zo,Jx hb C wg wg zo]
  simp only[qA]
  have yg:=Sd (b:=q) (o:=eV q r) (c:=f.size+1) rfl rfl (by simp only[eV,M.aKe.sz];omega)
  have yl:=Xw (b:=q) (o:=eV q r) (λh=>h)
  generalize Mb q (eV q r)=Y at yl zc I zd yg
  rw[FA J I hz wg zd,FA J I hz wg zd,Hu J.aC I (DF hz) wg zd]
  simp only[qA]
  have ok4:=Wj (ok:=c&&Y.2) J I hz
  have sz4:=grow Y.1 (c&&Y.2) (f.size+1) yg.1 yg.2.1 yg.2.2
  refine⟨HC w Y.1 (c&&Y.2),?_,?_,ok4,sz4,OC _ _ _,B8 Y.1 (c&&Y.2) yg.1 yg.2.1 yl⟩
  ·cases c<;>simp
  ·unfold HC;cases c;(simp);·cases Y.2;(simp);·cases (Ij w.aC Y.1).2<;>simp
theorem KH{w:M.aE}{p:M.bK}{n v:Int}{f:ByteArray}(U:w.ok)(hn:inI n)(hv:inI v)(hf:f.size<=1500000)(hz:M.aE.sz w<=1500000):∃R:M.aE×Bool,hY w p n f v=some R/\yQ w p n f v=some R/\R.1.ok/\M.aE.sz R.1<=M.aE.sz w+(4000)/\R.1.aKq=w.aKq/\NN w p R.1/\wrote w p n f v R:=by
 have hz':=hz
 simp only[M.aE.sz,M.aC.sz]at hz'
 have hfm:f.size<=maxLen:=by unfold maxLen;omega
 unfold hY yQ mJ rE Bn
 rw[lF U.aC,xN U.aC,Ff w wg,BX w wg]
 simp only[qA]
 by_cases h:gJ (nAt p.aKl p.Top) w.aC.aKf<0
 ·simp only[h,jc,jI,qA];exact⟨(w,false),rfl,wb,U,jU _ _,rfl,NN.refl w p,λ_=>rfl,λh=>by cases h⟩
 ·obtain⟨j,ej,hj⟩:=cT h
  simp only[h,jd,qD,jH]
  rw[ej,aK hj]
  simp only[qA,qB,qD,jH]
  have hb:=U.aC.aKf.2 _ (qG hj)
  have z1:=dW (f:=M.aKe.sz) (qG hj)
  have B8:=λb ok=>QL (w:=w) (b:=b) (ok:=ok) (p:=p) ej hj
  have grow:=λb ok c=>Qn (w:=w) (b:=b) (ok:=ok) (c:=c) ej hj
  have hq:w.aC.aKf[j]? =some w.aC.aKf[j]:=qF hj
  have pZ:=λb=>RT (w:=w) (b:=b) ej hj
  generalize w.aC.aKf[j]=q at hb z1 grow B8 hq pZ
  have z2:M.bJ.sz q.bJ<=M.aKe.sz q:=by simp only[M.aKe.sz];omega
  obtain⟨v1,v2⟩:=FU hb.bJ wg
  obtain⟨g,eg⟩:=Lv (n:=n) v1
  have nk:=RO (n:=n) v1
  have nz:=ZV (n:=n) v2
  have nl:(D9 (zV q.bJ).1 n).aKj.length<=1500000:=by simp only[M.aF.sz]at nz;omega
  rw[Im hb.bJ wg,Gl hb.bJ wg]
  simp only[qA]
  rw[eg]
  simp only[qA]
  rw[Cf nk wg hfm hv,DW nk wg hfm hv]
  simp only[qA]
  have ok0:=Ml nk wg hfm hv
  generalize hS:GL (D9 (zV q.bJ).1 n) f v=S at ok0
  obtain⟨r,c0⟩:=S
  have ho:∀o∈[⟨1,⟨#[110,111,116,101,115]⟩,⟨1,n,⟨#[]⟩⟩,r,⟨#[]⟩⟩],Kb o:=λo hx=>by rw[qQ.1 hx];exact⟨by show inI 1;unfold inI;omega,(by show(⟨#[110,111,116,101,115]⟩:ByteArray).size<=maxLen;exact UZ _ we),⟨by show inI 1;unfold inI;omega,hn,sz0⟩,ok0,sz0⟩
  rw[Hq hb.bJ wg wb ho,MB hb.bJ wg wb ho]
  obtain⟨C,sz1,eb⟩:=JH (l:=[⟨1,⟨#[110,111,116,101,115]⟩,⟨1,n,⟨#[]⟩⟩,r,⟨#[]⟩⟩]) hb.bJ
  have lt:=λh:LG q.bJ=>h.So (l:=[⟨1,⟨#[110,111,116,101,115]⟩,⟨1,n,⟨#[]⟩⟩,r,⟨#[]⟩⟩]) hb.bJ
  generalize hT:tN q.bJ [⟨1,(⟨#[110,111,116,101,115]⟩:ByteArray),(⟨1,n,(⟨#[]⟩:ByteArray)⟩:M.bD),r,(⟨#[]⟩:ByteArray)⟩]=T at C sz1 eb lt
  obtain⟨k,c⟩:=T
  dsimp only at C sz1 eb
  simp only[qA]
  have zo:M.aKc.sz (oK q k).bJ.aK1<=1500000:=by show M.aKc.sz k.aK1<=_;rw[eb];exact AW (b:=q) wg
  have zr:=I6 q k
  have zc:=ZP q (oK q k)
  have zd:=ZA (b:=q) (o:=oK q k) wg zo
  have I:=Y8 hb (IZ hb C)
  rw[Lw hb C wg wg zo,K8 hb C wg wg zo]
  simp only[qA]
  have J:=Sd (b:=q) (o:=oK q k) (c:=4000) rfl rfl (by simp only[oK,M.aKe.sz];omega)
  have yl:=Xw (b:=q) (o:=oK q k) lt
  have y2:=aDz (b:=q) (o:=oK q k)
  generalize Mb q (oK q k)=Y at yl y2 zc I zd J
  rw[FA U I hz wg zd,FA U I hz wg zd,Hu U.aC I (DF hz) wg zd]
  simp only[qA]
  generalize Pm (zV q.bJ).1=c1
  have ok4:=Wj (ok:=c1&&(c0&&(c&&Y.2))) U I hz
  have sz4:=grow Y.1 (c1&&(c0&&(c&&Y.2))) (4000) J.1 J.2.1 J.2.2
  refine⟨HC w Y.1 (c1&&(c0&&(c&&Y.2))),?_,?_,ok4,sz4,OC _ _ _,B8 Y.1 (c1&&(c0&&(c&&Y.2))) J.1 J.2.1 yl,?_⟩
  rotate_left 2
  ·refine⟨Ym.1,λh=> ?_⟩;obtain⟨hf,hB⟩:=Ym.2 h;simp only[qM]at hf;obtain⟨_,f1,f2,f3⟩:=hf;have hY2:=y2 f3;refine⟨j,q,Y.1,ej,hq,by rw[hS];exact f1,?_,J.1,J.2.1,?_,by rw[hB];exact pZ Y.1 J.1 J.2.1⟩;(rw[hS,<-YD];show(tN q.bJ [(⟨1,(⟨#[110,111,116,101,115]⟩:ByteArray),(⟨1,n,(⟨#[]⟩:ByteArray)⟩:M.bD),r,(⟨#[]⟩:ByteArray)⟩:M.fA)]).2=true;rw[hT];exact f2);·rw[hY2,hS];show k=(tN q.bJ [(⟨1,(⟨#[110,111,116,101,115]⟩:ByteArray),(⟨1,n,(⟨#[]⟩:ByteArray)⟩:M.bD),r,(⟨#[]⟩:ByteArray)⟩:M.fA)]).1;rw[hT]
  ·cases c1<;>cases c0<;>cases c<;>simp
  ·unfold HC;cases c1;(simp);cases c0;(simp);cases c;(simp);·cases Y.2;(simp);·cases (Ij w.aC Y.1).2<;>simp
theorem Z5{k r n m:Int}{t:ByteArray}(j:t.size<=maxLen)(h:Nk ⟨k,r,n,t⟩ m=true):inR k 1 9=true/\inR r 0 3=true/\(k=2->inR n 0 3=true)/\(k=5\/k=6\/k=7\/k=8->t.size<=8):=by
 unfold Nk BS at h
 simp only[bX,dG j,qA]at h
 cases hk:inR k 1 9 with
 |false=>
  rw[hk]at h
  exact absurd h wb
 |true=>
  rw[hk]at h
  cases hr:inR r 0 3 with
  |false=>
   rw[hr]at h
   exact absurd h wb
  |true=>
   rw[hr]at h
   refine⟨rfl,rfl,λh2=> ?_,λh2=> ?_⟩
   ·subst h2;simp+decide only[jI,jH,qA,aGW,qB]at h;revert h;cases inR n 0 3<;>cases (t.toList==(⟨#[]⟩:ByteArray).toList)<;>simp
   ·cases j:oO t with
    |true=>
     unfold oO inR at j
     simp only[qM,qL]at j
     omega
    |false=>
     rw[j]at h
     rcases h2 with rfl|rfl|rfl|rfl<;>exact absurd h (by simp+decide [aGW])
def aB3(v:Int):Int:=if(if v<1000 then v else 1000)>(-1)then if v<1000 then v else 1000 else -1
theorem aDM(v:Int): -1<=aB3 v/\aB3 v<=1000:=by unfold aB3;split<;>split at* <;>omega
theorem Pu(v:Int):DY v=some (aB3 v):=rfl
theorem NA(v:Int):uW v=some (aB3 v):=by unfold uW dS zO aB3;by_cases h:v<1000;(simp only[h,jc,jI,qA];by_cases h2:v> -1;(simp only[h2,jc,jI,qA]);·simp only[h2,jd,qD,jH,qA]);·simp only[h,jd,qD,jH,qA];rfl
def ZN(m:M.aKh)(R:M.aKh×M.Ask):Prop:=R.1.aLA=m.aLA/\R.1.aLN.length=m.aLN.length/\(∀y∈R.1.aLN,inI y)/\inI R.1.Pc/\inI R.1.aLM/\(0<=R.2.aKx/\R.2.aKx<=4)/\inI R.2.N/\inI R.2.Value/\R.2.aK5.size<=8/\(R.2.aKx=0->iI R.1=some (R.1,⟨0,0,0,⟨#[]⟩,0⟩))
theorem Zf{r:List Int}{v:Int}{j:Nat}(C:∀y∈r,inI y)(I:inI v):∀y∈r.set j v,inI y:=λy J=>by rcases jE J with h|rfl;(exact C y h);·exact I
theorem Zj{n m:Int}(h:inR n 0 m=true):∃j:Nat,n=j/\j<=m:=by unfold inR at h;simp only[qM,qL]at h;obtain⟨j,rfl⟩:=jV h.1;exact⟨j,rfl,h.2⟩
theorem aDY{m:M.aKh}(j:m.aLU=true)(C:M.aKh.sz m<=1073741824):iI m=some (m,⟨0,0,0,⟨#[]⟩,0⟩):=by unfold iI;rw[zW m C,qA,jF j]
theorem ZJ{m:M.aKh}(hm:m.ok)(hz:M.aKh.sz m<=1500000)(h4:m.aLN.length=4)(hwt:m.aLR=false):∀(n:Nat) (U st:Int) (r:List Int),(60-st).toNat<n->0<=st->inI st->inI U->r.length=4->(∀y∈r,inI y)->∃R,eK m n U st r=some R/\fT m n U st r=some R/\ZN m R
 |0,_,_,_,h,_,_,_,_,_=>absurd h (Nat.not_lt_zero _)
 |n+1,U,st,r,hn,h0,hs,hp,hl,hr=>by
  have hz':=hz
  simp only[M.aKh.sz]at hz'
  have good:∀(p s:Int) (b c:Bool) (a:M.Ask),inI p->inI s->(1<=a.aKx/\a.aKx<=4)->inI a.N->inI a.Value->a.aK5.size<=8->ZN m (⟨m.aLA,p,r,s,b,c⟩,a):=λp s b c a k1 k2 k3 k4 k5 k6=>⟨rfl,by rw[h4];exact hl,hr,k1,k2,⟨by have:=k3.1;show 0<=a.aKx;omega,k3.2⟩,k4,k5,k6,λh=>absurd (show a.aKx=0 from h) (by have:=k3.1;omega)⟩
  have stop:∀(p s:Int) (c:Bool),inI p->inI s->ZN m (⟨m.aLA,p,r,s,true,c⟩,⟨0,0,0,⟨#[]⟩,0⟩):=λp s c k1 k2=>⟨rfl,by rw[h4];exact hl,hr,k1,k2,⟨Int.le_refl _,by show 0<=4;omega⟩,yH,yH,Nat.zero_le _,λ_=>aDY rfl (by simp only[M.aKh.sz];omega)⟩
  have el:i64.wrap (m.aLA.length-1)=(m.aLA.length)-1:=bO wg wg
  simp only[eK,fT,cO,qA,el,hwt]
  by_cases h1:U<0
  ·have e:inR U 0 (m.aLA.length-1)=false:=by unfold inR;simp;omega
   rw[e,jF (show(!false)=true from rfl),jF (by simpa using h1)]
   exact⟨_,rfl,rfl,stop _ _ _ hp hs⟩
  ·by_cases h2:U>=(m.aLA.length)
   ·have e:inR U 0 ((List.length m.aLA:Int)-1)=false:=by unfold inR;simp;omega
    rw[e,jF (show(!false)=true from rfl),jG (by simpa using h1),jF (by simpa using h2)]
    exact⟨_,rfl,rfl,stop _ _ _ hp hs⟩
   ·have e:inR U 0 ((List.length m.aLA:Int)-1)=true:=by unfold inR;simp;omega
    obtain⟨k,rfl⟩:=jV (show 0<=U by omega)
    have hk:k<m.aLA.length:=by omega
    have hx:=hm.aLA.2 _ (qG hk)
    rw[e,jG wb,jG (by simpa using h1),jG (by simpa using h2),aK hk]
    simp only[qA]
    generalize m.aLA[k]=x at hx
    rw[J3 hx,PO hx]
    simp only[qA]
    cases hi:Nk x (List.length m.aLA:Int)with
    |false=>exact⟨_,rfl,rfl,stop _ _ _ hp hs⟩
    |true=>
     simp only[qB,qD,jH]
     by_cases h6:st>=60
     ·simp only[h6,jc,jI];exact⟨_,rfl,rfl,stop _ _ _ hp hs⟩
     ·simp only[h6,jd,qD,jH]
      have ew:i64.wrap (st+1)=st+1:=bO wg wg
      rw[ew]
      obtain⟨kd,rr,nn,tt⟩:=x
      obtain⟨q1,q2,q3,q6⟩:=Z5 hx.aK5 hi
      have q4:inI nn:=hx.N
      clear hi hx
      have J:inI (st+1):=by unfold inI;omega
      have C:=bS ((k:Int)+1)
      have IH:=λ(pc':Int) (r':List Int) (a:inI pc') (b:r'.length=4) (c:∀y∈r',inI y)=>ZJ hm hz h4 hwt n pc' (st+1) r' wg wg J a b c
      obtain⟨j,rfl,hj⟩:=Zj q2
      have I:j<r.length:=by omega
      have ij:=hr _ (qG I)
      rcases Qt q1 with rfl|rfl|rfl|rfl|rfl|rfl|rfl|rfl|rfl
      ·simp+decide only[jI,jH];rw[aK I];simp only[qA,qH];exact IH _ _ C (by rw[qN];exact hl) (Zf hr q4)
      ·obtain⟨i,rfl,hi⟩:=Zj (q3 rfl)
       have hi':i<r.length:=by omega
       simp+decide only[jI,jH]
       rw[aK I,aK hi']
       simp only[qA,NA,Pu,qH]
       refine IH _ _ C (by rw[qN];exact hl) (Zf hr ?_)
       have:=aDM (i64.wrap (aB3 r[j]+aB3 r[i]))
       unfold inI
       omega
      ·simp+decide only[jI,jH];rw[aK I];simp only[qA];by_cases hb:(r[j]==0)=true;(rw[jF hb,jF hb];exact IH _ _ q4 hl hr);·rw[jG hb,jG hb];exact IH _ _ C hl hr
      ·simp+decide only[jI,jH];exact IH _ _ q4 hl hr
      ·simp+decide only[jI,jH,Ah,qA];exact⟨_,rfl,rfl,good _ _ _ _ _ C J (by show(1:Int)<=1/\(1:Int)<=4;omega) yH yH (q6 wg)⟩
      ·simp+decide only[jI,jH,Ah,qA];exact⟨_,rfl,rfl,good _ _ _ _ _ C J (by show(1:Int)<=2/\(2:Int)<=4;omega) q4 yH (q6 wg)⟩
      ·simp+decide only[jI,jH,Ah];rw[aK I];exact⟨_,rfl,rfl,good _ _ _ _ _ C J (by show(1:Int)<=3/\(3:Int)<=4;omega) q4 ij (q6 wg)⟩
      ·simp+decide only[jI,jH,Ah];rw[aK I];exact⟨_,rfl,rfl,good _ _ _ _ _ C J (by show(1:Int)<=4/\(4:Int)<=4;omega) q4 ij (q6 wg)⟩
      ·simp+decide only[jI,jH];exact⟨_,rfl,rfl,stop _ _ _ C J⟩
theorem RV{m:M.aKh}(h:m.aLU=true\/m.aLR=true \/¬m.aLN.length=4\/m.aLM<0)(j:M.aKh.sz m<=1073741824):iI m=some (m,⟨0,0,0,⟨#[]⟩,0⟩):=by unfold iI;rw[zW m j,qA];by_cases hd:m.aLU=true;(rw[jF hd]);·rw[jG hd];by_cases hw:m.aLR=true;(rw[jF hw]);·rw[jG hw];by_cases h4:m.aLN.length=4;(rw[jG (by simp[h4]),jF (by rcases h with h|h|h|h;(exact absurd h hd);(exact absurd h hw);(exact absurd h4 h);·simpa using h)]);·rw[jF wV]
theorem SB{m:M.aKh}(j:m.ok)(I:M.aKh.sz m<=1500000):∃R,Bb m=some R/\iI m=some R/\ZN m R:=by
 have C:=I
 simp only[M.aKh.sz]at C
 unfold Bb iI
 rw[GO m wg,zW m wg]
 simp only[qA]
 have same:iI m=some (m,⟨0,0,0,⟨#[]⟩,0⟩)->ZN m (m,⟨0,0,0,⟨#[]⟩,0⟩):=λh=>⟨rfl,rfl,j.aLN.2,j.Pc,j.aLM,⟨Int.le_refl _,by show 0<=4;omega⟩,yH,yH,Nat.zero_le _,λ_=>h⟩
 by_cases hd:m.aLU=true
 ·rw[jF hd,jF hd];exact⟨_,rfl,rfl,same (RV (.inl hd) wg)⟩
 ·rw[jG hd,jG hd]
  by_cases hw:m.aLR=true
  ·rw[jF hw,jF hw];exact⟨_,rfl,rfl,same (RV (.inr (.inl hw)) wg)⟩
  ·rw[jG hw,jG hw]
   by_cases h4:m.aLN.length=4
   ·have e4:((m.aLN.length:Int) !=4)=false:=by simp[h4]
    simp only[e4,qD,jH]
    by_cases hs:m.aLM<0
    ·simp only[hs,jc,jI];exact⟨_,rfl,rfl,same (RV (.inr (.inr (.inr hs))) wg)⟩
    ·simp only[hs,jd,qD,jH];exact ZJ j wg h4 (by simpa using hw) aJ m.Pc m.aLM m.aLN wG wg j.aLM j.Pc h4 j.aLN.2
   ·have e:((m.aLN.length:Int) !=4)=true:=by simp;omega
    rw[jF e,jF e]
    exact⟨_,rfl,rfl,same (RV (.inr (.inr (.inl h4))) wg)⟩
theorem IV{m:M.aKh}(C:m.ok)(hz:M.aKh.sz m<=1500000)(r n:Int):∃R,pP m r n=some R/\AD m r n=some R/\R.1.ok/\M.aKh.sz R.1=M.aKh.sz m:=by
 have J:=hz
 simp only[M.aKh.sz]at J
 unfold pP AD
 rw[GO m wg,zW m wg]
 have U:i64.wrap (m.aLN.length-1)=(m.aLN.length)-1:=bO wg wg
 simp only[qA,cO,bX,U]
 by_cases hw:(!m.aLR)=true
 ·rw[jF hw,jF hw];exact⟨_,rfl,rfl,C,rfl⟩
 ·rw[jG hw,jG hw]
  by_cases h1:r<0
  ·have e:inR r 0 (m.aLN.length-1)=false:=by unfold inR;simp;omega
   simp only[e,h1,jc,qC,jI]
   exact⟨_,rfl,rfl,C,rfl⟩
  ·by_cases h2:r>=(m.aLN.length)
   ·have e:inR r 0 (m.aLN.length-1)=false:=by unfold inR;simp;omega
    simp only[e,h1,h2,jc,jd,qC,qD,jI,jH]
    exact⟨_,rfl,rfl,C,rfl⟩
   ·have e:inR r 0 (m.aLN.length-1)=true:=by unfold inR;simp;omega
    simp only[e,h1,h2,jd,qB,qD,jH]
    obtain⟨j,rfl⟩:=jV (show 0<=r by omega)
    have hj:j<m.aLN.length:=by omega
    rw[aK hj]
    by_cases I:inR n (-1) 1000=true
    ·simp only[I,qB,qD,jH,qA,qH]
     have hn:inI n:=by unfold inR at I;simp only[qM,qL]at I;unfold inI;omega
     exact⟨_,rfl,rfl,⟨C.aLA,C.Pc,⟨by rw[qN];exact C.aLN.1,Zf C.aLN.2 hn⟩,C.aLM⟩,by simp only[M.aKh.sz,qN]⟩
    ·have I:inR n (-1) 1000=false:=by simpa using I
     simp only[I,qC,jI]
     exact⟨_,rfl,rfl,C,rfl⟩
theorem Wn(p:M.bK)(m:M.aKh)(f:ByteArray)(x:M.aKo):Eh ⟨p.Id,p.aKl,p.Top,p.aKb,p.aT,m⟩ f x=(⟨(Eh p f x).1.Id,(Eh p f x).1.aKl,(Eh p f x).1.Top,(Eh p f x).1.aKb,(Eh p f x).1.aT,m⟩,(Eh p f x).2):=by unfold Eh Gt;dsimp only;rw[show Hs ⟨p.Id,p.aKl,p.Top,p.aKb,p.aT,m⟩=Hs p from rfl,show Hs ⟨p.Id,p.aKl,p.Top,p.aKb,p.aT++[⟨f,x.aKb⟩],m⟩=Hs ⟨p.Id,p.aKl,p.Top,p.aKb,p.aT++[⟨f,x.aKb⟩],p.aKh⟩from rfl];cases (x.aLV !=200)<;>cases (x.aKb !=p.aKb)<;>cases Hs p<;>cases Hs ⟨p.Id,p.aKl,p.Top,p.aKb,p.aT++[⟨f,x.aKb⟩],p.aKh⟩<;>rfl
theorem Oe(v:Int):zO 0 v=some (if v>0 then v else 0):=by unfold zO;by_cases h:v>0;(simp only[h,jc,jI]);·simp only[h,jd,qD,jH]
theorem aCx(p:M.bK)(f:ByteArray)(x:M.aKo):(Eh p f x).1.aKh=p.aKh:=by unfold Eh Gt;split;(rfl);·split;(rfl);·split;(split<;>rfl);·rfl
theorem aC7{w:M.aE}{i:Int}(C:w.ok)(hz:M.aE.sz w<=1500000):∃R:M.aE×Int,AH w i=some R/\I9 w i=some R/\R.1.ok/\M.aE.sz R.1<=M.aE.sz w+6000/\(R.2<=0->R.1=w \/∃(k:Nat) (p:M.bK),Lj R.1 i=k/\R.1.aKq[k]? =some p/\iI p.aKh=some (p.aKh,⟨0,0,0,⟨#[]⟩,0⟩)/\M.aE.sz R.1<=M.aE.sz w)/\ZK w i R:=by
 have hz':=hz
 simp only[M.aE.sz]at hz'
 unfold AH I9
 rw[BX w wg,Ff w wg,qA,qA,H6 C,Nv C,qA,qA,GV C hz,PT C hz,qA,qA]
 cases hn:Dz w with
 |false=>exact⟨(w,-1),wb,wb,C,jU _ _,λ_=>.inl rfl,.refl w i _⟩
 |true=>
  simp only[qB,qD,jH]
  by_cases h:Lj w i<0
  ·simp only[h,jc,jI];exact⟨(w,-1),rfl,rfl,C,jU _ _,λ_=>.inl rfl,.refl w i _⟩
  ·obtain⟨k,e,hk⟩:=cT (show ¬gJ (λp:M.bK=>p.Id==i) w.aKq<0 from h)
   simp only[h,jd,qD,jH]
   have hy:=dW (f:=M.bK.sz) (qG hk)
   have hp:=C.aKq.2 _ (qG hk)
   rw[show Lj w i=k from e]
   obtain⟨p,hp0⟩:∃p,w.aKq[k]=p:=⟨_,rfl⟩
   have hix:∀v:M.aE,v.aKq=w.aKq->idx v.aKq k=some p:=λv j=>by rw[j,aK hk,hp0]
   have pZ:∀q:M.bK,dO M.bK.sz (w.aKq.set k q)+M.bK.sz p=dO M.bK.sz w.aKq+M.bK.sz q:=λq=>by have:=JJ (f:=M.bK.sz) (x:=q) hk;rw[hp0]at this;exact this
   have I:w.aKq[k]? =some p:=by rw[qF hk,hp0]
   have ek:Lj w i=k:=e
   obtain⟨_,hid⟩:=pY e
   rw[hp0]at hy hp hid
   rw[hix w rfl]
   simp only[qA,qH]
   have zl:p.aT.length<=M.bK.sz p:=by simp only[M.bK.sz];omega
   have zm:M.aKh.sz p.aKh<=M.bK.sz p:=by simp only[M.bK.sz];omega
   obtain⟨⟨m,a⟩,r1,r2,g1,g2,g3,g4,g5,g6,g7,g8,g9,aa⟩:=SB hp.aKh wg
   dsimp only at g1 g2 g3 g4 g5 g6 g7 g8 g9 aa
   rw[GU p wg,Gb p wg,r1]
   simp only[qA]
   rw[r2]
   simp only[qA]
   have hfm:a.aK5.size<=maxLen:=by unfold maxLen;omega
   have em:M.aKh.sz m=M.aKh.sz p.aKh:=by simp only[M.aKh.sz];rw[g1,g2]
   have J:M.aKh.ok m:=⟨by rw[g1];exact hp.aKh.aLA,g4,⟨by rw[g2];exact hp.aKh.aLN.1,g3⟩,g5⟩
   have U:∀(q:M.bK) (o:M.aKh),q.ok->o.ok->M.bK.ok ⟨q.Id,q.aKl,q.Top,q.aKb,q.aT,o⟩:=λq o I ho=>⟨I.Id,I.aKl,I.Top,I.aKb,I.aT,ho⟩
   have psz:∀(q:M.bK) (o:M.aKh),M.bK.sz ⟨q.Id,q.aKl,q.Top,q.aKb,q.aT,o⟩+M.aKh.sz q.aKh=M.bK.sz q+M.aKh.sz o:=λq o=>by simp only[M.bK.sz];omega
   have fin:∀(v:M.aE) (q:M.bK) (c:Nat),v.ok->M.aE.sz v<=M.aE.sz w+c->v.aKq=w.aKq->q.ok->M.bK.sz q<=M.bK.sz p+20->M.aE.ok ⟨v.Now,v.aK4,v.aKk,v.aC,v.aKq.set k q,v.aKn,v.aKu,v.aKp,v.aK0,v.aKr⟩/\M.aE.sz ⟨v.Now,v.aK4,v.aKk,v.aC,v.aKq.set k q,v.aKn,v.aKu,v.aKp,v.aK0,v.aKr⟩+M.bK.sz p<=M.aE.sz w+c+M.bK.sz q:=λv q c j zv hvp I zq=>by
    have hs:=pZ q
    rw[<-hvp]at hs
    refine⟨⟨j.Now,j.aKk,j.aC,⟨by rw[qN];exact j.aKq.1,λy hy=> ?_⟩,j.aKn,j.aKu,j.aKp,j.aK0,j.aKr⟩,?_⟩
    ·rcases jE hy with hy|rfl;(exact j.aKq.2 _ hy);·exact I
    ·have zv':=zv
     rw[show M.aE.sz v=(M.aE.sz v-dO M.bK.sz v.aKq)+dO M.bK.sz v.aKq by simp only[M.aE.sz];omega]at zv'
     have hs2:M.aE.sz (⟨v.Now,v.aK4,v.aKk,v.aC,List.set v.aKq k q,v.aKn,v.aKu,v.aKp,v.aK0,v.aKr⟩:M.aE)+dO M.bK.sz v.aKq=M.aE.sz v+dO M.bK.sz (v.aKq.set k q):=by simp only[M.aE.sz,qN];omega
     omega
   by_cases k1:(a.aKx==1)=true
   ·rw[jF k1,jF k1];obtain⟨x,e1,e2,e3⟩:=aBR (f:=a.aK5) C hp hn hz wg;have e1':gC w (⟨p.Id,p.aKl,p.Top,p.aKb,p.aT,m⟩:M.bK) a.aK5=some x:=e1;rw[e1',e2];simp only[qA];have zq:=psz p m;rw[Gq (U p m hp J) (by show p.aT.length<=_;omega) wg hfm e3.aKb,Pe hp wg wg hfm e3.aKb,Wn];simp only[qA];have lok:=RQ (x:=x) hp wg hfm e3.aKb;have lsz:=Rl p a.aK5 x;have lm:=aCx p a.aK5 x;generalize (Eh p a.aK5 x).1=L at lok lsz lm;obtain⟨T,t1,t2,t3,t4⟩:=IV J wg a.R x.aLV;rw[t1,t2];simp only[qA];have f1:=psz L T.1;rw[lm]at f1;obtain⟨f2,f3⟩:=fin w _ 0 C (jU _ _) rfl (U L T.1 lok t3) wg;exact⟨_,rfl,rfl,f2,wH,λh=>absurd (show a.aKx<=0 from h) (by have:=eq_of_beq k1;omega),.mk g6.1 ek I (.refl w p)⟩
   ·rw[jG k1,jG k1]
    by_cases k2:(a.aKx==2)=true
    ·rw[jF k2,jF k2];have e1:mI w (⟨p.Id,p.aKl,p.Top,p.aKb,p.aT,m⟩:M.bK) a.N a.aK5=some (Jh w p a.N a.aK5):=Je (p:=p) C hz;rw[e1,Jn C hz];simp only[qA];obtain⟨T,t1,t2,t3,t4⟩:=IV J wg a.R (Jh w p a.N a.aK5);rw[t1,t2];simp only[qA];have f1:=psz p T.1;obtain⟨f2,f3⟩:=fin w _ 0 C (jU _ _) rfl (U p T.1 hp t3) wg;exact⟨_,rfl,rfl,f2,wH,λh=>absurd (show a.aKx<=0 from h) (by have:=eq_of_beq k2;omega),.mk g6.1 ek I (.refl w p)⟩
    ·rw[jG k2,jG k2]
     have j:inI (if a.Value>0 then a.Value else 0):=by split;(exact g8);·exact yH
     have f1:=psz p m
     by_cases k3:(a.aKx==3)=true
     ·rw[jF k3,jF k3,Oe,qA];obtain⟨T,t1,t2,t3,t4,t5,t6,_⟩:=KH (p:=p) (n:=a.N) (f:=a.aK5) C g7 j wg hz;have t1':hY w (⟨p.Id,p.aKl,p.Top,p.aKb,p.aT,m⟩:M.bK) a.N a.aK5 (if a.Value>0 then a.Value else 0)=some T:=t1;rw[t1',t2];simp only[qA];rw[hix T.1 t5];simp only[qA];obtain⟨f2,f3⟩:=fin T.1 _ 4000 t3 t4 t5 (U p m hp J) wg;exact⟨_,rfl,rfl,f2,wH,λh=>absurd (show a.aKx<=0 from h) (by have:=eq_of_beq k3;omega),.mk g6.1 ek I t6⟩
     ·rw[jG k3,jG k3]
      by_cases k4:(a.aKx==4)=true
      ·rw[jF k4,jF k4,Oe,qA];obtain⟨T,t1,t2,t3,t4,t5,t6⟩:=W8 (p:=p) (n:=a.N) (f:=a.aK5) C g7 j wg hz;have t1':AF w (⟨p.Id,p.aKl,p.Top,p.aKb,p.aT,m⟩:M.bK) a.N a.aK5 (if a.Value>0 then a.Value else 0)=some T:=t1;rw[t1',t2];simp only[qA];rw[hix T.1 t5];simp only[qA];obtain⟨f2,f3⟩:=fin T.1 _ (a.aK5.size+1) t3 t4 t5 (U p m hp J) wg;exact⟨_,rfl,rfl,f2,wH,λh=>absurd (show a.aKx<=0 from h) (by have:=eq_of_beq k4;omega),.mk g6.1 ek I t6⟩
      ·rw[jG k4,jG k4]
       obtain⟨f2,f3⟩:=fin w _ 0 C (jU _ _) rfl (U p m hp J) wg
       have k5:a.aKx=0:=by rw[beq_iff_eq]at k1 k2 k3 k4;omega
       have fx:=JG (x:=(⟨p.Id,p.aKl,p.Top,p.aKb,p.aT,m⟩:M.bK)) e hid
       exact⟨_,rfl,rfl,f2,wH,λ_=>.inr ⟨k,_,fx.1,fx.2,aa k5,wH⟩,.mk g6.1 ek I (.refl w p)⟩
def wdJ(Z:Nat)(w:M.aE):Prop:=w.ok/\M.aE.sz w<=Z/\w.aK0.length=3/\w.aKr.length=3/\LGw w
theorem aEX{Z:Nat}{w:M.aE}{i:Int}(h:wdJ Z w)(j:Z<=1000000):∃R:M.aE×Int,AH w i=some R/\wdJ (Z+6000) R.1:=by obtain⟨h1,h2,h3,h4,h5⟩:=h;obtain⟨R,e1,_,e3,e4,_,e5⟩:=aC7 (i:=i) h1 wg;exact⟨R,e1,e3,wg,by rw[e5.2.1];exact h3,by rw[e5.2.2.1];exact h4,e5.2.2.2.2 h5⟩
theorem Xh{b:List Int}{i h:Int}(c0:okC b i h):Dr b (wdJ 150000) (Cp ⟨b,i,h⟩):=by
 unfold Cp
 refine .bnd (Xj c0) λi1 v1 r1 c1 j=>.bnd (bB c1) λi2 v2 r2 c2 U=> ?_
 obtain⟨N,rfl⟩:=CK U.1
 have hN:=U.2.1 wg
 have key:∀(n k:Nat) (w:M.aE) (ci C:Int),k<n->k<=5->okC b ci C->wdJ (110000+6000*(5-k)) w->Dr b (wdJ 150000) (uI ⟨b,i,h⟩ n k w.Now w.aK4 w.aKk w.aKn ci C w.aC.aKf w.aKq w.aKu.aKu w.aKp.aLJ w.aK0 w.aKr):=by
  intro n
  induction n with
  |zero=>intro k w ci C h _ _ _;omega
  |succ n ih=>
   intro k w ci C hn hk hc I
   simp only[uI]
   cases k with
   |zero=>
    rw[jG wb]
    exact .ret hc ⟨I.1,by have:=I.2.1;show M.aE.sz w<=_;omega,I.2.2⟩
   |succ k=>
    rw[jF (decide_eq_true wg),aBo k wg]
    refine .bnd (bB hc) λi3 v3 r3 c3 q3=>.JX (aEX (w:=w) I wg) λR J=> ?_
    exact ih k R.1 i3 v3 wg wg c3 ⟨J.1,by have:=J.2.1;omega,J.2.2⟩
 have z1:=j.1.sz
 exact key aJ N r1 i2 v2 (nB wg) wg c2 ⟨j.1.ok wg wg,wg,j.2.1,j.2.2,λb hb=>(j.1.2.2.1.2.1 b hb).2.2.2⟩
theorem aEd{b:List Int}{i h:Int}{o:Bool}{w:M.aE}(c0:okC b i h)(hw:wdJ 150000 w):Dr b (λv=>M.aE.ok v/\M.aE.sz v<=950000/\LGw v) ((aG ⟨b,i,h⟩ 24).bind λx=>if(x.2.2==0)=true then(cD ⟨b,x.1,x.2.1⟩ ([-1,999999990000,999999990001])).bind λy=>some (y.1,y.2.1,⟨y.2.2,o,w.aKk,w.aC,w.aKq,w.aKn,w.aKu,w.aKp,w.aK0,w.aKr⟩)else if(x.2.2==1)=true then some (x.1,x.2.1,⟨w.Now,o,0,w.aC,w.aKq,w.aKn,w.aKu,w.aKp,w.aK0,w.aKr⟩)else if(x.2.2==2)=true then(B6 w.aK0 2).bind λy=>some (x.1,x.2.1,⟨w.Now,o,w.aKk,w.aC,w.aKq,w.aKn,w.aKu,w.aKp,w.aK0.take (2:Int).toNat,w.aKr⟩)else if(x.2.2==3)=true then(A6 ⟨b,x.1,x.2.1⟩).bind λy=>some (y.1,y.2.1,⟨w.Now,o,w.aKk,y.2.2,w.aKq,w.aKn,w.aKu,w.aKp,w.aK0,w.aKr⟩)else if(x.2.2==4)=true then(DL ⟨b,x.1,x.2.1⟩).bind λy=>(app 144 w.aKq ([y.2.2])).bind λz=>some (y.1,y.2.1,⟨w.Now,o,w.aKk,w.aC,w.aKq++[y.2.2],w.aKn,w.aKu,w.aKp,w.aK0,w.aKr⟩)else if(x.2.2==5)=true then some (x.1,x.2.1,⟨w.Now,o,w.aKk,w.aC,w.aKq,0,w.aKu,w.aKp,w.aK0,w.aKr⟩)else if(x.2.2==6)=true then(D5 ⟨b,x.1,x.2.1⟩).bind λy=>(idx w.aKr 0).bind λz=>some (y.1,y.2.1,⟨w.Now,o,w.aKk,w.aC,w.aKq,w.aKn,w.aKu,w.aKp,w.aK0,w.aKr.set (0:Int).toNat y.2.2⟩)else some (x.1,x.2.1,⟨w.Now,o,w.aKk,w.aC,w.aKq,w.aKn,w.aKu,w.aKp,w.aK0,w.aKr⟩)):=by
 obtain⟨j,hz,h3,hs,U⟩:=hw
 simp only[M.aE.sz]at hz
 refine .bnd (bB c0) λi1 v1 r1 I q1=> ?_
 dsimp only
 split
 ·exact .bnd (uX (λx=> -1000000000000000<=x/\x<=1000000000000000) we we I) λi2 v2 r2 J C=>.ret J ⟨⟨bgI C,j.aKk,j.aC,j.aKq,j.aKn,j.aKu,j.aKp,j.aK0,j.aKr⟩,jt,U⟩
 split
 ·exact .ret I ⟨⟨j.Now,yH,j.aC,j.aKq,j.aKn,j.aKu,j.aKp,j.aK0,j.aKr⟩,jt,U⟩
 split
 ·rw[show B6 w.aK0 2=B6 w.aK0 ((2:Nat))from rfl,Ew wg,qA];have e:=xT (f:=M.aKl.sz) (w.aK0.take 2) (w.aK0.drop 2);rw[qo]at e;refine .ret I ⟨⟨j.Now,j.aKk,j.aC,j.aKq,j.aKn,j.aKu,j.aKp,⟨ml (by show(List.take 2 w.aK0).length<=_;rw[qV];omega),λs hs=>j.aK0.2 s (qk hs)⟩,j.aKr⟩,?_,U⟩;simp only[M.aE.sz,show(2:Int).toNat=2 from rfl,qV];omega
 split
 ·refine .bnd (SN I) λi2 v2 r2 J C=>.ret J ⟨⟨j.Now,j.aKk,C.G.ok wg,j.aKq,j.aKn,j.aKu,j.aKp,j.aK0,j.aKr⟩,?_,λb hb=>(C.G.2.1 b hb).2.2.2⟩
  have g1:=C.G.1
  have g2:=C.G.2.2
  simp only[M.aE.sz,M.aC.sz]at hz⊢
  omega
 split
 ·refine .bnd (aBB I) λi2 v2 r2 J C=> ?_
  dsimp only
  rw[DA jz wg,qA]
  refine .ret J ⟨⟨j.Now,j.aKk,j.aC,⟨ml (by rw[qE,qJ,qK];omega),λp hp=> ?_⟩,j.aKn,j.aKu,j.aKp,j.aK0,j.aKr⟩,?_,U⟩
  ·rcases qP.1 hp with hp|hp;(exact j.aKq.2 p hp);·rw[qQ.1 hp];exact C.1
  ·have e:=xT (f:=M.bK.sz) w.aKq [r2];have:=C.2;simp only[dO]at e;simp only[M.aE.sz,qE,qJ,qK];omega
 split
 ·exact .ret I ⟨⟨j.Now,j.aKk,j.aC,j.aKq,yH,j.aKu,j.aKp,j.aK0,j.aKr⟩,jt,U⟩
 split
 ·refine .bnd (aBF I) λi2 v2 r2 J C=> ?_
  dsimp only
  rw[show idx w.aKr 0=idx w.aKr ((0:Nat):Int)from rfl,aK wg,qA]
  refine .ret J ⟨⟨j.Now,j.aKk,j.aC,j.aKq,j.aKn,j.aKu,j.aKp,j.aK0,⟨ml (by show(List.set w.aKr 0 r2).length<=_;rw[qN];omega),λs hs=> ?_⟩⟩,?_,U⟩
  ·rcases jE hs with hs|rfl;(exact j.aKr.2 s hs);·exact C.1
  ·have e:=Jz (f:=M.aKt.sz) (x:=r2) (l:=w.aKr) (i:=0);have:=C.2;simp only[M.aE.sz,show(0:Int).toNat=0 from rfl,qN];omega
 ·exact .ret I ⟨⟨j.Now,j.aKk,j.aC,j.aKq,j.aKn,j.aKu,j.aKp,j.aK0,j.aKr⟩,jt,U⟩
theorem aAy{b:List Int}{i h:Int}(j:okC b i h):Dr b (λv=>M.aE.ok v/\M.aE.sz v<=950000/\LGw v) (D7 ⟨b,i,h⟩):=by
 unfold D7
 refine .bnd (Xh j) λi1 v1 U C J=>.bnd (Bh C) λi2 v2 r2 I q2=> ?_
 exact aEd (w:=U) (o:= !r2) I J
def rdW(x:M.aE×M.bK×Int×ByteArray):Prop:=M.aE.ok x.1/\M.aE.sz x.1<=960000/\LGw x.1/\inI x.2.2.1/\x.2.2.2.size<=16
theorem XZ{p0:List Int}(hl:p0.length<=1500000)(hb:∀x∈p0,0<=x/\x<=255):∃x,xY p0=some x/\rdW x:=by
 unfold xY
 obtain⟨h,e,c0⟩:=Zw hl hb
 rw[e,qA]
 obtain⟨i1,v1,w,e1,c1,I⟩:=aAy c0
 rw[e1,qA]
 dsimp only
 have fin:∀{b:List Int} {i v:Int} (p:M.bK),okC b i v->∃x,((aG ⟨b,i,v⟩ 4).bind λx1=>(cF ⟨b,x1.1,x1.2.1⟩ 2).bind λx2=>if x2.2.2=true then(hY w p x1.2.2 ⟨#[97]⟩ (i64.wrap (2*x1.2.2))).bind λx3=>(cE ⟨b,x2.1,x2.2.1⟩).bind λx4=>some (x3.1,p,x1.2.2,x4.2.2)else(cE ⟨b,x2.1,x2.2.1⟩).bind λx4=>some (w,p,x1.2.2,x4.2.2))=some x/\rdW x:=λ{b i v} p c=>by obtain⟨i2,v2,r2,e2,U,q2⟩:=bB (n:=4) c;rw[e2,qA];dsimp only;obtain⟨i3,v3,r3,e3,C,J⟩:=Bh (n:=2) U;rw[e3,qA];dsimp only;obtain⟨i4,v4,r4,e4,c4,q4⟩:=B9 C;rw[e4];have hr:inI r2:=bgI (by have:=q2.1;have:=q2.2.2;omega);split;(obtain⟨R,g1,_,g3,g4,_,g6,_⟩:=KH (w:=w) (p:=p) (n:=r2) (v:=i64.wrap (2*r2)) (f:=⟨#[97]⟩) I.1 hr (bS _) we (by have:=I.2.1;omega);rw[g1];exact⟨_,rfl,g3,by have:=I.2.1;show M.aE.sz R.1<=_;omega,g6.2.2.2 I.2.2,hr,qh q4 wg⟩);·exact⟨_,rfl,I.1,by have:=I.2.1;show M.aE.sz w<=_;omega,I.2.2,hr,qh q4 wg⟩
 split
 ·rename_i hp
  have hp':0<(w.aKq.length:Int):=by simpa using hp
  obtain⟨i2,v2,r2,e2,U,q2⟩:=Bh (n:=5) c1
  rw[e2,qA]
  dsimp only
  split
  ·obtain⟨i3,v3,r3,e3,C,J⟩:=bB (n:=w.aKq.length) U;obtain⟨j,rfl⟩:=CK J.1;have hj:=J.2.1 hp';rw[e3,qA,aK wg,qA];exact fin _ C
  ·obtain⟨i3,v3,r3,e3,C,J⟩:=OI U;rw[e3,qA];exact fin _ C
 ·obtain⟨i3,v3,r3,e3,C,J⟩:=OI c1;rw[e3,qA];exact fin _ C
theorem aCQ{a b:List Int}(I:a.length<=1000000):∃c,BA a b=some c/\(c=true->a.length=b.length):=by
 unfold BA
 by_cases h0:a.length=(b.length:Int)
 ·rw[jG (by simpa using h0)]
  have j:a.length=b.length:=by omega
  have key:∀(n k:Nat),a.length-k<n->k<=a.length->∃c,rU a b n k=some c:=by
   intro n
   induction n with
   |zero=>intro k h _;omega
   |succ n C=>
    intro k J hk
    simp only[rU]
    by_cases h1:k<a.length
    ·rw[jF (bE h1),aK h1,qA,aK wg,qA];split;(exact⟨_,rfl⟩);·rw[bM wg];exact C (k+1) wg h1
    ·rw[jG (by simpa using h1)];exact⟨_,rfl⟩
  obtain⟨c,hc⟩:=key aJ 0 (nB wg) (Nat.zero_le _)
  exact⟨c,hc,λ_=>j⟩
 ·rw[jF (by simpa using h0)];exact⟨_,rfl,λh=>by cases h⟩
theorem XM{b:List Int}(hb:okB b):∃p:Nat,(QM b).2=p/\p<=b.length:=by obtain⟨ds,p,d1,d2,_⟩:=Rb hb;exact⟨p,by rw[d1],d2⟩
theorem aAA{b:List Int}(hb:okB b)(C:b.length<=1000000):BJ b=some (b.take (QM b).2.toNat):=by obtain⟨p,e,j⟩:=XM hb;unfold BJ;rw[J4 hb wg,qA,e,Ew j,qA,Ip wO wg,qA]
theorem Rw{w:M.aE}{p:M.bK}{n:Int}{f:ByteArray}{j:Nat}{b:M.aKe}(e:gJ (nAt p.aKl p.Top) w.aC.aKf=j)(h:w.aC.aKf[j]? =some b):Jh w p n f=if(cY (D9 (zV b.bJ).1 n) f).2=true then if 1000<(cY (D9 (zV b.bJ).1 n) f).1 then 1000 else(cY (D9 (zV b.bJ).1 n) f).1 else -1:=by unfold Jh;rw[e,qH,h];dsimp only;rw[jG wg]
theorem Vp{w:M.aE}{p:M.bK}{n:Int}{f:ByteArray}(e:gJ (nAt p.aKl p.Top) w.aC.aKf<0):Jh w p n f= -1:=by unfold Jh;split;(rw[jF e]);·rfl
theorem Zb{α:Type}{f:α->Bool}{l:List α}{k:Nat}{x:α}(hk:k<l.length)(hx:f x=f l[k]):gJ f (l.set k x)=gJ f l:=by
 by_cases h:gJ f l<0
 ·have h1:=FQ h
  have h2:¬0<=gJ f (l.set k x):=λh3=>by obtain⟨j,I,hj⟩:=cT (Int.not_lt.2 h3);obtain⟨_,J⟩:=pY I;rcases jE (qG hj)with C|C;(rw[h1 _ C]at J;cases J);·rw[C,hx,h1 _ (qG hk)]at J;cases J
  unfold gJ at h h2⊢
  split at h
  ·omega
  ·split at h2;(omega);·rfl
 ·obtain⟨j,I,hj⟩:=cT h
  rw[I]
  unfold gJ at I⊢
  split at I
  ·rename_i i e
   have:i=j:=by omega
   subst this
   obtain⟨g1,g2,g3⟩:=List.findIdx?_eq_some_iff_getElem.1 e
   have:(l.set k x).findIdx? f=some i:=by rw[List.findIdx?_eq_some_iff_getElem];refine⟨by rw[qN];exact g1,?_,λm C=> ?_⟩;(rw[List.getElem_set];split;(rename_i U;subst U;rw[hx];exact g2);·exact g2);·rw[List.getElem_set];split;(rename_i U;subst U;rw[hx];exact g3 _ C);·exact g3 _ C
   rw[this]
  ·omega
theorem Wv{w x:M.aE}{p Q:M.bK}{n:Int}{f:ByteArray}{j:Nat}{q b:M.aKe}(hs:Q.aKl=p.aKl)(J:¬(p.Top.toList==Q.Top.toList)=true)(b1:gJ (nAt p.aKl p.Top) w.aC.aKf=j)(b2:w.aC.aKf[j]? =some q)(b5:b.aKl=q.aKl)(b6:b.Top=q.Top)(b8:x.aC.aKf=w.aC.aKf.set j b)(a7:∀(i:Nat) (b:M.aKe),w.aC.aKf[i]? =some b->nAt p.aKl p.Top b=false->x.aC.aKf[i]? =some b):Jh x Q n f=Jh w Q n f:=by
 obtain⟨hj,hq⟩:=qe.1 b2
 have e3:gJ (nAt Q.aKl Q.Top) x.aC.aKf=gJ (nAt Q.aKl Q.Top) w.aC.aKf:=by rw[b8];exact Zb hj (by unfold nAt;rw[hq,b5,b6])
 by_cases h0:gJ (nAt Q.aKl Q.Top) w.aC.aKf<0
 ·rw[Vp h0,Vp (by rw[e3];exact h0)]
 ·obtain⟨i,I,hi⟩:=cT h0
  obtain⟨_,C⟩:=pY I
  have U:nAt p.aKl p.Top w.aC.aKf[i]=false:=by
   cases h8:nAt p.aKl p.Top w.aC.aKf[i]with
   |false=>rfl
   |true=>
    unfold nAt at C h8
    rw[qM]at C h8
    exact absurd (beq_iff_eq.2 ((eq_of_beq h8.2).symm.trans (eq_of_beq C.2))) J
  rw[Rw I (qF hi),Rw (e3.trans I) (a7 i _ (qF hi) U)]
