/-
  Helper text. No conditions.
-/
import Derived.Test.YtndidbigdalbnaaGreatNotesPd12
set_option linter.all false
namespace Go.Proofs.YtndidbigdalbnaaGreat.gen
open Go Go.Sh
set_option maxHeartbeats 4000000 in
theorem aDl(p0:List Int)(hb:∀b∈p0,0<=b/\b<=255):Db p0=some true:=by
 unfold Db JM
 rw[qA]
 by_cases hl:(p0.length:Int)>1048576
 ·rw[jF (by simpa using hl)]
 rw[jG (by simpa using hl)]
 unfold AB
 obtain⟨⟨w,p,n,f⟩,ed,J,hz,hg,hn,hf⟩:=XZ (show p0.length<=1500000 by omega) hb
 rw[ed,qA]
 obtain⟨h,e,c0⟩:=Zw (show p0.length<=1500000 by omega) hb
 rw[e,qA]
 obtain⟨i1,v1,v,e1,c1,q1⟩:=uX (l:=[0,5,-1,1000000000,1000000001]) (λx=> -1000000000000000<=x/\x<=1000000000000000) we we c0
 rw[e1,qA,qA]
 dsimp only at J hz hg hn hf⊢
 obtain⟨⟨x,c⟩,a1,a2,a3,a4,_,⟨a5,a6,a7,a8⟩,a9,af⟩:=KH (w:=w) (p:=p) (n:=n) (v:=v) (f:=f) J hn (bgI q1) wg wg
 dsimp only at a3 a4 a5 a6 a7 a8 a9 af
 rw[a2,qA,a1,qA]
 dsimp only
 have rx:∀q:M.bK,kT x q n f=some (Jh x q n f):=λq=>Jn a3 wg
 have rw':∀q:M.bK,mI w q n f=some (Jh w q n f):=λq=>Je J wg
 refine jn (v:=false) ?_ ?_
 ·rw[jG wb,GM a3,qA,OD,jG wb]
  cases c with
  |false=>rw[jF (show(!false)=true from rfl),a9 rfl,GM J,qA,OD];rfl
  |true=>rfl
 rw[jG wb,lF J.aC,qA]
 have last:(if(p.Top.toList==(⟨#[110,101,119,115]⟩:ByteArray).toList)=true then some true else(kT x (⟨p.Id,p.aKl,(⟨#[110,101,119,115]⟩:ByteArray),p.aKb,p.aT,p.aKh⟩:M.bK) n f).bind λaa=>(mI w (⟨p.Id,p.aKl,(⟨#[110,101,119,115]⟩:ByteArray),p.aKb,p.aT,p.aKh⟩:M.bK) n f).bind λae=>some (aa==ae))=some true:=by
  split
  ·rfl
  rename_i hne
  rw[rx,rw',qA,qA]
  have:Jh x (⟨p.Id,p.aKl,(⟨#[110,101,119,115]⟩:ByteArray),p.aKb,p.aT,p.aKh⟩:M.bK) n f=Jh w (⟨p.Id,p.aKl,(⟨#[110,101,119,115]⟩:ByteArray),p.aKb,p.aT,p.aKh⟩:M.bK) n f:=by
   cases c with
   |false=>rw[a9 rfl]
   |true=>
    obtain⟨j,q,b,U,b2,_,_,b5,b6,_,b8⟩:=af rfl
    exact Wv (p:=p) (Q:=(⟨p.Id,p.aKl,(⟨#[110,101,119,115]⟩:ByteArray),p.aKb,p.aT,p.aKh⟩:M.bK)) rfl hne U b2 b5 b6 b8 a7
  rw[this,beq_self_eq_true]
 have mid:∀o:Option Bool,(∃d,o=some d/\(d=true->c=true->Jh x p n f=if 1000<v then 1000 else v))->(o.bind λah=>(if c=true then if ah=true then(kT x p n f).bind λai=>(dS 1000 v).bind λaj=>some (ai !=aj)else some false else some false).bind λak=>if ak=true then some false else(if(p.Top.toList==(⟨#[110,101,119,115]⟩:ByteArray).toList)=true then some true else(kT x (⟨p.Id,p.aKl,(⟨#[110,101,119,115]⟩:ByteArray),p.aKb,p.aT,p.aKh⟩:M.bK) n f).bind λaa=>(mI w (⟨p.Id,p.aKl,(⟨#[110,101,119,115]⟩:ByteArray),p.aKb,p.aT,p.aKh⟩:M.bK) n f).bind λae=>some (aa==ae)).bind λal=>some al)=some true:=by
  rintro o ⟨d,rfl,hd⟩
  rw[qA]
  refine jn (v:=false) ?_ ?_
  ·cases c with
   |false=>rfl
   |true=>
    cases d with
    |false=>rfl
    |true=>
     rw[jF rfl,jF rfl,rx,qA,hd rfl rfl]
     have e9:dS 1000 v=some (if 1000<v then 1000 else v):=by unfold dS;by_cases h9:1000<v;(rw[jG wV,jF h9]);·rw[jG h9];by_cases h8:v<1000;(rw[jF (by simpa using h8)]);·rw[jG (by simpa using h8),show v=1000 from by omega]
     rw[e9,qA]
     simp
  ·rw[jG wb,last];rfl
 refine mid _ ?_
 by_cases h0:gJ (nAt p.aKl p.Top) w.aC.aKf<0
 ·rw[jF (by simpa using h0)];refine⟨true,rfl,λ_ hc=> ?_⟩;subst hc;obtain⟨j,q,b,U,_⟩:=af rfl;omega
 ·obtain⟨j,ej,hj⟩:=cT h0
  rw[jG (by simpa using h0),ej,aK hj,qA]
  have C:=(J.aC.aKf.2 _ (qG hj)).bJ
  have hzd:=UG (w:=w) wg (qG hj)
  have hlg:=hg _ (qG hj)
  have hll:(w.aC.aKf[j]).bJ.Log.length<=1000000:=by have:=dW (f:=M.aKe.sz) (qG hj);simp only[M.aE.sz,M.aC.sz]at hz;simp only[M.aKe.sz,M.bJ.sz]at this;omega
  rw[aAA C.Log hll,qA]
  obtain⟨d,d1,d2⟩:=aCQ (a:=(w.aC.aKf[j]).bJ.Log.take (QM (w.aC.aKf[j]).bJ.Log).2.toNat) (b:=(w.aC.aKf[j]).bJ.Log) wO
  rw[d1,qA]
  refine⟨d,rfl,λhd hc=> ?_⟩
  subst hc
  obtain⟨j',q,b,U,b2,b3,b4,b5,b6,b7,b8⟩:=af rfl
  obtain rfl:j'=j:=by omega
  obtain⟨_,hq⟩:=qe.1 b2
  rw[hq]at C hlg d2
  obtain⟨pp,hp1,hp2⟩:=XM C.Log
  have hw2:(QM q.bJ.Log).2=(q.bJ.Log.length:Int):=by have:=d2 hd;rw[hp1,qH,qV]at this;rw[hp1];omega
  have hback:=XY C.Log hlg hw2 b3 b4
  obtain⟨_,I⟩:=pY U
  obtain⟨e4,e5⟩:=JG (x:=b) U (by rw[hq]at I;unfold nAt at I⊢;rw[b5,b6];exact I)
  rw[Rw (w:=x) (by rw[b8];exact e4) (by rw[b8];exact e5),b7,hback]
  rfl
