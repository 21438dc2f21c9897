/-
  Helper text. No conditions.
-/
import Derived.Test.YtjlnkcoeghonfaaGreatRunPagePs
set_option linter.all false
namespace Go.Proofs.YtjlnkcoeghonfaaGreat.gen
open Go Go.Sh
theorem aBI{w:M.World}{i:Int}{k:Nat}{p:M.bD}(I:w.ok)(hz:M.World.sz w<=1500000)(hn:HZ w=true)(e:Sl w i=(k:Int))(j:w.aJ2[k]? =some p)(U:cY p.aJn=some (p.aJn,(⟨0,0,0,(⟨#[]⟩:ByteArray),0⟩:M.Ask))):hJ w i=some (w,0):=by
 obtain⟨hk,j⟩:=qd.1 j
 have C:=hz
 simp only[M.World.sz]at C
 have hy:=dW (f:=M.bD.sz) (qG hk)
 rw[j]at hy
 have J:idx w.aJ2 (k:Int)=some p:=by rw[aH hk,j]
 unfold hJ
 rw[uL w jD,qA,E4 I,qA,GP I hz,qA,hn,e,if_neg jG,if_neg jF,J,qA,D0 p jD,qA,U,qA]
 simp+decide only[if_false]
 rw[qA,qH,show(⟨p.Id,p.aJr,p.Top,p.aJl,p.aJ,p.aJn⟩:M.bD)=p from rfl,<-j,List.set_getElem_self]
theorem Yl{w:M.World}{i:Int}{R:M.World×Int}(hz:M.World.sz w<=1500000)(e2:hJ w i=some R)(C:R.1.ok)(h:R.1=w \/∃(k:Nat) (p:M.bD),Sl R.1 i=(k:Int)/\R.1.aJ2[k]? =some p/\cY p.aJn=some (p.aJn,(⟨0,0,0,(⟨#[]⟩:ByteArray),0⟩:M.Ask))/\M.World.sz R.1<=M.World.sz w):∃c,hJ R.1 i=some (R.1,c):=by
 obtain⟨v,c⟩:=R
 dsimp only at h C⊢
 rcases h with h|⟨k,p,h1,h2,h3,h4⟩
 ·subst h;exact⟨c,e2⟩
 ·have j:M.World.sz v<=1500000:=by omega
  cases hn:HZ v with
  |true=>exact⟨0,aBI C j hn h1 h2 h3⟩
  |false=>
   refine⟨-1,?_⟩
   unfold hJ
   rw[uL v jD,qA,E4 C,qA,GP C j,qA,hn,if_pos (show(!false)=true from rfl)]
theorem Vz{i c:Int}{w:M.World}(f:hJ w i=some (w,c)):∀(t n:Nat) (v:Int),v=60-(t:Int)->t<=60->t<n->gC i n v w.Now w.aKF w.aJy w.aJ4 w.aA.aJp w.aJ2 w.aJ3.aJ3 w.aJu.aKM w.aKE w.aJ6=some w
 |_,0,_,_,_,h=>absurd h (Nat.not_lt_zero _)
 |0,n+1,v,j,_,_=>by simp only[gC];rw[if_neg jE]
 |t+1,n+1,v,j,I,C=>by simp only[gC];rw[if_pos jE,show(⟨w.Now,w.aKF,w.aJy,(⟨w.aA.aJp⟩:M.aA),w.aJ2,w.aJ4,(⟨w.aJ3.aJ3⟩:M.aP),(⟨w.aJu.aKM⟩:M.aJu),w.aKE,w.aJ6⟩:M.World)=w from rfl,f];simp only[qA];exact Vz f t n _ (by rw[bI jD jD];omega) jD jD
theorem S4{i:Int}:∀(t n:Nat) (v:Int) (w:M.World),v=60-(t:Int)->t<=60->t<n->w.ok->M.World.sz w+6000*t<=1500000->∃R,oF i n v w.Now w.aKF w.aJy w.aJ4 w.aA.aJp w.aJ2 w.aJ3.aJ3 w.aJu.aKM w.aKE w.aJ6=some R/\gC i n v w.Now w.aKF w.aJy w.aJ4 w.aA.aJp w.aJ2 w.aJ3.aJ3 w.aJu.aKM w.aKE w.aJ6=some R/\R.ok/\M.World.sz R<=1500000
 |_,0,_,_,_,_,h,_,_=>absurd h (Nat.not_lt_zero _)
 |0,n+1,v,w,C,_,_,j,hz=>by simp only[oF,gC];rw[if_neg jE,if_neg jE];exact⟨w,rfl,rfl,j,jD⟩
 |t+1,n+1,v,w,C,U,J,j,hz=>by simp only[oF,gC];rw[if_pos jE,if_pos jE,show(⟨w.Now,w.aKF,w.aJy,(⟨w.aA.aJp⟩:M.aA),w.aJ2,w.aJ4,(⟨w.aJ3.aJ3⟩:M.aP),(⟨w.aJu.aKM⟩:M.aJu),w.aKE,w.aJ6⟩:M.World)=w from rfl];obtain⟨R,e1,e2,e3,e4,e5⟩:=ZV (i:=i) j jD;rw[e1,e2];simp only[qA];by_cases hc:R.2<=0;(simp only[hc,decide_true,if_true];obtain⟨I,f⟩:=Yl jD e2 e3 (e5 hc);exact⟨R.1,rfl,Vz f t n _ (by rw[bI jD jD];omega) jD jD,e3,jD⟩);·simp only[hc,decide_false,qD,if_false];exact S4 t n _ R.1 (by rw[bI jD jD];omega) jD jD e3 jD
theorem WV{w:M.World}{i:Int}(j:w.ok)(hz:M.World.sz w<=1048576):∃R:M.World,Cw w i=some R/\AQ w i=some R/\R.ok/\M.World.sz R<=1500000:=by unfold Cw AQ;rw[CL w jD,uL w jD,qA,qA];exact S4 60 fuel 0 w jD jD jI j jD
