/-
  Helper text. No conditions.
-/
import Derived.Test.YtjlnkcoeghonfaaGreatStepPagePz
set_option maxHeartbeats 4000000
set_option linter.all false
namespace Go.Proofs.YtjlnkcoeghonfaaGreat.gen
open Go Go.Sh
theorem nxK{k:Int}(C:0<=k)(h1:k+1<=4611686018427387904):∃j,IntKind.i64.wrap (k+1)=j/\j=k+1:=⟨k+1,wk C jD,rfl⟩
theorem YF:∀(n:Nat) (v:Int) (b:ByteArray),v.toNat<n->0<=v->(b.size:Int)+v<=KB->∃t,pN n v b=some t/\t.size<=4611686018427387905
 |0,v,b,h,_,_=>by omega
 |n+1,v,b,h,j,hb=>by
  unfold KB at hb
  simp only[pN]
  by_cases hv:v>0
  ·rw[if_pos jE]
   have h1:=Int.tmod_nonneg 10 j
   have h2:=Int.tmod_lt_of_pos v (show(0:Int)<10 by omega)
   have U:=Ym (IntKind.i64.wrap (48+Int.tmod v 10))
   have I:Int.tdiv v 10=v/10:=Int.tdiv_eq_ediv_of_nonneg j
   have J:toStr [IntKind.u8.wrap (IntKind.i64.wrap (48+Int.tmod v 10))]=some (bF [IntKind.u8.wrap (IntKind.i64.wrap (48+Int.tmod v 10))]):=by unfold toStr;rw[if_pos jE]
   have hz:(bF [IntKind.u8.wrap (IntKind.i64.wrap (48+Int.tmod v 10))]).size=1:=rfl
   rw[J,qA]
   unfold cat
   rw[if_pos (by rw[hz];omega),qA,I,bK jD jD]
   refine YF n (v/10) _ jD jD ?_
   rw[ByteArray.size_append,hz]
   unfold KB
   omega
  ·rw[if_neg jE]
   have C:cat (⟨#[109]⟩:ByteArray) b=some ((⟨#[109]⟩:ByteArray)++b):=by unfold cat;rw[if_pos (by show 1+b.size<=_;omega)]
   first|exact⟨_,by rw[C,qA],by rw[ByteArray.size_append];show 1+b.size<=_;omega⟩|exact⟨_,by rw[C];rfl,by rw[ByteArray.size_append];show 1+b.size<=_;omega⟩
theorem ZC(k:Int)(j:0<=k)(h:k<KB):∃t,aN k=some t:=by unfold aN;by_cases hk:k<=0;(exact⟨_,by rw[if_pos (by simpa using hk)]⟩);·rw[if_neg (by simpa using hk)];obtain⟨t,h1,_⟩:=YF fuel k ⟨#[]⟩ (by unfold fuel KB at*;omega) j (by show((0:Nat):Int)+k<=KB;omega);exact⟨t,h1⟩
def mtx(k:Int):ByteArray:=(aN k).getD ⟨#[]⟩
theorem mt{k:Int}(j:0<=k)(h:k<KB):aN k=some (mtx k):=by obtain⟨t,C⟩:=ZC k j h;unfold mtx;rw[C];rfl
theorem M.He.wF(x:Int)(hx:True)(k:Int)(h0:0<=k)(U:k+(((λ_:Int=>1) x:Nat):Int)<=KB):∃x':Int,(∀n (pre post:List Int),(pre++x::post).length<=maxLen->hZ (n+1) k pre.length (pre++x::post)=hZ n (k+(((λ_:Int=>1) x:Nat):Int)) ((pre.length+1:Nat):Int) (pre++x'::post))/\∀n (l:List Int) (i:Nat),l[i]? =some x'->l.length<=maxLen->fX l (n+1) k i=fX l n (k+(((λ_:Int=>1) x:Nat):Int)) ((i+1:Nat):Int):=by
 unfold KB at U;(try simp only[]at U⊢)
 obtain⟨k1,w1,e1⟩:=nxK (k:=k) jD jD
 have hE:k1=k+(((λ_:Int=>1) x:Nat):Int):=by simp;omega
 refine⟨IntKind.u8.wrap k,λn pre post I=> ?_,λn l i C I=> ?_⟩
 ·have j:=le_max I
  have J:pre.length<9223372036854775807:=by simp at j;omega
  simp only[hZ]
  rw[if_pos (DL pre post x)]
  simp(maxSteps:=2000000)only[yV,yU,qA,bG J,w1]
  rw[hE]
 ·have j:=le_max I
  have J:i<9223372036854775807:=by have:=(qd.1 C).1;omega
  simp only[fX]
  rw[if_pos (Hf C)]
  simp(maxSteps:=2000000)only[DM C,qA,bG J,w1,bne_self_eq_false,beq_self_eq_true,qB,qD,if_false]
  rw[hE]
theorem M.He.cl(xs:List Int):bA (λ_:Int=>1) xs=xs.length:=by
 induction xs with
 |nil=>rfl
 |cons x xs j=>simp only[bA,j,qJ];omega
theorem M.He.jV(xs:List Int)(I:okB xs)(k:Int)(J:0<=k)(C:k+((xs.length:Nat):Int)<=KB):∃j,uK xs k=some (j,k+((xs.length:Nat):Int))/\tN j k=some (k+((xs.length:Nat):Int))/\j.length=xs.length:=by have U:=le_max I.1;rw[<-M.He.cl xs]at C⊢;obtain⟨j,h1,h2,h3⟩:=KP (ML:=hZ) (HL:=fX) (c:=(λ_:Int=>1)) (ok:=(λ_:Int=>True)) (λx I k J C=>M.He.wF x I k J C) (λn k l=>by simp only[hZ];rw[if_neg jK]) (λn k l=>by simp only[fX];rw[if_neg jK]) xs [] fuel k (by simpa using I.1) jI (λ_ _=>trivial) J C;refine⟨j,by unfold uK;simpa using h2,by unfold tN;simpa using h3 fuel jI,by have:=M.He.cl xs;omega⟩
def M.aJo.cnt(x:M.aJo):Nat:=6+(x.aJg.aKS.length)
theorem M.aJo.wF:MT M.aJo.cnt M.aJo.ok lY hM:=by
 intro x hx k h0 hB
 unfold KB M.aJo.cnt at hB
 obtain⟨C,w1,e1⟩:=nxK (k:=k) jD jD
 have t1:=mt (k:=k) jD (by unfold KB;omega)
 obtain⟨k2,w2,e2⟩:=nxK (k:=C) jD jD
 have t2:=mt (k:=C) jD (by unfold KB;omega)
 obtain⟨k3,w3,e3⟩:=nxK (k:=k2) jD jD
 obtain⟨k4,w4,e4⟩:=nxK (k:=k3) jD jD
 obtain⟨k5,w5,e5⟩:=nxK (k:=k4) jD jD
 obtain⟨y1,I,J,_⟩:=M.He.jV _ hx.aJg.aKS k5 jD (by unfold KB;omega)
 obtain⟨k6,e6⟩:∃k',k'=k5+((x.aJg.aKS.length:Nat):Int):=⟨_,rfl⟩
 rw[<-e6]at I J
 have d1:=dk (a:=k6) jD
 obtain⟨k7,w7,e7⟩:=nxK (k:=k6) jD jD
 refine MH.mk k7 ⟨mtx k,mtx C,⟨k2,k3,k4,y1,(Int.tmod k6 3)==0⟩⟩ (by unfold M.aJo.cnt;omega) (λn pre post j=> ?_) λn l i U j=> ?_
 ·simp only[lY];rw[if_pos (DL pre post x)];simp(maxSteps:=2000000)only[yV,yU,qA,bG j,w1,t1,w2,t2,w3,w4,w5,I,w7]
 ·simp only[hM];rw[if_pos (Hf U)];simp(maxSteps:=2000000)only[DM U,qA,bG j,w1,t1,w2,t2,w3,w4,w5,J,d1,w7,bne_self_eq_false,beq_self_eq_true,qB,qD,if_false]
theorem M.Hg.jV:MPS M.aJo.cnt M.aJo.ok AS AR:=M.aJo.wF.all (λn k l=>by simp only[lY];rw[if_neg jK]) (λn k l=>by simp only[hM];rw[if_neg jK]) (λ_ _=>rfl) λ_ _=>rfl
def M.aJs.cnt(x:M.aJs):Nat:=1+(bA M.aJo.cnt x.aJt)
theorem M.aJs.wF:MT M.aJs.cnt M.aJs.ok nC iX:=by
 intro x hx k h0 hB
 unfold KB M.aJs.cnt at hB
 obtain⟨U,w1,e1⟩:=nxK (k:=k) jD jD
 obtain⟨y1,C,I,_⟩:=M.Hg.jV _ hx.aJt U jD (by unfold KB;omega)
 obtain⟨k2,e2⟩:∃k',k'=U+((bA M.aJo.cnt x.aJt:Nat):Int):=⟨_,rfl⟩
 rw[<-e2]at C I
 have d1:=dk (a:=k2) jD
 refine MH.mk k2 ⟨k,y1⟩ (by unfold M.aJs.cnt;omega) (λn pre post j=> ?_) λn l i J j=> ?_
 ·simp only[nC];rw[if_pos (DL pre post x)];simp(maxSteps:=2000000)only[yV,yU,qA,bG j,w1,C]
 ·simp only[iX];rw[if_pos (Hf J)];simp(maxSteps:=2000000)only[DM J,qA,bG j,w1,I,d1,bne_self_eq_false,beq_self_eq_true,qB,qD,if_false]
theorem M.Kd.jV:MPS M.aJs.cnt M.aJs.ok Ce BK:=M.aJs.wF.all (λn k l=>by simp only[nC];rw[if_neg jK]) (λn k l=>by simp only[iX];rw[if_neg jK]) (λ_ _=>rfl) λ_ _=>rfl
def M.Field.cnt(x:M.Field):Nat:=2
theorem M.Field.wF:MT M.Field.cnt M.Field.ok mU jS:=by
 intro x hx k h0 hB
 unfold KB M.Field.cnt at hB
 obtain⟨I,J,e1⟩:=nxK (k:=k) jD jD
 have t1:=mt (k:=k) jD (by unfold KB;omega)
 obtain⟨k2,U,e2⟩:=nxK (k:=I) jD jD
 refine MH.mk k2 ⟨mtx k,I⟩ (by unfold M.Field.cnt;omega) (λn pre post j=> ?_) λn l i C j=> ?_
 ·simp only[mU];rw[if_pos (DL pre post x)];simp(maxSteps:=2000000)only[yV,yU,qA,bG j,J,t1,U]
 ·simp only[jS];rw[if_pos (Hf C)];simp(maxSteps:=2000000)only[DM C,qA,bG j,J,t1,U,bne_self_eq_false,beq_self_eq_true,qB,qD,if_false]
theorem M.KO.jV:MPS M.Field.cnt M.Field.ok Ca BV:=M.Field.wF.all (λn k l=>by simp only[mU];rw[if_neg jK]) (λn k l=>by simp only[jS];rw[if_neg jK]) (λ_ _=>rfl) λ_ _=>rfl
def M.aJl.cnt(x:M.aJl):Nat:=3+(bA M.Field.cnt x.aA.aJi)
theorem M.aJl.wF:MT M.aJl.cnt M.aJl.ok oG lD:=by
 intro x hx k h0 hB
 unfold KB M.aJl.cnt at hB
 obtain⟨k1,w1,e1⟩:=nxK (k:=k) jD jD
 obtain⟨C,w2,e2⟩:=nxK (k:=k1) jD jD
 obtain⟨k3,w3,e3⟩:=nxK (k:=C) jD jD
 have t3:=mt (k:=C) jD (by unfold KB;omega)
 obtain⟨y1,I,J,_⟩:=M.KO.jV _ hx.aA.aJi k3 jD (by unfold KB;omega)
 obtain⟨k4,e4⟩:∃k',k'=k3+((bA M.Field.cnt x.aA.aJi:Nat):Int):=⟨_,rfl⟩
 rw[<-e4]at I J
 have d1:=dk (a:=k4) jD
 refine MH.mk k4 ⟨⟨k,k1,mtx C⟩,⟨y1⟩⟩ (by unfold M.aJl.cnt;omega) (λn pre post j=> ?_) λn l i U j=> ?_
 ·simp only[oG];rw[if_pos (DL pre post x)];simp(maxSteps:=2000000)only[yV,yU,qA,bG j,w1,w2,w3,t3,I]
 ·simp only[lD];rw[if_pos (Hf U)];simp(maxSteps:=2000000)only[DM U,qA,bG j,w1,w2,w3,t3,J,d1,bne_self_eq_false,beq_self_eq_true,qB,qD,if_false]
theorem M.Lc.jV:MPS M.aJl.cnt M.aJl.ok tW uC:=M.aJl.wF.all (λn k l=>by simp only[oG];rw[if_neg jK]) (λn k l=>by simp only[lD];rw[if_neg jK]) (λ_ _=>rfl) λ_ _=>rfl
def M.aD.cnt(x:M.aD):Nat:=2+(bA M.aJl.cnt x.aJe)
theorem M.aD.wF:MT M.aD.cnt M.aD.ok mZ iY:=by
 intro x hx k h0 hB
 unfold KB M.aD.cnt at hB
 obtain⟨U,w1,e1⟩:=nxK (k:=k) jD jD
 have t1:=mt (k:=k) jD (by unfold KB;omega)
 obtain⟨y1,C,I,_⟩:=M.Lc.jV _ hx.aJe U jD (by unfold KB;omega)
 obtain⟨k2,e2⟩:∃k',k'=U+((bA M.aJl.cnt x.aJe:Nat):Int):=⟨_,rfl⟩
 rw[<-e2]at C I
 have d1:=dk (a:=k2) jD
 obtain⟨k3,w3,e3⟩:=nxK (k:=k2) jD jD
 refine MH.mk k3 ⟨mtx k,y1,k2⟩ (by unfold M.aD.cnt;omega) (λn pre post j=> ?_) λn l i J j=> ?_
 ·simp only[mZ];rw[if_pos (DL pre post x)];simp(maxSteps:=2000000)only[yV,yU,qA,bG j,w1,t1,C,w3]
 ·simp only[iY];rw[if_pos (Hf J)];simp(maxSteps:=2000000)only[DM J,qA,bG j,w1,t1,I,d1,w3,bne_self_eq_false,beq_self_eq_true,qB,qD,if_false]
theorem M.J3.jV:MPS M.aD.cnt M.aD.ok BR BD:=M.aD.wF.all (λn k l=>by simp only[mZ];rw[if_neg jK]) (λn k l=>by simp only[iY];rw[if_neg jK]) (λ_ _=>rfl) λ_ _=>rfl
def M.aG.cnt(x:M.aG):Nat:=2
theorem M.aG.wF:MT M.aG.cnt M.aG.ok iL fS:=by
 intro x hx k h0 hB
 unfold KB M.aG.cnt at hB
 obtain⟨C,J,e1⟩:=nxK (k:=k) jD jD
 have t1:=mt (k:=k) jD (by unfold KB;omega)
 obtain⟨k2,U,e2⟩:=nxK (k:=C) jD jD
 have t2:=mt (k:=C) jD (by unfold KB;omega)
 refine MH.mk k2 ⟨mtx k,mtx C⟩ (by unfold M.aG.cnt;omega) (λn pre post j=> ?_) λn l i I j=> ?_
 ·simp only[iL];rw[if_pos (DL pre post x)];simp(maxSteps:=2000000)only[yV,yU,qA,bG j,J,t1,U,t2]
 ·simp only[fS];rw[if_pos (Hf I)];simp(maxSteps:=2000000)only[DM I,qA,bG j,J,t1,U,t2,bne_self_eq_false,beq_self_eq_true,qB,qD,if_false]
theorem M.Ef.jV:MPS M.aG.cnt M.aG.ok wI wH:=M.aG.wF.all (λn k l=>by simp only[iL];rw[if_neg jK]) (λn k l=>by simp only[fS];rw[if_neg jK]) (λ_ _=>rfl) λ_ _=>rfl
def M.aW.cnt(x:M.aW):Nat:=7
theorem M.aW.wF:MT M.aW.cnt M.aW.ok mX iU:=by
 intro x hx k h0 hB
 unfold KB M.aW.cnt at hB
 obtain⟨U,w1,e1⟩:=nxK (k:=k) jD jD
 obtain⟨k2,w2,e2⟩:=nxK (k:=U) jD jD
 obtain⟨k3,w3,e3⟩:=nxK (k:=k2) jD jD
 obtain⟨C,w4,e4⟩:=nxK (k:=k3) jD jD
 obtain⟨I,w5,e5⟩:=nxK (k:=C) jD jD
 have t5:=mt (k:=C) jD (by unfold KB;omega)
 obtain⟨k6,w6,e6⟩:=nxK (k:=I) jD jD
 have t6:=mt (k:=I) jD (by unfold KB;omega)
 obtain⟨k7,w7,e7⟩:=nxK (k:=k6) jD jD
 refine MH.mk k7 ⟨k,U,⟨k2,k3,mtx C⟩,mtx I,k6⟩ (by unfold M.aW.cnt;omega) (λn pre post j=> ?_) λn l i J j=> ?_
 ·simp only[mX];rw[if_pos (DL pre post x)];simp(maxSteps:=2000000)only[yV,yU,qA,bG j,w1,w2,w3,w4,w5,t5,w6,t6,w7]
 ·simp only[iU];rw[if_pos (Hf J)];simp(maxSteps:=2000000)only[DM J,qA,bG j,w1,w2,w3,w4,w5,t5,w6,t6,w7,bne_self_eq_false,beq_self_eq_true,qB,qD,if_false]
theorem M.Gl.jV:MPS M.aW.cnt M.aW.ok xD xM:=M.aW.wF.all (λn k l=>by simp only[mX];rw[if_neg jK]) (λn k l=>by simp only[iU];rw[if_neg jK]) (λ_ _=>rfl) λ_ _=>rfl
def M.aJa.cnt(x:M.aJa):Nat:=18+(bA M.aJs.cnt x.aJk.aJk)+(bA M.aD.cnt x.bL.aJz.aJm)+(bA M.aG.cnt x.bL.aJz.aJw)+(x.bL.Log.length)+(bA M.aJl.cnt x.aE.aJz.aJe)+(bA M.aW.cnt x.aE.aJx.aM.aJ1)
theorem M.aJa.wF:MT M.aJa.cnt M.aJa.ok mC fQ:=by
 intro x C k h0 hB
 unfold KB M.aJa.cnt at hB
 obtain⟨U,w1,e1⟩:=nxK (k:=k) jD jD
 have t1:=mt (k:=k) jD (by unfold KB;omega)
 obtain⟨k2,w2,e2⟩:=nxK (k:=U) jD jD
 have t2:=mt (k:=U) jD (by unfold KB;omega)
 obtain⟨k3,w3,e3⟩:=nxK (k:=k2) jD jD
 have t3:=mt (k:=k2) jD (by unfold KB;omega)
 obtain⟨k4,w4,e4⟩:=nxK (k:=k3) jD jD
 obtain⟨k5,w5,e5⟩:=nxK (k:=k4) jD jD
 obtain⟨k6,w6,e6⟩:=nxK (k:=k5) jD jD
 obtain⟨y1,a1,b1,_⟩:=M.Kd.jV _ C.aJk.aJk k6 jD (by unfold KB;omega)
 obtain⟨k7,e7⟩:∃j,j=k6+((bA M.aJs.cnt x.aJk.aJk:Nat):Int):=⟨_,rfl⟩
 rw[<-e7]at a1 b1
 have d1:=dk (a:=k7) jD
 obtain⟨k8,w8,e8⟩:=nxK (k:=k7) jD jD
 have t8:=mt (k:=k7) jD (by unfold KB;omega)
 obtain⟨k9,w9,e9⟩:=nxK (k:=k8) jD jD
 obtain⟨y2,a2,b2,_⟩:=M.J3.jV _ C.bL.aJz.aJm k9 jD (by unfold KB;omega)
 obtain⟨aa,bn⟩:∃j,j=k9+((bA M.aD.cnt x.bL.aJz.aJm:Nat):Int):=⟨_,rfl⟩
 rw[<-bn]at a2 b2
 have d2:=dk (a:=aa) jD
 obtain⟨y3,a3,b3,_⟩:=M.Ef.jV _ C.bL.aJz.aJw aa jD (by unfold KB;omega)
 obtain⟨ae,bo⟩:∃j,j=aa+((bA M.aG.cnt x.bL.aJz.aJw:Nat):Int):=⟨_,rfl⟩
 rw[<-bo]at a3 b3
 have d3:=dk (a:=ae) jD
 obtain⟨y4,a4,b4,_⟩:=M.He.jV _ C.bL.Log ae jD (by unfold KB;omega)
 obtain⟨af,bq⟩:∃j,j=ae+((x.bL.Log.length:Nat):Int):=⟨_,rfl⟩
 rw[<-bq]at a4 b4
 have d4:=dk (a:=af) jD
 obtain⟨I,ak,bw⟩:=nxK (k:=af) jD jD
 obtain⟨al,ao,bz⟩:=nxK (k:=I) jD jD
 have t14:=mt (k:=I) jD (by unfold KB;omega)
 obtain⟨y5,a5,b5,_⟩:=M.Lc.jV _ C.aE.aJz.aJe al jD (by unfold KB;omega)
 obtain⟨ai,br⟩:∃j,j=al+((bA M.aJl.cnt x.aE.aJz.aJe:Nat):Int):=⟨_,rfl⟩
 rw[<-br]at a5 b5
 have d5:=dk (a:=ai) jD
 obtain⟨aq,ar,c5⟩:=nxK (k:=ai) jD jD
 obtain⟨av,aw,ca⟩:=nxK (k:=aq) jD jD
 obtain⟨ax,ay,cc⟩:=nxK (k:=av) jD jD
 obtain⟨az,ba,cd⟩:=nxK (k:=ax) jD jD
 obtain⟨y6,a6,b6,_⟩:=M.Gl.jV _ C.aE.aJx.aM.aJ1 az jD (by unfold KB;omega)
 obtain⟨aj,bt⟩:∃j,j=az+((bA M.aW.cnt x.aE.aJx.aM.aJ1:Nat):Int):=⟨_,rfl⟩
 rw[<-bt]at a6 b6
 have d6:=dk (a:=aj) jD
 obtain⟨bd,bf,cg⟩:=nxK (k:=aj) jD jD
 obtain⟨bg,bh,cj⟩:=nxK (k:=bd) jD jD
 obtain⟨bj,bl,ck⟩:=nxK (k:=bg) jD jD
 obtain⟨bu,bm,cn⟩:=nxK (k:=bj) jD jD
 refine MH.mk bu ⟨mtx k,mtx U,⟨mtx k2,k3,k4,k5⟩,⟨y1⟩,⟨⟨mtx k7,k8,y2,y3⟩,y4,af⟩,⟨⟨mtx I,y5,ai⟩,aq,⟨⟨av,ax,y6⟩,aj,bd⟩⟩,bg,(Int.tmod bj 3)==0⟩ (by unfold M.aJa.cnt;omega) (λn pre post J=> ?_) λn l i hi J=> ?_
 ·simp only[mC];rw[if_pos (DL pre post x)];simp(maxSteps:=2000000)only[yV,yU,qA,bG J,w1,t1,w2,t2,w3,t3,w4,w5,w6,a1,w8,t8,w9,a2,a3,a4,ak,ao,t14,a5,ar,aw,ay,ba,a6,bf,bh,bl,bm]
 ·simp only[fQ];rw[if_pos (Hf hi)];simp(maxSteps:=2000000)only[DM hi,qA,bG J,w1,t1,w2,t2,w3,t3,w4,w5,w6,b1,d1,w8,t8,w9,b2,d2,b3,d3,b4,d4,ak,ao,t14,b5,d5,ar,aw,ay,ba,b6,d6,bf,bh,bl,bm,bne_self_eq_false,beq_self_eq_true,qB,qD,if_false]
theorem M.Hp.jV:MPS M.aJa.cnt M.aJa.ok A7 AX:=M.aJa.wF.all (λn k l=>by simp only[mC];rw[if_neg jK]) (λn k l=>by simp only[fQ];rw[if_neg jK]) (λ_ _=>rfl) λ_ _=>rfl
def M.aJ.cnt(x:M.aJ):Nat:=2
theorem M.aJ.wF:MT M.aJ.cnt M.aJ.ok lU gY:=by
 intro x hx k h0 hB
 unfold KB M.aJ.cnt at hB
 obtain⟨I,J,e1⟩:=nxK (k:=k) jD jD
 have t1:=mt (k:=k) jD (by unfold KB;omega)
 obtain⟨k2,U,e2⟩:=nxK (k:=I) jD jD
 refine MH.mk k2 ⟨mtx k,I⟩ (by unfold M.aJ.cnt;omega) (λn pre post j=> ?_) λn l i C j=> ?_
 ·simp only[lU];rw[if_pos (DL pre post x)];simp(maxSteps:=2000000)only[yV,yU,qA,bG j,J,t1,U]
 ·simp only[gY];rw[if_pos (Hf C)];simp(maxSteps:=2000000)only[DM C,qA,bG j,J,t1,U,bne_self_eq_false,beq_self_eq_true,qB,qD,if_false]
theorem M.Hn.jV:MPS M.aJ.cnt M.aJ.ok A6 A3:=M.aJ.wF.all (λn k l=>by simp only[lU];rw[if_neg jK]) (λn k l=>by simp only[gY];rw[if_neg jK]) (λ_ _=>rfl) λ_ _=>rfl
def M.Instr.cnt(x:M.Instr):Nat:=4
theorem M.Instr.wF:MT M.Instr.cnt M.Instr.ok mT iT:=by
 intro x hx k h0 hB
 unfold KB M.Instr.cnt at hB
 obtain⟨J,w1,e1⟩:=nxK (k:=k) jD jD
 obtain⟨U,w2,e2⟩:=nxK (k:=J) jD jD
 obtain⟨C,w3,e3⟩:=nxK (k:=U) jD jD
 obtain⟨k4,w4,e4⟩:=nxK (k:=C) jD jD
 have t4:=mt (k:=C) jD (by unfold KB;omega)
 refine MH.mk k4 ⟨k,J,U,mtx C⟩ (by unfold M.Instr.cnt;omega) (λn pre post j=> ?_) λn l i I j=> ?_
 ·simp only[mT];rw[if_pos (DL pre post x)];simp(maxSteps:=2000000)only[yV,yU,qA,bG j,w1,w2,w3,w4,t4]
 ·simp only[iT];rw[if_pos (Hf I)];simp(maxSteps:=2000000)only[DM I,qA,bG j,w1,w2,w3,w4,t4,bne_self_eq_false,beq_self_eq_true,qB,qD,if_false]
theorem M.Kv.jV:MPS M.Instr.cnt M.Instr.ok B9 B3:=M.Instr.wF.all (λn k l=>by simp only[mT];rw[if_neg jK]) (λn k l=>by simp only[iT];rw[if_neg jK]) (λ_ _=>rfl) λ_ _=>rfl
theorem M.Tc.wF(x:Int)(hx:True)(k:Int)(h0:0<=k)(U:k+(((λ_:Int=>1) x:Nat):Int)<=KB):∃x':Int,(∀n (pre post:List Int),(pre++x::post).length<=maxLen->jX (n+1) k pre.length (pre++x::post)=jX n (k+(((λ_:Int=>1) x:Nat):Int)) ((pre.length+1:Nat):Int) (pre++x'::post))/\∀n (l:List Int) (i:Nat),l[i]? =some x'->l.length<=maxLen->gN l (n+1) k i=gN l n (k+(((λ_:Int=>1) x:Nat):Int)) ((i+1:Nat):Int):=by
 unfold KB at U;(try simp only[]at U⊢)
 obtain⟨k1,w1,e1⟩:=nxK (k:=k) jD jD
 have hE:k1=k+(((λ_:Int=>1) x:Nat):Int):=by simp;omega
 refine⟨k,λn pre post I=> ?_,λn l i C I=> ?_⟩
 ·have j:=le_max I
  have J:pre.length<9223372036854775807:=by simp at j;omega
  simp only[jX]
  rw[if_pos (DL pre post x)]
  simp(maxSteps:=2000000)only[yV,yU,qA,bG J,w1]
  rw[hE]
 ·have j:=le_max I
  have J:i<9223372036854775807:=by have:=(qd.1 C).1;omega
  simp only[gN]
  rw[if_pos (Hf C)]
  simp(maxSteps:=2000000)only[DM C,qA,bG J,w1,bne_self_eq_false,beq_self_eq_true,qB,qD,if_false]
  rw[hE]
theorem M.Tc.cl(xs:List Int):bA (λ_:Int=>1) xs=xs.length:=by
 induction xs with
 |nil=>rfl
 |cons x xs j=>simp only[bA,j,qJ];omega
theorem M.Tc.jV(xs:List Int)(I:okI xs)(k:Int)(J:0<=k)(C:k+((xs.length:Nat):Int)<=KB):∃j,Bm xs k=some (j,k+((xs.length:Nat):Int))/\Bk j k=some (k+((xs.length:Nat):Int))/\j.length=xs.length:=by have U:=le_max I.1;rw[<-M.Tc.cl xs]at C⊢;obtain⟨j,h1,h2,h3⟩:=KP (ML:=jX) (HL:=gN) (c:=(λ_:Int=>1)) (ok:=(λ_:Int=>True)) (λx I k J C=>M.Tc.wF x I k J C) (λn k l=>by simp only[jX];rw[if_neg jK]) (λn k l=>by simp only[gN];rw[if_neg jK]) xs [] fuel k (by simpa using I.1) jI (λ_ _=>trivial) J C;refine⟨j,by unfold Bm;simpa using h2,by unfold Bk;simpa using h3 fuel jI,by have:=M.Tc.cl xs;omega⟩
def M.bD.cnt(x:M.bD):Nat:=8+(bA M.aJ.cnt x.aJ)+(bA M.Instr.cnt x.aJf.aJ5)+(x.aJf.aKH.length)
theorem M.bD.wF:MT M.bD.cnt M.bD.ok oA gZ:=by
 intro x I k h0 hB
 unfold KB M.bD.cnt at hB
 obtain⟨J,w1,e1⟩:=nxK (k:=k) jD jD
 obtain⟨U,w2,e2⟩:=nxK (k:=J) jD jD
 have t2:=mt (k:=J) jD (by unfold KB;omega)
 obtain⟨k3,w3,e3⟩:=nxK (k:=U) jD jD
 have t3:=mt (k:=U) jD (by unfold KB;omega)
 obtain⟨k4,w4,e4⟩:=nxK (k:=k3) jD jD
 obtain⟨y1,a1,b1,_⟩:=M.Hn.jV _ I.aJ k4 jD (by unfold KB;omega)
 obtain⟨k5,e5⟩:∃j,j=k4+((bA M.aJ.cnt x.aJ:Nat):Int):=⟨_,rfl⟩
 rw[<-e5]at a1 b1
 have d1:=dk (a:=k5) jD
 obtain⟨y2,a2,b2,_⟩:=M.Kv.jV _ I.aJf.aJ5 k5 jD (by unfold KB;omega)
 obtain⟨k6,e6⟩:∃j,j=k5+((bA M.Instr.cnt x.aJf.aJ5:Nat):Int):=⟨_,rfl⟩
 rw[<-e6]at a2 b2
 have d2:=dk (a:=k6) jD
 obtain⟨k7,w7,e7⟩:=nxK (k:=k6) jD jD
 obtain⟨y3,a3,b3,_⟩:=M.Tc.jV _ I.aJf.aKH k7 jD (by unfold KB;omega)
 obtain⟨k8,e8⟩:∃j,j=k7+((x.aJf.aKH.length:Nat):Int):=⟨_,rfl⟩
 rw[<-e8]at a3 b3
 have d3:=dk (a:=k8) jD
 obtain⟨k9,w9,e9⟩:=nxK (k:=k8) jD jD
 obtain⟨aa,ae,ai⟩:=nxK (k:=k9) jD jD
 obtain⟨ah,af,aj⟩:=nxK (k:=aa) jD jD
 refine MH.mk ah ⟨k,mtx J,mtx U,k3,y1,⟨y2,k6,y3,k8,(Int.tmod k9 3)==0,(Int.tmod aa 3)==0⟩⟩ (by unfold M.bD.cnt;omega) (λn pre post C=> ?_) λn l i hi C=> ?_
 ·simp only[oA];rw[if_pos (DL pre post x)];simp(maxSteps:=2000000)only[yV,yU,qA,bG C,w1,w2,t2,w3,t3,w4,a1,a2,w7,a3,w9,ae,af]
 ·simp only[gZ];rw[if_pos (Hf hi)];simp(maxSteps:=2000000)only[DM hi,qA,bG C,w1,w2,t2,w3,t3,w4,b1,d1,b2,d2,w7,b3,d3,w9,ae,af,bne_self_eq_false,beq_self_eq_true,qB,qD,if_false]
theorem M.Px.jV:MPS M.bD.cnt M.bD.ok CO CP:=M.bD.wF.all (λn k l=>by simp only[oA];rw[if_neg jK]) (λn k l=>by simp only[gZ];rw[if_neg jK]) (λ_ _=>rfl) λ_ _=>rfl
def M.fE.cnt(x:M.fE):Nat:=4
theorem M.fE.wF:MT M.fE.cnt M.fE.ok nW lB:=by
 intro x hx k h0 hB
 unfold KB M.fE.cnt at hB
 obtain⟨I,w1,e1⟩:=nxK (k:=k) jD jD
 have t1:=mt (k:=k) jD (by unfold KB;omega)
 obtain⟨J,w2,e2⟩:=nxK (k:=I) jD jD
 obtain⟨U,w3,e3⟩:=nxK (k:=J) jD jD
 obtain⟨k4,w4,e4⟩:=nxK (k:=U) jD jD
 refine MH.mk k4 ⟨mtx k,I,(Int.tmod J 3)==0,(Int.tmod U 3)==0⟩ (by unfold M.fE.cnt;omega) (λn pre post j=> ?_) λn l i C j=> ?_
 ·simp only[nW];rw[if_pos (DL pre post x)];simp(maxSteps:=2000000)only[yV,yU,qA,bG j,w1,t1,w2,w3,w4]
 ·simp only[lB];rw[if_pos (Hf C)];simp(maxSteps:=2000000)only[DM C,qA,bG j,w1,t1,w2,w3,w4,bne_self_eq_false,beq_self_eq_true,qB,qD,if_false]
theorem M.PC.jV:MPS M.fE.cnt M.fE.ok CZ CY:=M.fE.wF.all (λn k l=>by simp only[nW];rw[if_neg jK]) (λn k l=>by simp only[lB];rw[if_neg jK]) (λ_ _=>rfl) λ_ _=>rfl
def M.kK.cnt(x:M.kK):Nat:=3
theorem M.kK.wF:MT M.kK.cnt M.kK.ok nQ lF:=by
 intro x hx k h0 hB
 unfold KB M.kK.cnt at hB
 obtain⟨I,U,e1⟩:=nxK (k:=k) jD jD
 obtain⟨J,w2,e2⟩:=nxK (k:=I) jD jD
 obtain⟨k3,w3,e3⟩:=nxK (k:=J) jD jD
 refine MH.mk k3 ⟨k,I,J⟩ (by unfold M.kK.cnt;omega) (λn pre post j=> ?_) λn l i C j=> ?_
 ·simp only[nQ];rw[if_pos (DL pre post x)];simp(maxSteps:=2000000)only[yV,yU,qA,bG j,U,w2,w3]
 ·simp only[lF];rw[if_pos (Hf C)];simp(maxSteps:=2000000)only[DM C,qA,bG j,U,w2,w3,bne_self_eq_false,beq_self_eq_true,qB,qD,if_false]
theorem M.Qo.jV:MPS M.kK.cnt M.kK.ok C0 C3:=M.kK.wF.all (λn k l=>by simp only[nQ];rw[if_neg jK]) (λn k l=>by simp only[lF];rw[if_neg jK]) (λ_ _=>rfl) λ_ _=>rfl
theorem M.Dv.wF(x:ByteArray)(hx:True)(k:Int)(h0:0<=k)(U:k+(((λ_:ByteArray=>1) x:Nat):Int)<=KB):∃x':ByteArray,(∀n (pre post:List ByteArray),(pre++x::post).length<=maxLen->fR (n+1) k pre.length (pre++x::post)=fR n (k+(((λ_:ByteArray=>1) x:Nat):Int)) ((pre.length+1:Nat):Int) (pre++x'::post))/\∀n (l:List ByteArray) (i:Nat),l[i]? =some x'->l.length<=maxLen->eE l (n+1) k i=eE l n (k+(((λ_:ByteArray=>1) x:Nat):Int)) ((i+1:Nat):Int):=by
 unfold KB at U;(try simp only[]at U⊢)
 obtain⟨k1,w1,e1⟩:=nxK (k:=k) jD jD
 have t1:=mt (k:=k) jD (by unfold KB;omega)
 have hE:k1=k+(((λ_:ByteArray=>1) x:Nat):Int):=by simp;omega
 refine⟨mtx k,λn pre post I=> ?_,λn l i C I=> ?_⟩
 ·have j:=le_max I
  have J:pre.length<9223372036854775807:=by simp at j;omega
  simp only[fR]
  rw[if_pos (DL pre post x)]
  simp(maxSteps:=2000000)only[yV,yU,qA,bG J,w1,t1]
  rw[hE]
 ·have j:=le_max I
  have J:i<9223372036854775807:=by have:=(qd.1 C).1;omega
  simp only[eE]
  rw[if_pos (Hf C)]
  simp(maxSteps:=2000000)only[DM C,qA,bG J,w1,t1,bne_self_eq_false,beq_self_eq_true,qB,qD,if_false]
  rw[hE]
theorem M.Dv.cl(xs:List ByteArray):bA (λ_:ByteArray=>1) xs=xs.length:=by
 induction xs with
 |nil=>rfl
 |cons x xs j=>simp only[bA,j,qJ];omega
theorem M.Dv.jV(xs:List ByteArray)(I:okS xs)(k:Int)(J:0<=k)(C:k+((xs.length:Nat):Int)<=KB):∃j,uQ xs k=some (j,k+((xs.length:Nat):Int))/\uV j k=some (k+((xs.length:Nat):Int))/\j.length=xs.length:=by have U:=le_max I.1;rw[<-M.Dv.cl xs]at C⊢;obtain⟨j,h1,h2,h3⟩:=KP (ML:=fR) (HL:=eE) (c:=(λ_:ByteArray=>1)) (ok:=(λ_:ByteArray=>True)) (λx I k J C=>M.Dv.wF x I k J C) (λn k l=>by simp only[fR];rw[if_neg jK]) (λn k l=>by simp only[eE];rw[if_neg jK]) xs [] fuel k (by simpa using I.1) jI (λ_ _=>trivial) J C;refine⟨j,by unfold uQ;simpa using h2,by unfold uV;simpa using h3 fuel jI,by have:=M.Dv.cl xs;omega⟩
def M.aJj.cnt(x:M.aJj):Nat:=3+(x.aKA.length)
theorem M.aJj.wF:MT M.aJj.cnt M.aJj.ok oH kQ:=by
 intro x hx k h0 hB
 unfold KB M.aJj.cnt at hB
 obtain⟨U,w1,e1⟩:=nxK (k:=k) jD jD
 have t1:=mt (k:=k) jD (by unfold KB;omega)
 obtain⟨k2,w2,e2⟩:=nxK (k:=U) jD jD
 obtain⟨y1,C,I,_⟩:=M.Dv.jV _ hx.aKA k2 jD (by unfold KB;omega)
 obtain⟨k3,e3⟩:∃k',k'=k2+((x.aKA.length:Nat):Int):=⟨_,rfl⟩
 rw[<-e3]at C I
 have d1:=dk (a:=k3) jD
 obtain⟨k4,w4,e4⟩:=nxK (k:=k3) jD jD
 refine MH.mk k4 ⟨mtx k,U,y1,(Int.tmod k3 3)==0⟩ (by unfold M.aJj.cnt;omega) (λn pre post j=> ?_) λn l i J j=> ?_
 ·simp only[oH];rw[if_pos (DL pre post x)];simp(maxSteps:=2000000)only[yV,yU,qA,bG j,w1,t1,w2,C,w4]
 ·simp only[kQ];rw[if_pos (Hf J)];simp(maxSteps:=2000000)only[DM J,qA,bG j,w1,t1,w2,I,d1,w4,bne_self_eq_false,beq_self_eq_true,qB,qD,if_false]
theorem M.Pu.jV:MPS M.aJj.cnt M.aJj.ok CV Da:=M.aJj.wF.all (λn k l=>by simp only[oH];rw[if_neg jK]) (λn k l=>by simp only[kQ];rw[if_neg jK]) (λ_ _=>rfl) λ_ _=>rfl
def M.aK.cnt(x:M.aK):Nat:=2
theorem M.aK.wF:MT M.aK.cnt M.aK.ok kB gL:=by
 intro x hx k h0 hB
 unfold KB M.aK.cnt at hB
 obtain⟨I,J,e1⟩:=nxK (k:=k) jD jD
 obtain⟨k2,U,e2⟩:=nxK (k:=I) jD jD
 refine MH.mk k2 ⟨k,I⟩ (by unfold M.aK.cnt;omega) (λn pre post j=> ?_) λn l i C j=> ?_
 ·simp only[kB];rw[if_pos (DL pre post x)];simp(maxSteps:=2000000)only[yV,yU,qA,bG j,J,U]
 ·simp only[gL];rw[if_pos (Hf C)];simp(maxSteps:=2000000)only[DM C,qA,bG j,J,U,bne_self_eq_false,beq_self_eq_true,qB,qD,if_false]
theorem M.FC.jV:MPS M.aK.cnt M.aK.ok zA yY:=M.aK.wF.all (λn k l=>by simp only[kB];rw[if_neg jK]) (λn k l=>by simp only[gL];rw[if_neg jK]) (λ_ _=>rfl) λ_ _=>rfl
def M.aJn.cnt(x:M.aJn):Nat:=2+(bA M.aJl.cnt x.aD.aJe)+(bA M.aK.cnt x.aK)+(bA M.aW.cnt x.aJ8)
theorem M.aJn.wF:MT M.aJn.cnt M.aJn.ok lI fP:=by
 intro x I k h0 hB
 unfold KB M.aJn.cnt at hB
 obtain⟨k1,w1,e1⟩:=nxK (k:=k) jD jD
 have t1:=mt (k:=k) jD (by unfold KB;omega)
 obtain⟨y1,J,b1,_⟩:=M.Lc.jV _ I.aD.aJe k1 jD (by unfold KB;omega)
 obtain⟨k2,e2⟩:∃j,j=k1+((bA M.aJl.cnt x.aD.aJe:Nat):Int):=⟨_,rfl⟩
 rw[<-e2]at J b1
 have d1:=dk (a:=k2) jD
 obtain⟨k3,w3,e3⟩:=nxK (k:=k2) jD jD
 obtain⟨y2,U,b2,_⟩:=M.FC.jV _ I.aK k3 jD (by unfold KB;omega)
 obtain⟨k4,e4⟩:∃j,j=k3+((bA M.aK.cnt x.aK:Nat):Int):=⟨_,rfl⟩
 rw[<-e4]at U b2
 have d2:=dk (a:=k4) jD
 obtain⟨y3,a3,b3,_⟩:=M.Gl.jV _ I.aJ8 k4 jD (by unfold KB;omega)
 obtain⟨k5,e5⟩:∃j,j=k4+((bA M.aW.cnt x.aJ8:Nat):Int):=⟨_,rfl⟩
 rw[<-e5]at a3 b3
 have d3:=dk (a:=k5) jD
 refine MH.mk k5 ⟨⟨mtx k,y1,k2⟩,y2,y3⟩ (by unfold M.aJn.cnt;omega) (λn pre post C=> ?_) λn l i hi C=> ?_
 ·simp only[lI];rw[if_pos (DL pre post x)];simp(maxSteps:=2000000)only[yV,yU,qA,bG C,w1,t1,J,w3,U,a3]
 ·simp only[fP];rw[if_pos (Hf hi)];simp(maxSteps:=2000000)only[DM hi,qA,bG C,w1,t1,b1,d1,w3,b2,d2,b3,d3,bne_self_eq_false,beq_self_eq_true,qB,qD,if_false]
theorem M.Ht.jV:MPS M.aJn.cnt M.aJn.ok AZ A8:=M.aJn.wF.all (λn k l=>by simp only[lI];rw[if_neg jK]) (λn k l=>by simp only[fP];rw[if_neg jK]) (λ_ _=>rfl) λ_ _=>rfl
def M.World.Yy(x:M.World):Nat:=(bA M.aJa.cnt x.aC.aJh)+(bA M.bD.cnt x.aJu)+(bA M.fE.cnt x.aJv.aJv)+(bA M.kK.cnt x.aJp.aKI)+(bA M.aJj.cnt x.aJ6)+(bA M.aJn.cnt x.aJ0)
theorem M.World.jV(x:M.World)(j:M.World.ok x)(k:Int)(h0:0<=k)(hB:k+((M.World.Yy x:Nat):Int)<=KB):∃C I J U y5 y6,tZ x k=some (C,I,J,U,y5,y6,k+((M.World.Yy x:Nat):Int))/\uO (⟨x.Now,x.aKB,x.aJq,⟨C⟩,I,x.aJy,⟨J⟩,⟨U⟩,y5,y6⟩:M.World) k=some (k+((M.World.Yy x:Nat):Int)):=by unfold KB at hB;unfold M.World.Yy at hB⊢;obtain⟨C,a1,b1,_⟩:=M.Hp.jV _ j.aC.aJh (k) jD (by unfold KB;omega);obtain⟨I,a2,b2,_⟩:=M.Px.jV _ j.aJu (k+((bA M.aJa.cnt x.aC.aJh:Nat):Int)) jD (by unfold KB;omega);obtain⟨J,a3,b3,_⟩:=M.PC.jV _ j.aJv.aJv (k+((bA M.aJa.cnt x.aC.aJh:Nat):Int)+((bA M.bD.cnt x.aJu:Nat):Int)) jD (by unfold KB;omega);obtain⟨U,a4,b4,_⟩:=M.Qo.jV _ j.aJp.aKI (k+((bA M.aJa.cnt x.aC.aJh:Nat):Int)+((bA M.bD.cnt x.aJu:Nat):Int)+((bA M.fE.cnt x.aJv.aJv:Nat):Int)) jD (by unfold KB;omega);obtain⟨y5,a5,b5,_⟩:=M.Pu.jV _ j.aJ6 (k+((bA M.aJa.cnt x.aC.aJh:Nat):Int)+((bA M.bD.cnt x.aJu:Nat):Int)+((bA M.fE.cnt x.aJv.aJv:Nat):Int)+((bA M.kK.cnt x.aJp.aKI:Nat):Int)) jD (by unfold KB;omega);obtain⟨y6,a6,b6,_⟩:=M.Ht.jV _ j.aJ0 (k+((bA M.aJa.cnt x.aC.aJh:Nat):Int)+((bA M.bD.cnt x.aJu:Nat):Int)+((bA M.fE.cnt x.aJv.aJv:Nat):Int)+((bA M.kK.cnt x.aJp.aKI:Nat):Int)+((bA M.aJj.cnt x.aJ6:Nat):Int)) jD (by unfold KB;omega);refine⟨C,I,J,U,y5,y6,?_,?_⟩;(unfold tZ;simp only[A5,wG,AY,a1,a2,a3,a4,a5,a6,qA];try (simp only[qb,qa,true_and];omega));·unfold uO;simp(disch:=(first|omega|(unfold KB;omega)))only[AW,wJ,A4,b1,b2,b3,b4,b5,b6,qA,dk,qD,if_false];try (simp only[qb];omega)
theorem M.He.gT(xs:List Int):xs.length<=40*(xs.length):=by omega
theorem M.aJo.gT(x:M.aJo):M.aJo.cnt x<=40+40*M.aJo.sz x:=by unfold M.aJo.cnt;simp only[M.aJo.sz,M.aJg.sz];have:=M.He.gT x.aJg.aKS;omega
theorem M.Hg.gT(xs:List M.aJo):bA M.aJo.cnt xs<=40*(xs.length+bA M.aJo.sz xs):=sO (λx _=>M.aJo.gT x)
theorem M.aJs.gT(x:M.aJs):M.aJs.cnt x<=40+40*M.aJs.sz x:=by unfold M.aJs.cnt;simp only[M.aJs.sz];have:=M.Hg.gT x.aJt;omega
theorem M.Kd.gT(xs:List M.aJs):bA M.aJs.cnt xs<=40*(xs.length+bA M.aJs.sz xs):=sO (λx _=>M.aJs.gT x)
theorem M.Field.gT(x:M.Field):M.Field.cnt x<=40+40*M.Field.sz x:=by unfold M.Field.cnt;simp only[M.Field.sz];omega
theorem M.KO.gT(xs:List M.Field):bA M.Field.cnt xs<=40*(xs.length+bA M.Field.sz xs):=sO (λx _=>M.Field.gT x)
theorem M.aJl.gT(x:M.aJl):M.aJl.cnt x<=40+40*M.aJl.sz x:=by unfold M.aJl.cnt;simp only[M.aJl.sz,M.Key.sz,M.aA.sz];have:=M.KO.gT x.aA.aJi;omega
theorem M.Lc.gT(xs:List M.aJl):bA M.aJl.cnt xs<=40*(xs.length+bA M.aJl.sz xs):=sO (λx _=>M.aJl.gT x)
theorem M.aD.gT(x:M.aD):M.aD.cnt x<=40+40*M.aD.sz x:=by unfold M.aD.cnt;simp only[M.aD.sz];have:=M.Lc.gT x.aJe;omega
theorem M.J3.gT(xs:List M.aD):bA M.aD.cnt xs<=40*(xs.length+bA M.aD.sz xs):=sO (λx _=>M.aD.gT x)
theorem M.aG.gT(x:M.aG):M.aG.cnt x<=40+40*M.aG.sz x:=by unfold M.aG.cnt;simp only[M.aG.sz];omega
theorem M.Ef.gT(xs:List M.aG):bA M.aG.cnt xs<=40*(xs.length+bA M.aG.sz xs):=sO (λx _=>M.aG.gT x)
theorem M.aW.gT(x:M.aW):M.aW.cnt x<=40+40*M.aW.sz x:=by unfold M.aW.cnt;simp only[M.aW.sz,M.Key.sz];omega
theorem M.Gl.gT(xs:List M.aW):bA M.aW.cnt xs<=40*(xs.length+bA M.aW.sz xs):=sO (λx _=>M.aW.gT x)
theorem M.aJa.gT(x:M.aJa):M.aJa.cnt x<=40+40*M.aJa.sz x:=by unfold M.aJa.cnt;simp only[M.aJa.sz,M.aJc.sz,M.aO.sz,M.bL.sz,M.aJb.sz,M.aE.sz,M.aD.sz,M.aJx.sz,M.aM.sz];have:=M.Kd.gT x.aJk.aJk;have:=M.J3.gT x.bL.aJz.aJm;have:=M.Ef.gT x.bL.aJz.aJw;have:=M.He.gT x.bL.Log;have:=M.Lc.gT x.aE.aJz.aJe;have:=M.Gl.gT x.aE.aJx.aM.aJ1;omega
theorem M.Hp.gT(xs:List M.aJa):bA M.aJa.cnt xs<=40*(xs.length+bA M.aJa.sz xs):=sO (λx _=>M.aJa.gT x)
theorem M.aJ.gT(x:M.aJ):M.aJ.cnt x<=40+40*M.aJ.sz x:=by unfold M.aJ.cnt;simp only[M.aJ.sz];omega
theorem M.Hn.gT(xs:List M.aJ):bA M.aJ.cnt xs<=40*(xs.length+bA M.aJ.sz xs):=sO (λx _=>M.aJ.gT x)
theorem M.Instr.gT(x:M.Instr):M.Instr.cnt x<=40+40*M.Instr.sz x:=by unfold M.Instr.cnt;simp only[M.Instr.sz];omega
theorem M.Kv.gT(xs:List M.Instr):bA M.Instr.cnt xs<=40*(xs.length+bA M.Instr.sz xs):=sO (λx _=>M.Instr.gT x)
theorem M.Tc.gT(xs:List Int):xs.length<=40*(xs.length):=by omega
theorem M.bD.gT(x:M.bD):M.bD.cnt x<=40+40*M.bD.sz x:=by unfold M.bD.cnt;simp only[M.bD.sz,M.aJf.sz];have:=M.Hn.gT x.aJ;have:=M.Kv.gT x.aJf.aJ5;have:=M.Tc.gT x.aJf.aKH;omega
theorem M.Px.gT(xs:List M.bD):bA M.bD.cnt xs<=40*(xs.length+bA M.bD.sz xs):=sO (λx _=>M.bD.gT x)
theorem M.fE.gT(x:M.fE):M.fE.cnt x<=40+40*M.fE.sz x:=by unfold M.fE.cnt;simp only[M.fE.sz];omega
theorem M.PC.gT(xs:List M.fE):bA M.fE.cnt xs<=40*(xs.length+bA M.fE.sz xs):=sO (λx _=>M.fE.gT x)
theorem M.kK.gT(x:M.kK):M.kK.cnt x<=40:=by unfold M.kK.cnt;omega
theorem M.Qo.gT(xs:List M.kK):bA M.kK.cnt xs<=40*(xs.length):=qg (JF (λx _=>M.kK.gT x)) jD
theorem M.Dv.gT(xs:List ByteArray):xs.length<=40*(xs.length+bA ByteArray.size xs):=by omega
theorem M.aJj.gT(x:M.aJj):M.aJj.cnt x<=40+40*M.aJj.sz x:=by unfold M.aJj.cnt;simp only[M.aJj.sz];have:=M.Dv.gT x.aKA;omega
theorem M.Pu.gT(xs:List M.aJj):bA M.aJj.cnt xs<=40*(xs.length+bA M.aJj.sz xs):=sO (λx _=>M.aJj.gT x)
theorem M.aK.gT(x:M.aK):M.aK.cnt x<=40:=by unfold M.aK.cnt;omega
theorem M.FC.gT(xs:List M.aK):bA M.aK.cnt xs<=40*(xs.length):=qg (JF (λx _=>M.aK.gT x)) jD
theorem M.aJn.gT(x:M.aJn):M.aJn.cnt x<=40+40*M.aJn.sz x:=by unfold M.aJn.cnt;simp only[M.aJn.sz,M.aD.sz];have:=M.Lc.gT x.aD.aJe;have:=M.FC.gT x.aK;have:=M.Gl.gT x.aJ8;omega
theorem M.Ht.gT(xs:List M.aJn):bA M.aJn.cnt xs<=40*(xs.length+bA M.aJn.sz xs):=sO (λx _=>M.aJn.gT x)
theorem M.World.YG(x:M.World):M.World.Yy x<=40*M.World.sz x:=by unfold M.World.Yy;simp only[M.World.sz,M.aC.sz,M.aQ.sz,M.aJp.sz];have:=M.Hp.gT x.aC.aJh;have:=M.Px.gT x.aJu;have:=M.PC.gT x.aJv.aJv;have:=M.Qo.gT x.aJp.aKI;have:=M.Pu.gT x.aJ6;have:=M.Ht.gT x.aJ0;omega
