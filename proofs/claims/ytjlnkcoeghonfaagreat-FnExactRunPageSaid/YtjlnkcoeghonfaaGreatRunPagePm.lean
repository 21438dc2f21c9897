/-
  Helper text. No conditions.
-/
import Derived.Test.YtjlnkcoeghonfaaGreatRunPagePz
set_option maxHeartbeats 4000000
set_option linter.all false
namespace Go.Proofs.YtjlnkcoeghonfaaGreat.gen
open Go Go.Sh
theorem nxK{k:Int}(C:0<=k)(h1:k+1<=4611686018427387904):∃j,IntKind.i64.wrap (k+1)=j/\j=k+1:=⟨k+1,wk C jD,rfl⟩
theorem YM:∀(n:Nat) (v:Int) (b:ByteArray),v.toNat<n->0<=v->(b.size:Int)+v<=KB->∃t,pS n v b=some t/\t.size<=4611686018427387905
 |0,v,b,h,_,_=>by omega
 |n+1,v,b,h,j,hb=>by
  unfold KB at hb
  simp only[pS]
  by_cases hv:v>0
  ·rw[if_pos jE]
   have h1:=Int.tmod_nonneg 10 j
   have h2:=Int.tmod_lt_of_pos v (show(0:Int)<10 by omega)
   have U:=Yt (IntKind.i64.wrap (48+Int.tmod v 10))
   have I:Int.tdiv v 10=v/10:=Int.tdiv_eq_ediv_of_nonneg j
   have J:toStr [IntKind.u8.wrap (IntKind.i64.wrap (48+Int.tmod v 10))]=some (bF [IntKind.u8.wrap (IntKind.i64.wrap (48+Int.tmod v 10))]):=by unfold toStr;rw[if_pos jE]
   have hz:(bF [IntKind.u8.wrap (IntKind.i64.wrap (48+Int.tmod v 10))]).size=1:=rfl
   rw[J,qA]
   unfold cat
   rw[if_pos (by rw[hz];omega),qA,I,bI jD jD]
   refine YM n (v/10) _ jD jD ?_
   rw[ByteArray.size_append,hz]
   unfold KB
   omega
  ·rw[if_neg jE]
   have C:cat (⟨#[109]⟩:ByteArray) b=some ((⟨#[109]⟩:ByteArray)++b):=by unfold cat;rw[if_pos (by show 1+b.size<=_;omega)]
   first|exact⟨_,by rw[C,qA],by rw[ByteArray.size_append];show 1+b.size<=_;omega⟩|exact⟨_,by rw[C];rfl,by rw[ByteArray.size_append];show 1+b.size<=_;omega⟩
theorem ZK(k:Int)(j:0<=k)(h:k<KB):∃t,aN k=some t:=by unfold aN;by_cases hk:k<=0;(exact⟨_,by rw[if_pos (by simpa using hk)]⟩);·rw[if_neg (by simpa using hk)];obtain⟨t,h1,_⟩:=YM fuel k ⟨#[]⟩ (by unfold fuel KB at*;omega) j (by show((0:Nat):Int)+k<=KB;omega);exact⟨t,h1⟩
def mtx(k:Int):ByteArray:=(aN k).getD ⟨#[]⟩
theorem mt{k:Int}(j:0<=k)(h:k<KB):aN k=some (mtx k):=by obtain⟨t,C⟩:=ZK k j h;unfold mtx;rw[C];rfl
theorem M.Hl.wI(x:Int)(hx:True)(k:Int)(h0:0<=k)(U:k+(((λ_:Int=>1) x:Nat):Int)<=KB):∃x':Int,(∀n (pre post:List Int),(pre++x::post).length<=maxLen->iB (n+1) k pre.length (pre++x::post)=iB n (k+(((λ_:Int=>1) x:Nat):Int)) ((pre.length+1:Nat):Int) (pre++x'::post))/\∀n (l:List Int) (i:Nat),l[i]? =some x'->l.length<=maxLen->fX l (n+1) k i=fX l n (k+(((λ_:Int=>1) x:Nat):Int)) ((i+1:Nat):Int):=by
 unfold KB at U;(try simp only[]at U⊢)
 obtain⟨k1,w1,e1⟩:=nxK (k:=k) jD jD
 have hE:k1=k+(((λ_:Int=>1) x:Nat):Int):=by simp;omega
 refine⟨IntKind.u8.wrap k,λn pre post I=> ?_,λn l i C I=> ?_⟩
 ·have j:=le_max I
  have J:pre.length<9223372036854775807:=by simp at j;omega
  simp only[iB]
  rw[if_pos (DR pre post x)]
  simp(maxSteps:=2000000)only[yX,yW,qA,bG J,w1]
  rw[hE]
 ·have j:=le_max I
  have J:i<9223372036854775807:=by have:=(qd.1 C).1;omega
  simp only[fX]
  rw[if_pos (Hm C)]
  simp(maxSteps:=2000000)only[DS C,qA,bG J,w1,bne_self_eq_false,beq_self_eq_true,qB,qD,if_false]
  rw[hE]
theorem M.Hl.cl(xs:List Int):bA (λ_:Int=>1) xs=xs.length:=by
 induction xs with
 |nil=>rfl
 |cons x xs j=>simp only[bA,j,qJ];omega
theorem M.Hl.jY(xs:List Int)(I:okB xs)(k:Int)(J:0<=k)(C:k+((xs.length:Nat):Int)<=KB):∃j,uM xs k=some (j,k+((xs.length:Nat):Int))/\tO j k=some (k+((xs.length:Nat):Int))/\j.length=xs.length:=by have U:=le_max I.1;rw[<-M.Hl.cl xs]at C⊢;obtain⟨j,h1,h2,h3⟩:=KV (ML:=iB) (HL:=fX) (c:=(λ_:Int=>1)) (ok:=(λ_:Int=>True)) (λx I k J C=>M.Hl.wI x I k J C) (λn k l=>by simp only[iB];rw[if_neg jK]) (λn k l=>by simp only[fX];rw[if_neg jK]) xs [] fuel k (by simpa using I.1) jI (λ_ _=>trivial) J C;refine⟨j,by unfold uM;simpa using h2,by unfold tO;simpa using h3 fuel jI,by have:=M.Hl.cl xs;omega⟩
def M.aJx.cnt(x:M.aJx):Nat:=6+(x.aJo.aKa.length)
theorem M.aJx.wI:MT M.aJx.cnt M.aJx.ok mA hU:=by
 intro x hx k h0 hB
 unfold KB M.aJx.cnt at hB
 obtain⟨C,w1,e1⟩:=nxK (k:=k) jD jD
 have t1:=mt (k:=k) jD (by unfold KB;omega)
 obtain⟨k2,w2,e2⟩:=nxK (k:=C) jD jD
 have t2:=mt (k:=C) jD (by unfold KB;omega)
 obtain⟨k3,w3,e3⟩:=nxK (k:=k2) jD jD
 obtain⟨k4,w4,e4⟩:=nxK (k:=k3) jD jD
 obtain⟨k5,w5,e5⟩:=nxK (k:=k4) jD jD
 obtain⟨y1,I,J,_⟩:=M.Hl.jY _ hx.aJo.aKa k5 jD (by unfold KB;omega)
 obtain⟨k6,e6⟩:∃k',k'=k5+((x.aJo.aKa.length:Nat):Int):=⟨_,rfl⟩
 rw[<-e6]at I J
 have d1:=dk (a:=k6) jD
 obtain⟨k7,w7,e7⟩:=nxK (k:=k6) jD jD
 refine MH.mk k7 ⟨mtx k,mtx C,⟨k2,k3,k4,y1,(Int.tmod k6 3)==0⟩⟩ (by unfold M.aJx.cnt;omega) (λn pre post j=> ?_) λn l i U j=> ?_
 ·simp only[mA];rw[if_pos (DR pre post x)];simp(maxSteps:=2000000)only[yX,yW,qA,bG j,w1,t1,w2,t2,w3,w4,w5,I,w7]
 ·simp only[hU];rw[if_pos (Hm U)];simp(maxSteps:=2000000)only[DS U,qA,bG j,w1,t1,w2,t2,w3,w4,w5,J,d1,w7,bne_self_eq_false,beq_self_eq_true,qB,qD,if_false]
theorem M.Hn.jY:MPS M.aJx.cnt M.aJx.ok AW AV:=M.aJx.wI.all (λn k l=>by simp only[mA];rw[if_neg jK]) (λn k l=>by simp only[hU];rw[if_neg jK]) (λ_ _=>rfl) λ_ _=>rfl
def M.aJ0.cnt(x:M.aJ0):Nat:=1+(bA M.aJx.cnt x.aJ1)
theorem M.aJ0.wI:MT M.aJ0.cnt M.aJ0.ok nE jS:=by
 intro x hx k h0 hB
 unfold KB M.aJ0.cnt at hB
 obtain⟨U,w1,e1⟩:=nxK (k:=k) jD jD
 obtain⟨y1,C,I,_⟩:=M.Hn.jY _ hx.aJ1 U jD (by unfold KB;omega)
 obtain⟨k2,e2⟩:∃k',k'=U+((bA M.aJx.cnt x.aJ1:Nat):Int):=⟨_,rfl⟩
 rw[<-e2]at C I
 have d1:=dk (a:=k2) jD
 refine MH.mk k2 ⟨k,y1⟩ (by unfold M.aJ0.cnt;omega) (λn pre post j=> ?_) λn l i J j=> ?_
 ·simp only[nE];rw[if_pos (DR pre post x)];simp(maxSteps:=2000000)only[yX,yW,qA,bG j,w1,C]
 ·simp only[jS];rw[if_pos (Hm J)];simp(maxSteps:=2000000)only[DS J,qA,bG j,w1,I,d1,bne_self_eq_false,beq_self_eq_true,qB,qD,if_false]
theorem M.Kj.jY:MPS M.aJ0.cnt M.aJ0.ok Ci BO:=M.aJ0.wI.all (λn k l=>by simp only[nE];rw[if_neg jK]) (λn k l=>by simp only[jS];rw[if_neg jK]) (λ_ _=>rfl) λ_ _=>rfl
def M.Field.cnt(x:M.Field):Nat:=2
theorem M.Field.wI:MT M.Field.cnt M.Field.ok mW jV:=by
 intro x hx k h0 hB
 unfold KB M.Field.cnt at hB
 obtain⟨I,J,e1⟩:=nxK (k:=k) jD jD
 have t1:=mt (k:=k) jD (by unfold KB;omega)
 obtain⟨k2,U,e2⟩:=nxK (k:=I) jD jD
 refine MH.mk k2 ⟨mtx k,I⟩ (by unfold M.Field.cnt;omega) (λn pre post j=> ?_) λn l i C j=> ?_
 ·simp only[mW];rw[if_pos (DR pre post x)];simp(maxSteps:=2000000)only[yX,yW,qA,bG j,J,t1,U]
 ·simp only[jV];rw[if_pos (Hm C)];simp(maxSteps:=2000000)only[DS C,qA,bG j,J,t1,U,bne_self_eq_false,beq_self_eq_true,qB,qD,if_false]
theorem M.KU.jY:MPS M.Field.cnt M.Field.ok Ce B0:=M.Field.wI.all (λn k l=>by simp only[mW];rw[if_neg jK]) (λn k l=>by simp only[jV];rw[if_neg jK]) (λ_ _=>rfl) λ_ _=>rfl
def M.aJt.cnt(x:M.aJt):Nat:=3+(bA M.Field.cnt x.aC.aJq)
theorem M.aJt.wI:MT M.aJt.cnt M.aJt.ok oK lF:=by
 intro x hx k h0 hB
 unfold KB M.aJt.cnt at hB
 obtain⟨k1,w1,e1⟩:=nxK (k:=k) jD jD
 obtain⟨C,w2,e2⟩:=nxK (k:=k1) jD jD
 obtain⟨k3,w3,e3⟩:=nxK (k:=C) jD jD
 have t3:=mt (k:=C) jD (by unfold KB;omega)
 obtain⟨y1,I,J,_⟩:=M.KU.jY _ hx.aC.aJq k3 jD (by unfold KB;omega)
 obtain⟨k4,e4⟩:∃k',k'=k3+((bA M.Field.cnt x.aC.aJq:Nat):Int):=⟨_,rfl⟩
 rw[<-e4]at I J
 have d1:=dk (a:=k4) jD
 refine MH.mk k4 ⟨⟨k,k1,mtx C⟩,⟨y1⟩⟩ (by unfold M.aJt.cnt;omega) (λn pre post j=> ?_) λn l i U j=> ?_
 ·simp only[oK];rw[if_pos (DR pre post x)];simp(maxSteps:=2000000)only[yX,yW,qA,bG j,w1,w2,w3,t3,I]
 ·simp only[lF];rw[if_pos (Hm U)];simp(maxSteps:=2000000)only[DS U,qA,bG j,w1,w2,w3,t3,J,d1,bne_self_eq_false,beq_self_eq_true,qB,qD,if_false]
theorem M.Li.jY:MPS M.aJt.cnt M.aJt.ok tX uD:=M.aJt.wI.all (λn k l=>by simp only[oK];rw[if_neg jK]) (λn k l=>by simp only[lF];rw[if_neg jK]) (λ_ _=>rfl) λ_ _=>rfl
def M.aD.cnt(x:M.aD):Nat:=2+(bA M.aJt.cnt x.aJm)
theorem M.aD.wI:MT M.aD.cnt M.aD.ok nB jT:=by
 intro x hx k h0 hB
 unfold KB M.aD.cnt at hB
 obtain⟨U,w1,e1⟩:=nxK (k:=k) jD jD
 have t1:=mt (k:=k) jD (by unfold KB;omega)
 obtain⟨y1,C,I,_⟩:=M.Li.jY _ hx.aJm U jD (by unfold KB;omega)
 obtain⟨k2,e2⟩:∃k',k'=U+((bA M.aJt.cnt x.aJm:Nat):Int):=⟨_,rfl⟩
 rw[<-e2]at C I
 have d1:=dk (a:=k2) jD
 obtain⟨k3,w3,e3⟩:=nxK (k:=k2) jD jD
 refine MH.mk k3 ⟨mtx k,y1,k2⟩ (by unfold M.aD.cnt;omega) (λn pre post j=> ?_) λn l i J j=> ?_
 ·simp only[nB];rw[if_pos (DR pre post x)];simp(maxSteps:=2000000)only[yX,yW,qA,bG j,w1,t1,C,w3]
 ·simp only[jT];rw[if_pos (Hm J)];simp(maxSteps:=2000000)only[DS J,qA,bG j,w1,t1,I,d1,w3,bne_self_eq_false,beq_self_eq_true,qB,qD,if_false]
theorem M.J9.jY:MPS M.aD.cnt M.aD.ok BV BH:=M.aD.wI.all (λn k l=>by simp only[nB];rw[if_neg jK]) (λn k l=>by simp only[jT];rw[if_neg jK]) (λ_ _=>rfl) λ_ _=>rfl
def M.aG.cnt(x:M.aG):Nat:=2
theorem M.aG.wI:MT M.aG.cnt M.aG.ok iN fS:=by
 intro x hx k h0 hB
 unfold KB M.aG.cnt at hB
 obtain⟨C,J,e1⟩:=nxK (k:=k) jD jD
 have t1:=mt (k:=k) jD (by unfold KB;omega)
 obtain⟨k2,U,e2⟩:=nxK (k:=C) jD jD
 have t2:=mt (k:=C) jD (by unfold KB;omega)
 refine MH.mk k2 ⟨mtx k,mtx C⟩ (by unfold M.aG.cnt;omega) (λn pre post j=> ?_) λn l i I j=> ?_
 ·simp only[iN];rw[if_pos (DR pre post x)];simp(maxSteps:=2000000)only[yX,yW,qA,bG j,J,t1,U,t2]
 ·simp only[fS];rw[if_pos (Hm I)];simp(maxSteps:=2000000)only[DS I,qA,bG j,J,t1,U,t2,bne_self_eq_false,beq_self_eq_true,qB,qD,if_false]
theorem M.Em.jY:MPS M.aG.cnt M.aG.ok wL wK:=M.aG.wI.all (λn k l=>by simp only[iN];rw[if_neg jK]) (λn k l=>by simp only[fS];rw[if_neg jK]) (λ_ _=>rfl) λ_ _=>rfl
def M.aY.cnt(x:M.aY):Nat:=7
theorem M.aY.wI:MT M.aY.cnt M.aY.ok mZ iX:=by
 intro x hx k h0 hB
 unfold KB M.aY.cnt at hB
 obtain⟨U,w1,e1⟩:=nxK (k:=k) jD jD
 obtain⟨k2,w2,e2⟩:=nxK (k:=U) jD jD
 obtain⟨k3,w3,e3⟩:=nxK (k:=k2) jD jD
 obtain⟨C,w4,e4⟩:=nxK (k:=k3) jD jD
 obtain⟨I,w5,e5⟩:=nxK (k:=C) jD jD
 have t5:=mt (k:=C) jD (by unfold KB;omega)
 obtain⟨k6,w6,e6⟩:=nxK (k:=I) jD jD
 have t6:=mt (k:=I) jD (by unfold KB;omega)
 obtain⟨k7,w7,e7⟩:=nxK (k:=k6) jD jD
 refine MH.mk k7 ⟨k,U,⟨k2,k3,mtx C⟩,mtx I,k6⟩ (by unfold M.aY.cnt;omega) (λn pre post j=> ?_) λn l i J j=> ?_
 ·simp only[mZ];rw[if_pos (DR pre post x)];simp(maxSteps:=2000000)only[yX,yW,qA,bG j,w1,w2,w3,w4,w5,t5,w6,t6,w7]
 ·simp only[iX];rw[if_pos (Hm J)];simp(maxSteps:=2000000)only[DS J,qA,bG j,w1,w2,w3,w4,w5,t5,w6,t6,w7,bne_self_eq_false,beq_self_eq_true,qB,qD,if_false]
theorem M.Gr.jY:MPS M.aY.cnt M.aY.ok xF xO:=M.aY.wI.all (λn k l=>by simp only[mZ];rw[if_neg jK]) (λn k l=>by simp only[iX];rw[if_neg jK]) (λ_ _=>rfl) λ_ _=>rfl
def M.aJi.cnt(x:M.aJi):Nat:=18+(bA M.aJ0.cnt x.aJs.aJs)+(bA M.aD.cnt x.bL.aJ8.aJw)+(bA M.aG.cnt x.bL.aJ8.aJ5)+(x.bL.Log.length)+(bA M.aJt.cnt x.aE.aJ8.aJm)+(bA M.aY.cnt x.aE.aJ7.aM.aJ9)
theorem M.aJi.wI:MT M.aJi.cnt M.aJi.ok mE fQ:=by
 intro x C k h0 hB
 unfold KB M.aJi.cnt at hB
 obtain⟨U,w1,e1⟩:=nxK (k:=k) jD jD
 have t1:=mt (k:=k) jD (by unfold KB;omega)
 obtain⟨k2,w2,e2⟩:=nxK (k:=U) jD jD
 have t2:=mt (k:=U) jD (by unfold KB;omega)
 obtain⟨k3,w3,e3⟩:=nxK (k:=k2) jD jD
 have t3:=mt (k:=k2) jD (by unfold KB;omega)
 obtain⟨k4,w4,e4⟩:=nxK (k:=k3) jD jD
 obtain⟨k5,w5,e5⟩:=nxK (k:=k4) jD jD
 obtain⟨k6,w6,e6⟩:=nxK (k:=k5) jD jD
 obtain⟨y1,a1,b1,_⟩:=M.Kj.jY _ C.aJs.aJs k6 jD (by unfold KB;omega)
 obtain⟨k7,e7⟩:∃j,j=k6+((bA M.aJ0.cnt x.aJs.aJs:Nat):Int):=⟨_,rfl⟩
 rw[<-e7]at a1 b1
 have d1:=dk (a:=k7) jD
 obtain⟨k8,w8,e8⟩:=nxK (k:=k7) jD jD
 have t8:=mt (k:=k7) jD (by unfold KB;omega)
 obtain⟨k9,w9,e9⟩:=nxK (k:=k8) jD jD
 obtain⟨y2,a2,b2,_⟩:=M.J9.jY _ C.bL.aJ8.aJw k9 jD (by unfold KB;omega)
 obtain⟨aa,bn⟩:∃j,j=k9+((bA M.aD.cnt x.bL.aJ8.aJw:Nat):Int):=⟨_,rfl⟩
 rw[<-bn]at a2 b2
 have d2:=dk (a:=aa) jD
 obtain⟨y3,a3,b3,_⟩:=M.Em.jY _ C.bL.aJ8.aJ5 aa jD (by unfold KB;omega)
 obtain⟨ae,bo⟩:∃j,j=aa+((bA M.aG.cnt x.bL.aJ8.aJ5:Nat):Int):=⟨_,rfl⟩
 rw[<-bo]at a3 b3
 have d3:=dk (a:=ae) jD
 obtain⟨y4,a4,b4,_⟩:=M.Hl.jY _ C.bL.Log ae jD (by unfold KB;omega)
 obtain⟨af,bq⟩:∃j,j=ae+((x.bL.Log.length:Nat):Int):=⟨_,rfl⟩
 rw[<-bq]at a4 b4
 have d4:=dk (a:=af) jD
 obtain⟨I,ak,bw⟩:=nxK (k:=af) jD jD
 obtain⟨al,ao,bz⟩:=nxK (k:=I) jD jD
 have t14:=mt (k:=I) jD (by unfold KB;omega)
 obtain⟨y5,a5,b5,_⟩:=M.Li.jY _ C.aE.aJ8.aJm al jD (by unfold KB;omega)
 obtain⟨ai,br⟩:∃j,j=al+((bA M.aJt.cnt x.aE.aJ8.aJm:Nat):Int):=⟨_,rfl⟩
 rw[<-br]at a5 b5
 have d5:=dk (a:=ai) jD
 obtain⟨aq,ar,c5⟩:=nxK (k:=ai) jD jD
 obtain⟨av,aw,ca⟩:=nxK (k:=aq) jD jD
 obtain⟨ax,ay,cc⟩:=nxK (k:=av) jD jD
 obtain⟨az,ba,cd⟩:=nxK (k:=ax) jD jD
 obtain⟨y6,a6,b6,_⟩:=M.Gr.jY _ C.aE.aJ7.aM.aJ9 az jD (by unfold KB;omega)
 obtain⟨aj,bt⟩:∃j,j=az+((bA M.aY.cnt x.aE.aJ7.aM.aJ9:Nat):Int):=⟨_,rfl⟩
 rw[<-bt]at a6 b6
 have d6:=dk (a:=aj) jD
 obtain⟨bd,bf,cg⟩:=nxK (k:=aj) jD jD
 obtain⟨bg,bh,cj⟩:=nxK (k:=bd) jD jD
 obtain⟨bj,bl,ck⟩:=nxK (k:=bg) jD jD
 obtain⟨bu,bm,cn⟩:=nxK (k:=bj) jD jD
 refine MH.mk bu ⟨mtx k,mtx U,⟨mtx k2,k3,k4,k5⟩,⟨y1⟩,⟨⟨mtx k7,k8,y2,y3⟩,y4,af⟩,⟨⟨mtx I,y5,ai⟩,aq,⟨⟨av,ax,y6⟩,aj,bd⟩⟩,bg,(Int.tmod bj 3)==0⟩ (by unfold M.aJi.cnt;omega) (λn pre post J=> ?_) λn l i hi J=> ?_
 ·simp only[mE];rw[if_pos (DR pre post x)];simp(maxSteps:=2000000)only[yX,yW,qA,bG J,w1,t1,w2,t2,w3,t3,w4,w5,w6,a1,w8,t8,w9,a2,a3,a4,ak,ao,t14,a5,ar,aw,ay,ba,a6,bf,bh,bl,bm]
 ·simp only[fQ];rw[if_pos (Hm hi)];simp(maxSteps:=2000000)only[DS hi,qA,bG J,w1,t1,w2,t2,w3,t3,w4,w5,w6,b1,d1,w8,t8,w9,b2,d2,b3,d3,b4,d4,ak,ao,t14,b5,d5,ar,aw,ay,ba,b6,d6,bf,bh,bl,bm,bne_self_eq_false,beq_self_eq_true,qB,qD,if_false]
theorem M.Hv.jY:MPS M.aJi.cnt M.aJi.ok Ba A0:=M.aJi.wI.all (λn k l=>by simp only[mE];rw[if_neg jK]) (λn k l=>by simp only[fQ];rw[if_neg jK]) (λ_ _=>rfl) λ_ _=>rfl
def M.aJ.cnt(x:M.aJ):Nat:=2
theorem M.aJ.wI:MT M.aJ.cnt M.aJ.ok lW gZ:=by
 intro x hx k h0 hB
 unfold KB M.aJ.cnt at hB
 obtain⟨I,J,e1⟩:=nxK (k:=k) jD jD
 have t1:=mt (k:=k) jD (by unfold KB;omega)
 obtain⟨k2,U,e2⟩:=nxK (k:=I) jD jD
 refine MH.mk k2 ⟨mtx k,I⟩ (by unfold M.aJ.cnt;omega) (λn pre post j=> ?_) λn l i C j=> ?_
 ·simp only[lW];rw[if_pos (DR pre post x)];simp(maxSteps:=2000000)only[yX,yW,qA,bG j,J,t1,U]
 ·simp only[gZ];rw[if_pos (Hm C)];simp(maxSteps:=2000000)only[DS C,qA,bG j,J,t1,U,bne_self_eq_false,beq_self_eq_true,qB,qD,if_false]
theorem M.Ht.jY:MPS M.aJ.cnt M.aJ.ok A9 A6:=M.aJ.wI.all (λn k l=>by simp only[lW];rw[if_neg jK]) (λn k l=>by simp only[gZ];rw[if_neg jK]) (λ_ _=>rfl) λ_ _=>rfl
def M.Instr.cnt(x:M.Instr):Nat:=4
theorem M.Instr.wI:MT M.Instr.cnt M.Instr.ok mV iW:=by
 intro x hx k h0 hB
 unfold KB M.Instr.cnt at hB
 obtain⟨J,w1,e1⟩:=nxK (k:=k) jD jD
 obtain⟨U,w2,e2⟩:=nxK (k:=J) jD jD
 obtain⟨C,w3,e3⟩:=nxK (k:=U) jD jD
 obtain⟨k4,w4,e4⟩:=nxK (k:=C) jD jD
 have t4:=mt (k:=C) jD (by unfold KB;omega)
 refine MH.mk k4 ⟨k,J,U,mtx C⟩ (by unfold M.Instr.cnt;omega) (λn pre post j=> ?_) λn l i I j=> ?_
 ·simp only[mV];rw[if_pos (DR pre post x)];simp(maxSteps:=2000000)only[yX,yW,qA,bG j,w1,w2,w3,w4,t4]
 ·simp only[iW];rw[if_pos (Hm I)];simp(maxSteps:=2000000)only[DS I,qA,bG j,w1,w2,w3,w4,t4,bne_self_eq_false,beq_self_eq_true,qB,qD,if_false]
theorem M.KC.jY:MPS M.Instr.cnt M.Instr.ok Cd B7:=M.Instr.wI.all (λn k l=>by simp only[mV];rw[if_neg jK]) (λn k l=>by simp only[iW];rw[if_neg jK]) (λ_ _=>rfl) λ_ _=>rfl
theorem M.Ti.wI(x:Int)(hx:True)(k:Int)(h0:0<=k)(U:k+(((λ_:Int=>1) x:Nat):Int)<=KB):∃x':Int,(∀n (pre post:List Int),(pre++x::post).length<=maxLen->kA (n+1) k pre.length (pre++x::post)=kA n (k+(((λ_:Int=>1) x:Nat):Int)) ((pre.length+1:Nat):Int) (pre++x'::post))/\∀n (l:List Int) (i:Nat),l[i]? =some x'->l.length<=maxLen->gO l (n+1) k i=gO l n (k+(((λ_:Int=>1) x:Nat):Int)) ((i+1:Nat):Int):=by
 unfold KB at U;(try simp only[]at U⊢)
 obtain⟨k1,w1,e1⟩:=nxK (k:=k) jD jD
 have hE:k1=k+(((λ_:Int=>1) x:Nat):Int):=by simp;omega
 refine⟨k,λn pre post I=> ?_,λn l i C I=> ?_⟩
 ·have j:=le_max I
  have J:pre.length<9223372036854775807:=by simp at j;omega
  simp only[kA]
  rw[if_pos (DR pre post x)]
  simp(maxSteps:=2000000)only[yX,yW,qA,bG J,w1]
  rw[hE]
 ·have j:=le_max I
  have J:i<9223372036854775807:=by have:=(qd.1 C).1;omega
  simp only[gO]
  rw[if_pos (Hm C)]
  simp(maxSteps:=2000000)only[DS C,qA,bG J,w1,bne_self_eq_false,beq_self_eq_true,qB,qD,if_false]
  rw[hE]
theorem M.Ti.cl(xs:List Int):bA (λ_:Int=>1) xs=xs.length:=by
 induction xs with
 |nil=>rfl
 |cons x xs j=>simp only[bA,j,qJ];omega
theorem M.Ti.jY(xs:List Int)(I:okI xs)(k:Int)(J:0<=k)(C:k+((xs.length:Nat):Int)<=KB):∃j,Bq xs k=some (j,k+((xs.length:Nat):Int))/\Bo j k=some (k+((xs.length:Nat):Int))/\j.length=xs.length:=by have U:=le_max I.1;rw[<-M.Ti.cl xs]at C⊢;obtain⟨j,h1,h2,h3⟩:=KV (ML:=kA) (HL:=gO) (c:=(λ_:Int=>1)) (ok:=(λ_:Int=>True)) (λx I k J C=>M.Ti.wI x I k J C) (λn k l=>by simp only[kA];rw[if_neg jK]) (λn k l=>by simp only[gO];rw[if_neg jK]) xs [] fuel k (by simpa using I.1) jI (λ_ _=>trivial) J C;refine⟨j,by unfold Bq;simpa using h2,by unfold Bo;simpa using h3 fuel jI,by have:=M.Ti.cl xs;omega⟩
def M.bD.cnt(x:M.bD):Nat:=8+(bA M.aJ.cnt x.aJ)+(bA M.Instr.cnt x.aJn.aKD)+(x.aJn.aKQ.length)
theorem M.bD.wI:MT M.bD.cnt M.bD.ok oE hH:=by
 intro x I k h0 hB
 unfold KB M.bD.cnt at hB
 obtain⟨J,w1,e1⟩:=nxK (k:=k) jD jD
 obtain⟨U,w2,e2⟩:=nxK (k:=J) jD jD
 have t2:=mt (k:=J) jD (by unfold KB;omega)
 obtain⟨k3,w3,e3⟩:=nxK (k:=U) jD jD
 have t3:=mt (k:=U) jD (by unfold KB;omega)
 obtain⟨k4,w4,e4⟩:=nxK (k:=k3) jD jD
 obtain⟨y1,a1,b1,_⟩:=M.Ht.jY _ I.aJ k4 jD (by unfold KB;omega)
 obtain⟨k5,e5⟩:∃j,j=k4+((bA M.aJ.cnt x.aJ:Nat):Int):=⟨_,rfl⟩
 rw[<-e5]at a1 b1
 have d1:=dk (a:=k5) jD
 obtain⟨y2,a2,b2,_⟩:=M.KC.jY _ I.aJn.aKD k5 jD (by unfold KB;omega)
 obtain⟨k6,e6⟩:∃j,j=k5+((bA M.Instr.cnt x.aJn.aKD:Nat):Int):=⟨_,rfl⟩
 rw[<-e6]at a2 b2
 have d2:=dk (a:=k6) jD
 obtain⟨k7,w7,e7⟩:=nxK (k:=k6) jD jD
 obtain⟨y3,a3,b3,_⟩:=M.Ti.jY _ I.aJn.aKQ k7 jD (by unfold KB;omega)
 obtain⟨k8,e8⟩:∃j,j=k7+((x.aJn.aKQ.length:Nat):Int):=⟨_,rfl⟩
 rw[<-e8]at a3 b3
 have d3:=dk (a:=k8) jD
 obtain⟨k9,w9,e9⟩:=nxK (k:=k8) jD jD
 obtain⟨aa,ae,ai⟩:=nxK (k:=k9) jD jD
 obtain⟨ah,af,aj⟩:=nxK (k:=aa) jD jD
 refine MH.mk ah ⟨k,mtx J,mtx U,k3,y1,⟨y2,k6,y3,k8,(Int.tmod k9 3)==0,(Int.tmod aa 3)==0⟩⟩ (by unfold M.bD.cnt;omega) (λn pre post C=> ?_) λn l i hi C=> ?_
 ·simp only[oE];rw[if_pos (DR pre post x)];simp(maxSteps:=2000000)only[yX,yW,qA,bG C,w1,w2,t2,w3,t3,w4,a1,a2,w7,a3,w9,ae,af]
 ·simp only[hH];rw[if_pos (Hm hi)];simp(maxSteps:=2000000)only[DS hi,qA,bG C,w1,w2,t2,w3,t3,w4,b1,d1,b2,d2,w7,b3,d3,w9,ae,af,bne_self_eq_false,beq_self_eq_true,qB,qD,if_false]
theorem M.PB.jY:MPS M.bD.cnt M.bD.ok CU CV:=M.bD.wI.all (λn k l=>by simp only[oE];rw[if_neg jK]) (λn k l=>by simp only[hH];rw[if_neg jK]) (λ_ _=>rfl) λ_ _=>rfl
def M.eO.cnt(x:M.eO):Nat:=4
theorem M.eO.wI:MT M.eO.cnt M.eO.ok nZ lD:=by
 intro x hx k h0 hB
 unfold KB M.eO.cnt at hB
 obtain⟨I,w1,e1⟩:=nxK (k:=k) jD jD
 have t1:=mt (k:=k) jD (by unfold KB;omega)
 obtain⟨J,w2,e2⟩:=nxK (k:=I) jD jD
 obtain⟨U,w3,e3⟩:=nxK (k:=J) jD jD
 obtain⟨k4,w4,e4⟩:=nxK (k:=U) jD jD
 refine MH.mk k4 ⟨mtx k,I,(Int.tmod J 3)==0,(Int.tmod U 3)==0⟩ (by unfold M.eO.cnt;omega) (λn pre post j=> ?_) λn l i C j=> ?_
 ·simp only[nZ];rw[if_pos (DR pre post x)];simp(maxSteps:=2000000)only[yX,yW,qA,bG j,w1,t1,w2,w3,w4]
 ·simp only[lD];rw[if_pos (Hm C)];simp(maxSteps:=2000000)only[DS C,qA,bG j,w1,t1,w2,w3,w4,bne_self_eq_false,beq_self_eq_true,qB,qD,if_false]
theorem M.PG.jY:MPS M.eO.cnt M.eO.ok C5 C4:=M.eO.wI.all (λn k l=>by simp only[nZ];rw[if_neg jK]) (λn k l=>by simp only[lD];rw[if_neg jK]) (λ_ _=>rfl) λ_ _=>rfl
def M.iU.cnt(x:M.iU):Nat:=3
theorem M.iU.wI:MT M.iU.cnt M.iU.ok nT lH:=by
 intro x hx k h0 hB
 unfold KB M.iU.cnt at hB
 obtain⟨I,U,e1⟩:=nxK (k:=k) jD jD
 obtain⟨J,w2,e2⟩:=nxK (k:=I) jD jD
 obtain⟨k3,w3,e3⟩:=nxK (k:=J) jD jD
 refine MH.mk k3 ⟨k,I,J⟩ (by unfold M.iU.cnt;omega) (λn pre post j=> ?_) λn l i C j=> ?_
 ·simp only[nT];rw[if_pos (DR pre post x)];simp(maxSteps:=2000000)only[yX,yW,qA,bG j,U,w2,w3]
 ·simp only[lH];rw[if_pos (Hm C)];simp(maxSteps:=2000000)only[DS C,qA,bG j,U,w2,w3,bne_self_eq_false,beq_self_eq_true,qB,qD,if_false]
theorem M.Qs.jY:MPS M.iU.cnt M.iU.ok C6 C9:=M.iU.wI.all (λn k l=>by simp only[nT];rw[if_neg jK]) (λn k l=>by simp only[lH];rw[if_neg jK]) (λ_ _=>rfl) λ_ _=>rfl
theorem M.DB.wI(x:ByteArray)(hx:True)(k:Int)(h0:0<=k)(U:k+(((λ_:ByteArray=>1) x:Nat):Int)<=KB):∃x':ByteArray,(∀n (pre post:List ByteArray),(pre++x::post).length<=maxLen->fR (n+1) k pre.length (pre++x::post)=fR n (k+(((λ_:ByteArray=>1) x:Nat):Int)) ((pre.length+1:Nat):Int) (pre++x'::post))/\∀n (l:List ByteArray) (i:Nat),l[i]? =some x'->l.length<=maxLen->eE l (n+1) k i=eE l n (k+(((λ_:ByteArray=>1) x:Nat):Int)) ((i+1:Nat):Int):=by
 unfold KB at U;(try simp only[]at U⊢)
 obtain⟨k1,w1,e1⟩:=nxK (k:=k) jD jD
 have t1:=mt (k:=k) jD (by unfold KB;omega)
 have hE:k1=k+(((λ_:ByteArray=>1) x:Nat):Int):=by simp;omega
 refine⟨mtx k,λn pre post I=> ?_,λn l i C I=> ?_⟩
 ·have j:=le_max I
  have J:pre.length<9223372036854775807:=by simp at j;omega
  simp only[fR]
  rw[if_pos (DR pre post x)]
  simp(maxSteps:=2000000)only[yX,yW,qA,bG J,w1,t1]
  rw[hE]
 ·have j:=le_max I
  have J:i<9223372036854775807:=by have:=(qd.1 C).1;omega
  simp only[eE]
  rw[if_pos (Hm C)]
  simp(maxSteps:=2000000)only[DS C,qA,bG J,w1,t1,bne_self_eq_false,beq_self_eq_true,qB,qD,if_false]
  rw[hE]
theorem M.DB.cl(xs:List ByteArray):bA (λ_:ByteArray=>1) xs=xs.length:=by
 induction xs with
 |nil=>rfl
 |cons x xs j=>simp only[bA,j,qJ];omega
theorem M.DB.jY(xs:List ByteArray)(I:okS xs)(k:Int)(J:0<=k)(C:k+((xs.length:Nat):Int)<=KB):∃j,uS xs k=some (j,k+((xs.length:Nat):Int))/\uX j k=some (k+((xs.length:Nat):Int))/\j.length=xs.length:=by have U:=le_max I.1;rw[<-M.DB.cl xs]at C⊢;obtain⟨j,h1,h2,h3⟩:=KV (ML:=fR) (HL:=eE) (c:=(λ_:ByteArray=>1)) (ok:=(λ_:ByteArray=>True)) (λx I k J C=>M.DB.wI x I k J C) (λn k l=>by simp only[fR];rw[if_neg jK]) (λn k l=>by simp only[eE];rw[if_neg jK]) xs [] fuel k (by simpa using I.1) jI (λ_ _=>trivial) J C;refine⟨j,by unfold uS;simpa using h2,by unfold uX;simpa using h3 fuel jI,by have:=M.DB.cl xs;omega⟩
def M.aJr.cnt(x:M.aJr):Nat:=3+(x.aKJ.length)
theorem M.aJr.wI:MT M.aJr.cnt M.aJr.ok oL kS:=by
 intro x hx k h0 hB
 unfold KB M.aJr.cnt at hB
 obtain⟨U,w1,e1⟩:=nxK (k:=k) jD jD
 have t1:=mt (k:=k) jD (by unfold KB;omega)
 obtain⟨k2,w2,e2⟩:=nxK (k:=U) jD jD
 obtain⟨y1,C,I,_⟩:=M.DB.jY _ hx.aKJ k2 jD (by unfold KB;omega)
 obtain⟨k3,e3⟩:∃k',k'=k2+((x.aKJ.length:Nat):Int):=⟨_,rfl⟩
 rw[<-e3]at C I
 have d1:=dk (a:=k3) jD
 obtain⟨k4,w4,e4⟩:=nxK (k:=k3) jD jD
 refine MH.mk k4 ⟨mtx k,U,y1,(Int.tmod k3 3)==0⟩ (by unfold M.aJr.cnt;omega) (λn pre post j=> ?_) λn l i J j=> ?_
 ·simp only[oL];rw[if_pos (DR pre post x)];simp(maxSteps:=2000000)only[yX,yW,qA,bG j,w1,t1,w2,C,w4]
 ·simp only[kS];rw[if_pos (Hm J)];simp(maxSteps:=2000000)only[DS J,qA,bG j,w1,t1,w2,I,d1,w4,bne_self_eq_false,beq_self_eq_true,qB,qD,if_false]
theorem M.Py.jY:MPS M.aJr.cnt M.aJr.ok C1 Dh:=M.aJr.wI.all (λn k l=>by simp only[oL];rw[if_neg jK]) (λn k l=>by simp only[kS];rw[if_neg jK]) (λ_ _=>rfl) λ_ _=>rfl
def M.aK.cnt(x:M.aK):Nat:=2
theorem M.aK.wI:MT M.aK.cnt M.aK.ok kE gM:=by
 intro x hx k h0 hB
 unfold KB M.aK.cnt at hB
 obtain⟨I,J,e1⟩:=nxK (k:=k) jD jD
 obtain⟨k2,U,e2⟩:=nxK (k:=I) jD jD
 refine MH.mk k2 ⟨k,I⟩ (by unfold M.aK.cnt;omega) (λn pre post j=> ?_) λn l i C j=> ?_
 ·simp only[kE];rw[if_pos (DR pre post x)];simp(maxSteps:=2000000)only[yX,yW,qA,bG j,J,U]
 ·simp only[gM];rw[if_pos (Hm C)];simp(maxSteps:=2000000)only[DS C,qA,bG j,J,U,bne_self_eq_false,beq_self_eq_true,qB,qD,if_false]
theorem M.FI.jY:MPS M.aK.cnt M.aK.ok zC zA:=M.aK.wI.all (λn k l=>by simp only[kE];rw[if_neg jK]) (λn k l=>by simp only[gM];rw[if_neg jK]) (λ_ _=>rfl) λ_ _=>rfl
def M.aJv.cnt(x:M.aJv):Nat:=2+(bA M.aJt.cnt x.aD.aJm)+(bA M.aK.cnt x.aK)+(bA M.aY.cnt x.aKH)
theorem M.aJv.wI:MT M.aJv.cnt M.aJv.ok lK fP:=by
 intro x I k h0 hB
 unfold KB M.aJv.cnt at hB
 obtain⟨k1,w1,e1⟩:=nxK (k:=k) jD jD
 have t1:=mt (k:=k) jD (by unfold KB;omega)
 obtain⟨y1,J,b1,_⟩:=M.Li.jY _ I.aD.aJm k1 jD (by unfold KB;omega)
 obtain⟨k2,e2⟩:∃j,j=k1+((bA M.aJt.cnt x.aD.aJm:Nat):Int):=⟨_,rfl⟩
 rw[<-e2]at J b1
 have d1:=dk (a:=k2) jD
 obtain⟨k3,w3,e3⟩:=nxK (k:=k2) jD jD
 obtain⟨y2,U,b2,_⟩:=M.FI.jY _ I.aK k3 jD (by unfold KB;omega)
 obtain⟨k4,e4⟩:∃j,j=k3+((bA M.aK.cnt x.aK:Nat):Int):=⟨_,rfl⟩
 rw[<-e4]at U b2
 have d2:=dk (a:=k4) jD
 obtain⟨y3,a3,b3,_⟩:=M.Gr.jY _ I.aKH k4 jD (by unfold KB;omega)
 obtain⟨k5,e5⟩:∃j,j=k4+((bA M.aY.cnt x.aKH:Nat):Int):=⟨_,rfl⟩
 rw[<-e5]at a3 b3
 have d3:=dk (a:=k5) jD
 refine MH.mk k5 ⟨⟨mtx k,y1,k2⟩,y2,y3⟩ (by unfold M.aJv.cnt;omega) (λn pre post C=> ?_) λn l i hi C=> ?_
 ·simp only[lK];rw[if_pos (DR pre post x)];simp(maxSteps:=2000000)only[yX,yW,qA,bG C,w1,t1,J,w3,U,a3]
 ·simp only[fP];rw[if_pos (Hm hi)];simp(maxSteps:=2000000)only[DS hi,qA,bG C,w1,t1,b1,d1,w3,b2,d2,b3,d3,bne_self_eq_false,beq_self_eq_true,qB,qD,if_false]
theorem M.HA.jY:MPS M.aJv.cnt M.aJv.ok A4 Bb:=M.aJv.wI.all (λn k l=>by simp only[lK];rw[if_neg jK]) (λn k l=>by simp only[fP];rw[if_neg jK]) (λ_ _=>rfl) λ_ _=>rfl
def M.World.YF(x:M.World):Nat:=(bA M.aJi.cnt x.aA.aJp)+(bA M.bD.cnt x.aJ2)+(bA M.eO.cnt x.aJ3.aJ3)+(bA M.iU.cnt x.aJu.aKM)+(bA M.aJr.cnt x.aKE)+(bA M.aJv.cnt x.aJ6)
theorem M.World.jY(x:M.World)(j:M.World.ok x)(k:Int)(h0:0<=k)(hB:k+((M.World.YF x:Nat):Int)<=KB):∃C I J U y5 y6,uA x k=some (C,I,J,U,y5,y6,k+((M.World.YF x:Nat):Int))/\uQ (⟨x.Now,x.aKF,x.aJy,⟨C⟩,I,x.aJ4,⟨J⟩,⟨U⟩,y5,y6⟩:M.World) k=some (k+((M.World.YF x:Nat):Int)):=by unfold KB at hB;unfold M.World.YF at hB⊢;obtain⟨C,a1,b1,_⟩:=M.Hv.jY _ j.aA.aJp (k) jD (by unfold KB;omega);obtain⟨I,a2,b2,_⟩:=M.PB.jY _ j.aJ2 (k+((bA M.aJi.cnt x.aA.aJp:Nat):Int)) jD (by unfold KB;omega);obtain⟨J,a3,b3,_⟩:=M.PG.jY _ j.aJ3.aJ3 (k+((bA M.aJi.cnt x.aA.aJp:Nat):Int)+((bA M.bD.cnt x.aJ2:Nat):Int)) jD (by unfold KB;omega);obtain⟨U,a4,b4,_⟩:=M.Qs.jY _ j.aJu.aKM (k+((bA M.aJi.cnt x.aA.aJp:Nat):Int)+((bA M.bD.cnt x.aJ2:Nat):Int)+((bA M.eO.cnt x.aJ3.aJ3:Nat):Int)) jD (by unfold KB;omega);obtain⟨y5,a5,b5,_⟩:=M.Py.jY _ j.aKE (k+((bA M.aJi.cnt x.aA.aJp:Nat):Int)+((bA M.bD.cnt x.aJ2:Nat):Int)+((bA M.eO.cnt x.aJ3.aJ3:Nat):Int)+((bA M.iU.cnt x.aJu.aKM:Nat):Int)) jD (by unfold KB;omega);obtain⟨y6,a6,b6,_⟩:=M.HA.jY _ j.aJ6 (k+((bA M.aJi.cnt x.aA.aJp:Nat):Int)+((bA M.bD.cnt x.aJ2:Nat):Int)+((bA M.eO.cnt x.aJ3.aJ3:Nat):Int)+((bA M.iU.cnt x.aJu.aKM:Nat):Int)+((bA M.aJr.cnt x.aKE:Nat):Int)) jD (by unfold KB;omega);refine⟨C,I,J,U,y5,y6,?_,?_⟩;(unfold uA;simp only[A8,wJ,A3,a1,a2,a3,a4,a5,a6,qA];try (simp only[qb,qa,true_and];omega));·unfold uQ;simp(disch:=(first|omega|(unfold KB;omega)))only[AZ,wM,A7,b1,b2,b3,b4,b5,b6,qA,dk,qD,if_false];try (simp only[qb];omega)
theorem M.Hl.gU(xs:List Int):xs.length<=40*(xs.length):=by omega
theorem M.aJx.gU(x:M.aJx):M.aJx.cnt x<=40+40*M.aJx.sz x:=by unfold M.aJx.cnt;simp only[M.aJx.sz,M.aJo.sz];have:=M.Hl.gU x.aJo.aKa;omega
theorem M.Hn.gU(xs:List M.aJx):bA M.aJx.cnt xs<=40*(xs.length+bA M.aJx.sz xs):=sR (λx _=>M.aJx.gU x)
theorem M.aJ0.gU(x:M.aJ0):M.aJ0.cnt x<=40+40*M.aJ0.sz x:=by unfold M.aJ0.cnt;simp only[M.aJ0.sz];have:=M.Hn.gU x.aJ1;omega
theorem M.Kj.gU(xs:List M.aJ0):bA M.aJ0.cnt xs<=40*(xs.length+bA M.aJ0.sz xs):=sR (λx _=>M.aJ0.gU x)
theorem M.Field.gU(x:M.Field):M.Field.cnt x<=40+40*M.Field.sz x:=by unfold M.Field.cnt;simp only[M.Field.sz];omega
theorem M.KU.gU(xs:List M.Field):bA M.Field.cnt xs<=40*(xs.length+bA M.Field.sz xs):=sR (λx _=>M.Field.gU x)
theorem M.aJt.gU(x:M.aJt):M.aJt.cnt x<=40+40*M.aJt.sz x:=by unfold M.aJt.cnt;simp only[M.aJt.sz,M.Key.sz,M.aC.sz];have:=M.KU.gU x.aC.aJq;omega
theorem M.Li.gU(xs:List M.aJt):bA M.aJt.cnt xs<=40*(xs.length+bA M.aJt.sz xs):=sR (λx _=>M.aJt.gU x)
theorem M.aD.gU(x:M.aD):M.aD.cnt x<=40+40*M.aD.sz x:=by unfold M.aD.cnt;simp only[M.aD.sz];have:=M.Li.gU x.aJm;omega
theorem M.J9.gU(xs:List M.aD):bA M.aD.cnt xs<=40*(xs.length+bA M.aD.sz xs):=sR (λx _=>M.aD.gU x)
theorem M.aG.gU(x:M.aG):M.aG.cnt x<=40+40*M.aG.sz x:=by unfold M.aG.cnt;simp only[M.aG.sz];omega
theorem M.Em.gU(xs:List M.aG):bA M.aG.cnt xs<=40*(xs.length+bA M.aG.sz xs):=sR (λx _=>M.aG.gU x)
theorem M.aY.gU(x:M.aY):M.aY.cnt x<=40+40*M.aY.sz x:=by unfold M.aY.cnt;simp only[M.aY.sz,M.Key.sz];omega
theorem M.Gr.gU(xs:List M.aY):bA M.aY.cnt xs<=40*(xs.length+bA M.aY.sz xs):=sR (λx _=>M.aY.gU x)
theorem M.aJi.gU(x:M.aJi):M.aJi.cnt x<=40+40*M.aJi.sz x:=by unfold M.aJi.cnt;simp only[M.aJi.sz,M.aJk.sz,M.aO.sz,M.bL.sz,M.aJj.sz,M.aE.sz,M.aD.sz,M.aJ7.sz,M.aM.sz];have:=M.Kj.gU x.aJs.aJs;have:=M.J9.gU x.bL.aJ8.aJw;have:=M.Em.gU x.bL.aJ8.aJ5;have:=M.Hl.gU x.bL.Log;have:=M.Li.gU x.aE.aJ8.aJm;have:=M.Gr.gU x.aE.aJ7.aM.aJ9;omega
theorem M.Hv.gU(xs:List M.aJi):bA M.aJi.cnt xs<=40*(xs.length+bA M.aJi.sz xs):=sR (λx _=>M.aJi.gU x)
theorem M.aJ.gU(x:M.aJ):M.aJ.cnt x<=40+40*M.aJ.sz x:=by unfold M.aJ.cnt;simp only[M.aJ.sz];omega
theorem M.Ht.gU(xs:List M.aJ):bA M.aJ.cnt xs<=40*(xs.length+bA M.aJ.sz xs):=sR (λx _=>M.aJ.gU x)
theorem M.Instr.gU(x:M.Instr):M.Instr.cnt x<=40+40*M.Instr.sz x:=by unfold M.Instr.cnt;simp only[M.Instr.sz];omega
theorem M.KC.gU(xs:List M.Instr):bA M.Instr.cnt xs<=40*(xs.length+bA M.Instr.sz xs):=sR (λx _=>M.Instr.gU x)
theorem M.Ti.gU(xs:List Int):xs.length<=40*(xs.length):=by omega
theorem M.bD.gU(x:M.bD):M.bD.cnt x<=40+40*M.bD.sz x:=by unfold M.bD.cnt;simp only[M.bD.sz,M.aJn.sz];have:=M.Ht.gU x.aJ;have:=M.KC.gU x.aJn.aKD;have:=M.Ti.gU x.aJn.aKQ;omega
theorem M.PB.gU(xs:List M.bD):bA M.bD.cnt xs<=40*(xs.length+bA M.bD.sz xs):=sR (λx _=>M.bD.gU x)
theorem M.eO.gU(x:M.eO):M.eO.cnt x<=40+40*M.eO.sz x:=by unfold M.eO.cnt;simp only[M.eO.sz];omega
theorem M.PG.gU(xs:List M.eO):bA M.eO.cnt xs<=40*(xs.length+bA M.eO.sz xs):=sR (λx _=>M.eO.gU x)
theorem M.iU.gU(x:M.iU):M.iU.cnt x<=40:=by unfold M.iU.cnt;omega
theorem M.Qs.gU(xs:List M.iU):bA M.iU.cnt xs<=40*(xs.length):=qg (JL (λx _=>M.iU.gU x)) jD
theorem M.DB.gU(xs:List ByteArray):xs.length<=40*(xs.length+bA ByteArray.size xs):=by omega
theorem M.aJr.gU(x:M.aJr):M.aJr.cnt x<=40+40*M.aJr.sz x:=by unfold M.aJr.cnt;simp only[M.aJr.sz];have:=M.DB.gU x.aKJ;omega
theorem M.Py.gU(xs:List M.aJr):bA M.aJr.cnt xs<=40*(xs.length+bA M.aJr.sz xs):=sR (λx _=>M.aJr.gU x)
theorem M.aK.gU(x:M.aK):M.aK.cnt x<=40:=by unfold M.aK.cnt;omega
theorem M.FI.gU(xs:List M.aK):bA M.aK.cnt xs<=40*(xs.length):=qg (JL (λx _=>M.aK.gU x)) jD
theorem M.aJv.gU(x:M.aJv):M.aJv.cnt x<=40+40*M.aJv.sz x:=by unfold M.aJv.cnt;simp only[M.aJv.sz,M.aD.sz];have:=M.Li.gU x.aD.aJm;have:=M.FI.gU x.aK;have:=M.Gr.gU x.aKH;omega
theorem M.HA.gU(xs:List M.aJv):bA M.aJv.cnt xs<=40*(xs.length+bA M.aJv.sz xs):=sR (λx _=>M.aJv.gU x)
theorem M.World.YO(x:M.World):M.World.YF x<=40*M.World.sz x:=by unfold M.World.YF;simp only[M.World.sz,M.aA.sz,M.aP.sz,M.aJu.sz];have:=M.Hv.gU x.aA.aJp;have:=M.PB.gU x.aJ2;have:=M.PG.gU x.aJ3.aJ3;have:=M.Qs.gU x.aJu.aKM;have:=M.Py.gU x.aKE;have:=M.HA.gU x.aJ6;omega
