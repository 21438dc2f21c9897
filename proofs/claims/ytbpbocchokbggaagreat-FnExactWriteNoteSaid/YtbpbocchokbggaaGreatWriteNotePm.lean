/-
  Helper text. No conditions.
-/
import Derived.Test.YtbpbocchokbggaaGreatWriteNotePz
set_option maxHeartbeats 4000000
set_option linter.all false
namespace Go.Proofs.YtbpbocchokbggaaGreat.gen
open Go Go.Sh
theorem nxK{k:Int}(C:0<=k)(h1:k+1<=4611686018427387904):∃j,IntKind.i64.wrap (k+1)=j/\j=k+1:=⟨k+1,wk C jD,rfl⟩
theorem UF:∀(n:Nat) (v:Int) (b:ByteArray),v.toNat<n->0<=v->(b.size:Int)+v<=KB->∃t,mM n v b=some t/\t.size<=4611686018427387905
 |0,v,b,h,_,_=>by omega
 |n+1,v,b,h,j,hb=>by
  unfold KB at hb
  simp only[mM]
  by_cases hv:v>0
  ·rw[if_pos jE]
   have h1:=Int.tmod_nonneg 10 j
   have h2:=Int.tmod_lt_of_pos v (show(0:Int)<10 by omega)
   have U:=Un (IntKind.i64.wrap (48+Int.tmod v 10))
   have I:Int.tdiv v 10=v/10:=Int.tdiv_eq_ediv_of_nonneg j
   have J:toStr [IntKind.u8.wrap (IntKind.i64.wrap (48+Int.tmod v 10))]=some (aY [IntKind.u8.wrap (IntKind.i64.wrap (48+Int.tmod v 10))]):=by unfold toStr;rw[if_pos jE]
   have hz:(aY [IntKind.u8.wrap (IntKind.i64.wrap (48+Int.tmod v 10))]).size=1:=rfl
   rw[J,qA]
   unfold cat
   rw[if_pos (by rw[hz];omega),qA,I,bP jD jD]
   refine UF n (v/10) _ jD jD ?_
   rw[ByteArray.size_append,hz]
   unfold KB
   omega
  ·rw[if_neg jE]
   have C:cat (⟨#[109]⟩:ByteArray) b=some ((⟨#[109]⟩:ByteArray)++b):=by unfold cat;rw[if_pos (by show 1+b.size<=_;omega)]
   first|exact⟨_,by rw[C,qA],by rw[ByteArray.size_append];show 1+b.size<=_;omega⟩|exact⟨_,by rw[C];rfl,by rw[ByteArray.size_append];show 1+b.size<=_;omega⟩
theorem VA(k:Int)(j:0<=k)(h:k<KB):∃t,aH k=some t:=by unfold aH;by_cases hk:k<=0;(exact⟨_,by rw[if_pos (by simpa using hk)]⟩);·rw[if_neg (by simpa using hk)];obtain⟨t,h1,_⟩:=UF fuel k ⟨#[]⟩ (by unfold fuel KB at*;omega) j (by show((0:Nat):Int)+k<=KB;omega);exact⟨t,h1⟩
def mtx(k:Int):ByteArray:=(aH k).getD ⟨#[]⟩
theorem mt{k:Int}(j:0<=k)(h:k<KB):aH k=some (mtx k):=by obtain⟨t,C⟩:=VA k j h;unfold mtx;rw[C];rfl
theorem M.Es.sB(x:Int)(hx:True)(k:Int)(h0:0<=k)(U:k+(((λ_:Int=>1) x:Nat):Int)<=KB):∃x':Int,(∀n (pre post:List Int),(pre++x::post).length<=maxLen->gG (n+1) k pre.length (pre++x::post)=gG n (k+(((λ_:Int=>1) x:Nat):Int)) ((pre.length+1:Nat):Int) (pre++x'::post))/\∀n (l:List Int) (i:Nat),l[i]? =some x'->l.length<=maxLen->eU l (n+1) k i=eU l n (k+(((λ_:Int=>1) x:Nat):Int)) ((i+1:Nat):Int):=by
 unfold KB at U;(try simp only[]at U⊢)
 obtain⟨k1,w1,e1⟩:=nxK (k:=k) jD jD
 have hE:k1=k+(((λ_:Int=>1) x:Nat):Int):=by simp;omega
 refine⟨IntKind.u8.wrap k,λn pre post I=> ?_,λn l i C I=> ?_⟩
 ·have j:=le_max I
  have J:pre.length<9223372036854775807:=by simp at j;omega
  simp only[gG]
  rw[if_pos (BK pre post x)]
  simp(maxSteps:=2000000)only[uN,uM,qA,bI J,w1]
  rw[hE]
 ·have j:=le_max I
  have J:i<9223372036854775807:=by have:=(qd.1 C).1;omega
  simp only[eU]
  rw[if_pos (Et C)]
  simp(maxSteps:=2000000)only[BL C,qA,bI J,w1,bne_self_eq_false,beq_self_eq_true,qB,qD,if_false]
  rw[hE]
theorem M.Es.cl(xs:List Int):aV (λ_:Int=>1) xs=xs.length:=by
 induction xs with
 |nil=>rfl
 |cons x xs j=>simp only[aV,j,qJ];omega
theorem M.Es.fM(xs:List Int)(I:okB xs)(k:Int)(J:0<=k)(C:k+((xs.length:Nat):Int)<=KB):∃j,pQ xs k=some (j,k+((xs.length:Nat):Int))/\pB j k=some (k+((xs.length:Nat):Int))/\j.length=xs.length:=by have U:=le_max I.1;rw[<-M.Es.cl xs]at C⊢;obtain⟨j,h1,h2,h3⟩:=HQ (ML:=gG) (HL:=eU) (c:=(λ_:Int=>1)) (ok:=(λ_:Int=>True)) (λx I k J C=>M.Es.sB x I k J C) (λn k l=>by simp only[gG];rw[if_neg jK]) (λn k l=>by simp only[eU];rw[if_neg jK]) xs [] fuel k (by simpa using I.1) jI (λ_ _=>trivial) J C;refine⟨j,by unfold pQ;simpa using h2,by unfold pB;simpa using h3 fuel jI,by have:=M.Es.cl xs;omega⟩
def M.aEW.cnt(x:M.aEW):Nat:=6+(x.aEQ.aFA.length)
theorem M.aEW.sB:MT M.aEW.cnt M.aEW.ok kB gC:=by
 intro x hx k h0 hB
 unfold KB M.aEW.cnt at hB
 obtain⟨C,w1,e1⟩:=nxK (k:=k) jD jD
 have t1:=mt (k:=k) jD (by unfold KB;omega)
 obtain⟨k2,w2,e2⟩:=nxK (k:=C) jD jD
 have t2:=mt (k:=C) jD (by unfold KB;omega)
 obtain⟨k3,w3,e3⟩:=nxK (k:=k2) jD jD
 obtain⟨k4,w4,e4⟩:=nxK (k:=k3) jD jD
 obtain⟨k5,w5,e5⟩:=nxK (k:=k4) jD jD
 obtain⟨y1,I,J,_⟩:=M.Es.fM _ hx.aEQ.aFA k5 jD (by unfold KB;omega)
 obtain⟨k6,e6⟩:∃k',k'=k5+((x.aEQ.aFA.length:Nat):Int):=⟨_,rfl⟩
 rw[<-e6]at I J
 have d1:=dk (a:=k6) jD
 obtain⟨k7,w7,e7⟩:=nxK (k:=k6) jD jD
 refine MH.mk k7 ⟨mtx k,mtx C,⟨k2,k3,k4,y1,(Int.tmod k6 3)==0⟩⟩ (by unfold M.aEW.cnt;omega) (λn pre post j=> ?_) λn l i U j=> ?_
 ·simp only[kB];rw[if_pos (BK pre post x)];simp(maxSteps:=2000000)only[uN,uM,qA,bI j,w1,t1,w2,t2,w3,w4,w5,I,w7]
 ·simp only[gC];rw[if_pos (Et U)];simp(maxSteps:=2000000)only[BL U,qA,bI j,w1,t1,w2,t2,w3,w4,w5,J,d1,w7,bne_self_eq_false,beq_self_eq_true,qB,qD,if_false]
theorem M.Eu.fM:MPS M.aEW.cnt M.aEW.ok xJ xI:=M.aEW.sB.all (λn k l=>by simp only[kB];rw[if_neg jK]) (λn k l=>by simp only[gC];rw[if_neg jK]) (λ_ _=>rfl) λ_ _=>rfl
def M.aEZ.cnt(x:M.aEZ):Nat:=1+(aV M.aEW.cnt x.aEa)
theorem M.aEZ.sB:MT M.aEZ.cnt M.aEZ.ok kW gZ:=by
 intro x hx k h0 hB
 unfold KB M.aEZ.cnt at hB
 obtain⟨U,w1,e1⟩:=nxK (k:=k) jD jD
 obtain⟨y1,C,I,_⟩:=M.Eu.fM _ hx.aEa U jD (by unfold KB;omega)
 obtain⟨k2,e2⟩:∃k',k'=U+((aV M.aEW.cnt x.aEa:Nat):Int):=⟨_,rfl⟩
 rw[<-e2]at C I
 have d1:=dk (a:=k2) jD
 refine MH.mk k2 ⟨k,y1⟩ (by unfold M.aEZ.cnt;omega) (λn pre post j=> ?_) λn l i J j=> ?_
 ·simp only[kW];rw[if_pos (BK pre post x)];simp(maxSteps:=2000000)only[uN,uM,qA,bI j,w1,C]
 ·simp only[gZ];rw[if_pos (Et J)];simp(maxSteps:=2000000)only[BL J,qA,bI j,w1,I,d1,bne_self_eq_false,beq_self_eq_true,qB,qD,if_false]
theorem M.Hd.fM:MPS M.aEZ.cnt M.aEZ.ok zY zB:=M.aEZ.sB.all (λn k l=>by simp only[kW];rw[if_neg jK]) (λn k l=>by simp only[gZ];rw[if_neg jK]) (λ_ _=>rfl) λ_ _=>rfl
def M.Field.cnt(x:M.Field):Nat:=2
theorem M.Field.sB:MT M.Field.cnt M.Field.ok kR hM:=by
 intro x hx k h0 hB
 unfold KB M.Field.cnt at hB
 obtain⟨I,J,e1⟩:=nxK (k:=k) jD jD
 have t1:=mt (k:=k) jD (by unfold KB;omega)
 obtain⟨k2,U,e2⟩:=nxK (k:=I) jD jD
 refine MH.mk k2 ⟨mtx k,I⟩ (by unfold M.Field.cnt;omega) (λn pre post j=> ?_) λn l i C j=> ?_
 ·simp only[kR];rw[if_pos (BK pre post x)];simp(maxSteps:=2000000)only[uN,uM,qA,bI j,J,t1,U]
 ·simp only[hM];rw[if_pos (Et C)];simp(maxSteps:=2000000)only[BL C,qA,bI j,J,t1,U,bne_self_eq_false,beq_self_eq_true,qB,qD,if_false]
theorem M.HP.fM:MPS M.Field.cnt M.Field.ok zV zL:=M.Field.sB.all (λn k l=>by simp only[kR];rw[if_neg jK]) (λn k l=>by simp only[hM];rw[if_neg jK]) (λ_ _=>rfl) λ_ _=>rfl
def M.aES.cnt(x:M.aES):Nat:=3+(aV M.Field.cnt x.aA.aEN)
theorem M.aES.sB:MT M.aES.cnt M.aES.ok lR iU:=by
 intro x hx k h0 hB
 unfold KB M.aES.cnt at hB
 obtain⟨k1,w1,e1⟩:=nxK (k:=k) jD jD
 obtain⟨C,w2,e2⟩:=nxK (k:=k1) jD jD
 obtain⟨k3,w3,e3⟩:=nxK (k:=C) jD jD
 have t3:=mt (k:=C) jD (by unfold KB;omega)
 obtain⟨y1,I,J,_⟩:=M.HP.fM _ hx.aA.aEN k3 jD (by unfold KB;omega)
 obtain⟨k4,e4⟩:∃k',k'=k3+((aV M.Field.cnt x.aA.aEN:Nat):Int):=⟨_,rfl⟩
 rw[<-e4]at I J
 have d1:=dk (a:=k4) jD
 refine MH.mk k4 ⟨⟨k,k1,mtx C⟩,⟨y1⟩⟩ (by unfold M.aES.cnt;omega) (λn pre post j=> ?_) λn l i U j=> ?_
 ·simp only[lR];rw[if_pos (BK pre post x)];simp(maxSteps:=2000000)only[uN,uM,qA,bI j,w1,w2,w3,t3,I]
 ·simp only[iU];rw[if_pos (Et U)];simp(maxSteps:=2000000)only[BL U,qA,bI j,w1,w2,w3,t3,J,d1,bne_self_eq_false,beq_self_eq_true,qB,qD,if_false]
theorem M.Ic.fM:MPS M.aES.cnt M.aES.ok pF pJ:=M.aES.sB.all (λn k l=>by simp only[lR];rw[if_neg jK]) (λn k l=>by simp only[iU];rw[if_neg jK]) (λ_ _=>rfl) λ_ _=>rfl
def M.aC.cnt(x:M.aC):Nat:=2+(aV M.aES.cnt x.aEM)
theorem M.aC.sB:MT M.aC.cnt M.aC.ok kV hH:=by
 intro x hx k h0 hB
 unfold KB M.aC.cnt at hB
 obtain⟨U,w1,e1⟩:=nxK (k:=k) jD jD
 have t1:=mt (k:=k) jD (by unfold KB;omega)
 obtain⟨y1,C,I,_⟩:=M.Ic.fM _ hx.aEM U jD (by unfold KB;omega)
 obtain⟨k2,e2⟩:∃k',k'=U+((aV M.aES.cnt x.aEM:Nat):Int):=⟨_,rfl⟩
 rw[<-e2]at C I
 have d1:=dk (a:=k2) jD
 obtain⟨k3,w3,e3⟩:=nxK (k:=k2) jD jD
 refine MH.mk k3 ⟨mtx k,y1,k2⟩ (by unfold M.aC.cnt;omega) (λn pre post j=> ?_) λn l i J j=> ?_
 ·simp only[kV];rw[if_pos (BK pre post x)];simp(maxSteps:=2000000)only[uN,uM,qA,bI j,w1,t1,C,w3]
 ·simp only[hH];rw[if_pos (Et J)];simp(maxSteps:=2000000)only[BL J,qA,bI j,w1,t1,I,d1,w3,bne_self_eq_false,beq_self_eq_true,qB,qD,if_false]
theorem M.GZ.fM:MPS M.aC.cnt M.aC.ok zH yV:=M.aC.sB.all (λn k l=>by simp only[kV];rw[if_neg jK]) (λn k l=>by simp only[hH];rw[if_neg jK]) (λ_ _=>rfl) λ_ _=>rfl
def M.aG.cnt(x:M.aG):Nat:=2
theorem M.aG.sB:MT M.aG.cnt M.aG.ok gO eO:=by
 intro x hx k h0 hB
 unfold KB M.aG.cnt at hB
 obtain⟨C,J,e1⟩:=nxK (k:=k) jD jD
 have t1:=mt (k:=k) jD (by unfold KB;omega)
 obtain⟨k2,U,e2⟩:=nxK (k:=C) jD jD
 have t2:=mt (k:=C) jD (by unfold KB;omega)
 refine MH.mk k2 ⟨mtx k,mtx C⟩ (by unfold M.aG.cnt;omega) (λn pre post j=> ?_) λn l i I j=> ?_
 ·simp only[gO];rw[if_pos (BK pre post x)];simp(maxSteps:=2000000)only[uN,uM,qA,bI j,J,t1,U,t2]
 ·simp only[eO];rw[if_pos (Et I)];simp(maxSteps:=2000000)only[BL I,qA,bI j,J,t1,U,t2,bne_self_eq_false,beq_self_eq_true,qB,qD,if_false]
theorem M.Ce.fM:MPS M.aG.cnt M.aG.ok sE sD:=M.aG.sB.all (λn k l=>by simp only[gO];rw[if_neg jK]) (λn k l=>by simp only[eO];rw[if_neg jK]) (λ_ _=>rfl) λ_ _=>rfl
def M.bB.cnt(x:M.bB):Nat:=7
theorem M.bB.sB:MT M.bB.cnt M.bB.ok kT gW:=by
 intro x hx k h0 hB
 unfold KB M.bB.cnt at hB
 obtain⟨U,w1,e1⟩:=nxK (k:=k) jD jD
 obtain⟨k2,w2,e2⟩:=nxK (k:=U) jD jD
 obtain⟨k3,w3,e3⟩:=nxK (k:=k2) jD jD
 obtain⟨C,w4,e4⟩:=nxK (k:=k3) jD jD
 obtain⟨I,w5,e5⟩:=nxK (k:=C) jD jD
 have t5:=mt (k:=C) jD (by unfold KB;omega)
 obtain⟨k6,w6,e6⟩:=nxK (k:=I) jD jD
 have t6:=mt (k:=I) jD (by unfold KB;omega)
 obtain⟨k7,w7,e7⟩:=nxK (k:=k6) jD jD
 refine MH.mk k7 ⟨k,U,⟨k2,k3,mtx C⟩,mtx I,k6⟩ (by unfold M.bB.cnt;omega) (λn pre post j=> ?_) λn l i J j=> ?_
 ·simp only[kT];rw[if_pos (BK pre post x)];simp(maxSteps:=2000000)only[uN,uM,qA,bI j,w1,w2,w3,w4,w5,t5,w6,t6,w7]
 ·simp only[gW];rw[if_pos (Et J)];simp(maxSteps:=2000000)only[BL J,qA,bI j,w1,w2,w3,w4,w5,t5,w6,t6,w7,bne_self_eq_false,beq_self_eq_true,qB,qD,if_false]
theorem M.DL.fM:MPS M.bB.cnt M.bB.ok sX tE:=M.bB.sB.all (λn k l=>by simp only[kT];rw[if_neg jK]) (λn k l=>by simp only[gW];rw[if_neg jK]) (λ_ _=>rfl) λ_ _=>rfl
def M.aEJ.cnt(x:M.aEJ):Nat:=18+(aV M.aEZ.cnt x.aEV.aEV)+(aV M.aC.cnt x.bK.aEe.aEU)+(aV M.aG.cnt x.bK.aEe.aEb)+(x.bK.Log.length)+(aV M.aES.cnt x.aF.aEe.aEM)+(aV M.bB.cnt x.aF.aEf.aU.aEm)
theorem M.aEJ.sB:MT M.aEJ.cnt M.aEJ.ok kD eM:=by
 intro x C k h0 hB
 unfold KB M.aEJ.cnt at hB
 obtain⟨U,w1,e1⟩:=nxK (k:=k) jD jD
 have t1:=mt (k:=k) jD (by unfold KB;omega)
 obtain⟨k2,w2,e2⟩:=nxK (k:=U) jD jD
 have t2:=mt (k:=U) jD (by unfold KB;omega)
 obtain⟨k3,w3,e3⟩:=nxK (k:=k2) jD jD
 have t3:=mt (k:=k2) jD (by unfold KB;omega)
 obtain⟨k4,w4,e4⟩:=nxK (k:=k3) jD jD
 obtain⟨k5,w5,e5⟩:=nxK (k:=k4) jD jD
 obtain⟨k6,w6,e6⟩:=nxK (k:=k5) jD jD
 obtain⟨y1,a1,b1,_⟩:=M.Hd.fM _ C.aEV.aEV k6 jD (by unfold KB;omega)
 obtain⟨k7,e7⟩:∃j,j=k6+((aV M.aEZ.cnt x.aEV.aEV:Nat):Int):=⟨_,rfl⟩
 rw[<-e7]at a1 b1
 have d1:=dk (a:=k7) jD
 obtain⟨k8,w8,e8⟩:=nxK (k:=k7) jD jD
 have t8:=mt (k:=k7) jD (by unfold KB;omega)
 obtain⟨k9,w9,e9⟩:=nxK (k:=k8) jD jD
 obtain⟨y2,a2,b2,_⟩:=M.GZ.fM _ C.bK.aEe.aEU k9 jD (by unfold KB;omega)
 obtain⟨aa,bn⟩:∃j,j=k9+((aV M.aC.cnt x.bK.aEe.aEU:Nat):Int):=⟨_,rfl⟩
 rw[<-bn]at a2 b2
 have d2:=dk (a:=aa) jD
 obtain⟨y3,a3,b3,_⟩:=M.Ce.fM _ C.bK.aEe.aEb aa jD (by unfold KB;omega)
 obtain⟨ae,bo⟩:∃j,j=aa+((aV M.aG.cnt x.bK.aEe.aEb:Nat):Int):=⟨_,rfl⟩
 rw[<-bo]at a3 b3
 have d3:=dk (a:=ae) jD
 obtain⟨y4,a4,b4,_⟩:=M.Es.fM _ C.bK.Log ae jD (by unfold KB;omega)
 obtain⟨af,bq⟩:∃j,j=ae+((x.bK.Log.length:Nat):Int):=⟨_,rfl⟩
 rw[<-bq]at a4 b4
 have d4:=dk (a:=af) jD
 obtain⟨I,ak,bw⟩:=nxK (k:=af) jD jD
 obtain⟨al,ao,bz⟩:=nxK (k:=I) jD jD
 have t14:=mt (k:=I) jD (by unfold KB;omega)
 obtain⟨y5,a5,b5,_⟩:=M.Ic.fM _ C.aF.aEe.aEM al jD (by unfold KB;omega)
 obtain⟨ai,br⟩:∃j,j=al+((aV M.aES.cnt x.aF.aEe.aEM:Nat):Int):=⟨_,rfl⟩
 rw[<-br]at a5 b5
 have d5:=dk (a:=ai) jD
 obtain⟨aq,ar,c5⟩:=nxK (k:=ai) jD jD
 obtain⟨av,aw,ca⟩:=nxK (k:=aq) jD jD
 obtain⟨ax,ay,cc⟩:=nxK (k:=av) jD jD
 obtain⟨az,ba,cd⟩:=nxK (k:=ax) jD jD
 obtain⟨y6,a6,b6,_⟩:=M.DL.fM _ C.aF.aEf.aU.aEm az jD (by unfold KB;omega)
 obtain⟨aj,bt⟩:∃j,j=az+((aV M.bB.cnt x.aF.aEf.aU.aEm:Nat):Int):=⟨_,rfl⟩
 rw[<-bt]at a6 b6
 have d6:=dk (a:=aj) jD
 obtain⟨bd,bf,cg⟩:=nxK (k:=aj) jD jD
 obtain⟨bg,bh,cj⟩:=nxK (k:=bd) jD jD
 obtain⟨bj,bl,ck⟩:=nxK (k:=bg) jD jD
 obtain⟨bu,bm,cn⟩:=nxK (k:=bj) jD jD
 refine MH.mk bu ⟨mtx k,mtx U,⟨mtx k2,k3,k4,k5⟩,⟨y1⟩,⟨⟨mtx k7,k8,y2,y3⟩,y4,af⟩,⟨⟨mtx I,y5,ai⟩,aq,⟨⟨av,ax,y6⟩,aj,bd⟩⟩,bg,(Int.tmod bj 3)==0⟩ (by unfold M.aEJ.cnt;omega) (λn pre post J=> ?_) λn l i hi J=> ?_
 ·simp only[kD];rw[if_pos (BK pre post x)];simp(maxSteps:=2000000)only[uN,uM,qA,bI J,w1,t1,w2,t2,w3,t3,w4,w5,w6,a1,w8,t8,w9,a2,a3,a4,ak,ao,t14,a5,ar,aw,ay,ba,a6,bf,bh,bl,bm]
 ·simp only[eM];rw[if_pos (Et hi)];simp(maxSteps:=2000000)only[BL hi,qA,bI J,w1,t1,w2,t2,w3,t3,w4,w5,w6,b1,d1,w8,t8,w9,b2,d2,b3,d3,b4,d4,ak,ao,t14,b5,d5,ar,aw,ay,ba,b6,d6,bf,bh,bl,bm,bne_self_eq_false,beq_self_eq_true,qB,qD,if_false]
theorem M.Ez.fM:MPS M.aEJ.cnt M.aEJ.ok xV xO:=M.aEJ.sB.all (λn k l=>by simp only[kD];rw[if_neg jK]) (λn k l=>by simp only[eM];rw[if_neg jK]) (λ_ _=>rfl) λ_ _=>rfl
def M.aK.cnt(x:M.aK):Nat:=2
theorem M.aK.sB:MT M.aK.cnt M.aK.ok jX fZ:=by
 intro x hx k h0 hB
 unfold KB M.aK.cnt at hB
 obtain⟨I,J,e1⟩:=nxK (k:=k) jD jD
 have t1:=mt (k:=k) jD (by unfold KB;omega)
 obtain⟨k2,U,e2⟩:=nxK (k:=I) jD jD
 refine MH.mk k2 ⟨mtx k,I⟩ (by unfold M.aK.cnt;omega) (λn pre post j=> ?_) λn l i C j=> ?_
 ·simp only[jX];rw[if_pos (BK pre post x)];simp(maxSteps:=2000000)only[uN,uM,qA,bI j,J,t1,U]
 ·simp only[fZ];rw[if_pos (Et C)];simp(maxSteps:=2000000)only[BL C,qA,bI j,J,t1,U,bne_self_eq_false,beq_self_eq_true,qB,qD,if_false]
theorem M.Dm.fM:MPS M.aK.cnt M.aK.ok rO xS:=M.aK.sB.all (λn k l=>by simp only[jX];rw[if_neg jK]) (λn k l=>by simp only[fZ];rw[if_neg jK]) (λ_ _=>rfl) λ_ _=>rfl
def M.Instr.cnt(x:M.Instr):Nat:=4
theorem M.Instr.sB:MT M.Instr.cnt M.Instr.ok kQ gV:=by
 intro x hx k h0 hB
 unfold KB M.Instr.cnt at hB
 obtain⟨J,w1,e1⟩:=nxK (k:=k) jD jD
 obtain⟨U,w2,e2⟩:=nxK (k:=J) jD jD
 obtain⟨C,w3,e3⟩:=nxK (k:=U) jD jD
 obtain⟨k4,w4,e4⟩:=nxK (k:=C) jD jD
 have t4:=mt (k:=C) jD (by unfold KB;omega)
 refine MH.mk k4 ⟨k,J,U,mtx C⟩ (by unfold M.Instr.cnt;omega) (λn pre post j=> ?_) λn l i I j=> ?_
 ·simp only[kQ];rw[if_pos (BK pre post x)];simp(maxSteps:=2000000)only[uN,uM,qA,bI j,w1,w2,w3,w4,t4]
 ·simp only[gV];rw[if_pos (Et I)];simp(maxSteps:=2000000)only[BL I,qA,bI j,w1,w2,w3,w4,t4,bne_self_eq_false,beq_self_eq_true,qB,qD,if_false]
theorem M.FB.fM:MPS M.Instr.cnt M.Instr.ok tZ zR:=M.Instr.sB.all (λn k l=>by simp only[kQ];rw[if_neg jK]) (λn k l=>by simp only[gV];rw[if_neg jK]) (λ_ _=>rfl) λ_ _=>rfl
theorem M.N7.sB(x:Int)(hx:True)(k:Int)(h0:0<=k)(U:k+(((λ_:Int=>1) x:Nat):Int)<=KB):∃x':Int,(∀n (pre post:List Int),(pre++x::post).length<=maxLen->hP (n+1) k pre.length (pre++x::post)=hP n (k+(((λ_:Int=>1) x:Nat):Int)) ((pre.length+1:Nat):Int) (pre++x'::post))/\∀n (l:List Int) (i:Nat),l[i]? =some x'->l.length<=maxLen->fO l (n+1) k i=fO l n (k+(((λ_:Int=>1) x:Nat):Int)) ((i+1:Nat):Int):=by
 unfold KB at U;(try simp only[]at U⊢)
 obtain⟨k1,w1,e1⟩:=nxK (k:=k) jD jD
 have hE:k1=k+(((λ_:Int=>1) x:Nat):Int):=by simp;omega
 refine⟨k,λn pre post I=> ?_,λn l i C I=> ?_⟩
 ·have j:=le_max I
  have J:pre.length<9223372036854775807:=by simp at j;omega
  simp only[hP]
  rw[if_pos (BK pre post x)]
  simp(maxSteps:=2000000)only[uN,uM,qA,bI J,w1]
  rw[hE]
 ·have j:=le_max I
  have J:i<9223372036854775807:=by have:=(qd.1 C).1;omega
  simp only[fO]
  rw[if_pos (Et C)]
  simp(maxSteps:=2000000)only[BL C,qA,bI J,w1,bne_self_eq_false,beq_self_eq_true,qB,qD,if_false]
  rw[hE]
theorem M.N7.cl(xs:List Int):aV (λ_:Int=>1) xs=xs.length:=by
 induction xs with
 |nil=>rfl
 |cons x xs j=>simp only[aV,j,qJ];omega
theorem M.N7.fM(xs:List Int)(I:okI xs)(k:Int)(J:0<=k)(C:k+((xs.length:Nat):Int)<=KB):∃j,tN xs k=some (j,k+((xs.length:Nat):Int))/\yI j k=some (k+((xs.length:Nat):Int))/\j.length=xs.length:=by have U:=le_max I.1;rw[<-M.N7.cl xs]at C⊢;obtain⟨j,h1,h2,h3⟩:=HQ (ML:=hP) (HL:=fO) (c:=(λ_:Int=>1)) (ok:=(λ_:Int=>True)) (λx I k J C=>M.N7.sB x I k J C) (λn k l=>by simp only[hP];rw[if_neg jK]) (λn k l=>by simp only[fO];rw[if_neg jK]) xs [] fuel k (by simpa using I.1) jI (λ_ _=>trivial) J C;refine⟨j,by unfold tN;simpa using h2,by unfold yI;simpa using h3 fuel jI,by have:=M.N7.cl xs;omega⟩
def M.bS.cnt(x:M.bS):Nat:=8+(aV M.aK.cnt x.aK)+(aV M.Instr.cnt x.aEO.aEp)+(x.aEO.aE3.length)
theorem M.bS.sB:MT M.bS.cnt M.bS.ok lN gA:=by
 intro x I k h0 hB
 unfold KB M.bS.cnt at hB
 obtain⟨J,w1,e1⟩:=nxK (k:=k) jD jD
 obtain⟨U,w2,e2⟩:=nxK (k:=J) jD jD
 have t2:=mt (k:=J) jD (by unfold KB;omega)
 obtain⟨k3,w3,e3⟩:=nxK (k:=U) jD jD
 have t3:=mt (k:=U) jD (by unfold KB;omega)
 obtain⟨k4,w4,e4⟩:=nxK (k:=k3) jD jD
 obtain⟨y1,a1,b1,_⟩:=M.Dm.fM _ I.aK k4 jD (by unfold KB;omega)
 obtain⟨k5,e5⟩:∃j,j=k4+((aV M.aK.cnt x.aK:Nat):Int):=⟨_,rfl⟩
 rw[<-e5]at a1 b1
 have d1:=dk (a:=k5) jD
 obtain⟨y2,a2,b2,_⟩:=M.FB.fM _ I.aEO.aEp k5 jD (by unfold KB;omega)
 obtain⟨k6,e6⟩:∃j,j=k5+((aV M.Instr.cnt x.aEO.aEp:Nat):Int):=⟨_,rfl⟩
 rw[<-e6]at a2 b2
 have d2:=dk (a:=k6) jD
 obtain⟨k7,w7,e7⟩:=nxK (k:=k6) jD jD
 obtain⟨y3,a3,b3,_⟩:=M.N7.fM _ I.aEO.aE3 k7 jD (by unfold KB;omega)
 obtain⟨k8,e8⟩:∃j,j=k7+((x.aEO.aE3.length:Nat):Int):=⟨_,rfl⟩
 rw[<-e8]at a3 b3
 have d3:=dk (a:=k8) jD
 obtain⟨k9,w9,e9⟩:=nxK (k:=k8) jD jD
 obtain⟨aa,ae,ai⟩:=nxK (k:=k9) jD jD
 obtain⟨ah,af,aj⟩:=nxK (k:=aa) jD jD
 refine MH.mk ah ⟨k,mtx J,mtx U,k3,y1,⟨y2,k6,y3,k8,(Int.tmod k9 3)==0,(Int.tmod aa 3)==0⟩⟩ (by unfold M.bS.cnt;omega) (λn pre post C=> ?_) λn l i hi C=> ?_
 ·simp only[lN];rw[if_pos (BK pre post x)];simp(maxSteps:=2000000)only[uN,uM,qA,bI C,w1,w2,t2,w3,t3,w4,a1,a2,w7,a3,w9,ae,af]
 ·simp only[gA];rw[if_pos (Et hi)];simp(maxSteps:=2000000)only[BL hi,qA,bI C,w1,w2,t2,w3,t3,w4,b1,d1,b2,d2,w7,b3,d3,w9,ae,af,bne_self_eq_false,beq_self_eq_true,qB,qD,if_false]
theorem M.LR.fM:MPS M.bS.cnt M.bS.ok AJ AK:=M.bS.sB.all (λn k l=>by simp only[lN];rw[if_neg jK]) (λn k l=>by simp only[gA];rw[if_neg jK]) (λ_ _=>rfl) λ_ _=>rfl
def M.eV.cnt(x:M.eV):Nat:=4
theorem M.eV.sB:MT M.eV.cnt M.eV.ok lK iS:=by
 intro x hx k h0 hB
 unfold KB M.eV.cnt at hB
 obtain⟨I,w1,e1⟩:=nxK (k:=k) jD jD
 have t1:=mt (k:=k) jD (by unfold KB;omega)
 obtain⟨J,w2,e2⟩:=nxK (k:=I) jD jD
 obtain⟨U,w3,e3⟩:=nxK (k:=J) jD jD
 obtain⟨k4,w4,e4⟩:=nxK (k:=U) jD jD
 refine MH.mk k4 ⟨mtx k,I,(Int.tmod J 3)==0,(Int.tmod U 3)==0⟩ (by unfold M.eV.cnt;omega) (λn pre post j=> ?_) λn l i C j=> ?_
 ·simp only[lK];rw[if_pos (BK pre post x)];simp(maxSteps:=2000000)only[uN,uM,qA,bI j,w1,t1,w2,w3,w4]
 ·simp only[iS];rw[if_pos (Et C)];simp(maxSteps:=2000000)only[BL C,qA,bI j,w1,t1,w2,w3,w4,bne_self_eq_false,beq_self_eq_true,qB,qD,if_false]
theorem M.LY.fM:MPS M.eV.cnt M.eV.ok AW AV:=M.eV.sB.all (λn k l=>by simp only[lK];rw[if_neg jK]) (λn k l=>by simp only[iS];rw[if_neg jK]) (λ_ _=>rfl) λ_ _=>rfl
def M.gT.cnt(x:M.gT):Nat:=3
theorem M.gT.sB:MT M.gT.cnt M.gT.ok lG iW:=by
 intro x hx k h0 hB
 unfold KB M.gT.cnt at hB
 obtain⟨I,U,e1⟩:=nxK (k:=k) jD jD
 obtain⟨J,w2,e2⟩:=nxK (k:=I) jD jD
 obtain⟨k3,w3,e3⟩:=nxK (k:=J) jD jD
 refine MH.mk k3 ⟨k,I,J⟩ (by unfold M.gT.cnt;omega) (λn pre post j=> ?_) λn l i C j=> ?_
 ·simp only[lG];rw[if_pos (BK pre post x)];simp(maxSteps:=2000000)only[uN,uM,qA,bI j,U,w2,w3]
 ·simp only[iW];rw[if_pos (Et C)];simp(maxSteps:=2000000)only[BL C,qA,bI j,U,w2,w3,bne_self_eq_false,beq_self_eq_true,qB,qD,if_false]
theorem M.MK.fM:MPS M.gT.cnt M.gT.ok AX AZ:=M.gT.sB.all (λn k l=>by simp only[lG];rw[if_neg jK]) (λn k l=>by simp only[iW];rw[if_neg jK]) (λ_ _=>rfl) λ_ _=>rfl
theorem M.Bs.sB(x:ByteArray)(hx:True)(k:Int)(h0:0<=k)(U:k+(((λ_:ByteArray=>1) x:Nat):Int)<=KB):∃x':ByteArray,(∀n (pre post:List ByteArray),(pre++x::post).length<=maxLen->eN (n+1) k pre.length (pre++x::post)=eN n (k+(((λ_:ByteArray=>1) x:Nat):Int)) ((pre.length+1:Nat):Int) (pre++x'::post))/\∀n (l:List ByteArray) (i:Nat),l[i]? =some x'->l.length<=maxLen->dH l (n+1) k i=dH l n (k+(((λ_:ByteArray=>1) x:Nat):Int)) ((i+1:Nat):Int):=by
 unfold KB at U;(try simp only[]at U⊢)
 obtain⟨k1,w1,e1⟩:=nxK (k:=k) jD jD
 have t1:=mt (k:=k) jD (by unfold KB;omega)
 have hE:k1=k+(((λ_:ByteArray=>1) x:Nat):Int):=by simp;omega
 refine⟨mtx k,λn pre post I=> ?_,λn l i C I=> ?_⟩
 ·have j:=le_max I
  have J:pre.length<9223372036854775807:=by simp at j;omega
  simp only[eN]
  rw[if_pos (BK pre post x)]
  simp(maxSteps:=2000000)only[uN,uM,qA,bI J,w1,t1]
  rw[hE]
 ·have j:=le_max I
  have J:i<9223372036854775807:=by have:=(qd.1 C).1;omega
  simp only[dH]
  rw[if_pos (Et C)]
  simp(maxSteps:=2000000)only[BL C,qA,bI J,w1,t1,bne_self_eq_false,beq_self_eq_true,qB,qD,if_false]
  rw[hE]
theorem M.Bs.cl(xs:List ByteArray):aV (λ_:ByteArray=>1) xs=xs.length:=by
 induction xs with
 |nil=>rfl
 |cons x xs j=>simp only[aV,j,qJ];omega
theorem M.Bs.fM(xs:List ByteArray)(I:okS xs)(k:Int)(J:0<=k)(C:k+((xs.length:Nat):Int)<=KB):∃j,pU xs k=some (j,k+((xs.length:Nat):Int))/\pX j k=some (k+((xs.length:Nat):Int))/\j.length=xs.length:=by have U:=le_max I.1;rw[<-M.Bs.cl xs]at C⊢;obtain⟨j,h1,h2,h3⟩:=HQ (ML:=eN) (HL:=dH) (c:=(λ_:ByteArray=>1)) (ok:=(λ_:ByteArray=>True)) (λx I k J C=>M.Bs.sB x I k J C) (λn k l=>by simp only[eN];rw[if_neg jK]) (λn k l=>by simp only[dH];rw[if_neg jK]) xs [] fuel k (by simpa using I.1) jI (λ_ _=>trivial) J C;refine⟨j,by unfold pU;simpa using h2,by unfold pX;simpa using h3 fuel jI,by have:=M.Bs.cl xs;omega⟩
def M.aET.cnt(x:M.aET):Nat:=3+(x.aE6.length)
theorem M.aET.sB:MT M.aET.cnt M.aET.ok lS iJ:=by
 intro x hx k h0 hB
 unfold KB M.aET.cnt at hB
 obtain⟨U,w1,e1⟩:=nxK (k:=k) jD jD
 have t1:=mt (k:=k) jD (by unfold KB;omega)
 obtain⟨k2,w2,e2⟩:=nxK (k:=U) jD jD
 obtain⟨y1,C,I,_⟩:=M.Bs.fM _ hx.aE6 k2 jD (by unfold KB;omega)
 obtain⟨k3,e3⟩:∃k',k'=k2+((x.aE6.length:Nat):Int):=⟨_,rfl⟩
 rw[<-e3]at C I
 have d1:=dk (a:=k3) jD
 obtain⟨k4,w4,e4⟩:=nxK (k:=k3) jD jD
 refine MH.mk k4 ⟨mtx k,U,y1,(Int.tmod k3 3)==0⟩ (by unfold M.aET.cnt;omega) (λn pre post j=> ?_) λn l i J j=> ?_
 ·simp only[lS];rw[if_pos (BK pre post x)];simp(maxSteps:=2000000)only[uN,uM,qA,bI j,w1,t1,w2,C,w4]
 ·simp only[iJ];rw[if_pos (Et J)];simp(maxSteps:=2000000)only[BL J,qA,bI j,w1,t1,w2,I,d1,w4,bne_self_eq_false,beq_self_eq_true,qB,qD,if_false]
theorem M.LL.fM:MPS M.aET.cnt M.aET.ok AQ A8:=M.aET.sB.all (λn k l=>by simp only[lS];rw[if_neg jK]) (λn k l=>by simp only[iJ];rw[if_neg jK]) (λ_ _=>rfl) λ_ _=>rfl
def M.aQ.cnt(x:M.aQ):Nat:=2
theorem M.aQ.sB:MT M.aQ.cnt M.aQ.ok hY fK:=by
 intro x hx k h0 hB
 unfold KB M.aQ.cnt at hB
 obtain⟨I,J,e1⟩:=nxK (k:=k) jD jD
 obtain⟨k2,U,e2⟩:=nxK (k:=I) jD jD
 refine MH.mk k2 ⟨k,I⟩ (by unfold M.aQ.cnt;omega) (λn pre post j=> ?_) λn l i C j=> ?_
 ·simp only[hY];rw[if_pos (BK pre post x)];simp(maxSteps:=2000000)only[uN,uM,qA,bI j,J,U]
 ·simp only[fK];rw[if_pos (Et C)];simp(maxSteps:=2000000)only[BL C,qA,bI j,J,U,bne_self_eq_false,beq_self_eq_true,qB,qD,if_false]
theorem M.Di.fM:MPS M.aQ.cnt M.aQ.ok uS uQ:=M.aQ.sB.all (λn k l=>by simp only[hY];rw[if_neg jK]) (λn k l=>by simp only[fK];rw[if_neg jK]) (λ_ _=>rfl) λ_ _=>rfl
def M.aEX.cnt(x:M.aEX):Nat:=2+(aV M.aES.cnt x.aC.aEM)+(aV M.aQ.cnt x.aQ)+(aV M.bB.cnt x.aEu)
theorem M.aEX.sB:MT M.aEX.cnt M.aEX.ok iZ eL:=by
 intro x I k h0 hB
 unfold KB M.aEX.cnt at hB
 obtain⟨k1,w1,e1⟩:=nxK (k:=k) jD jD
 have t1:=mt (k:=k) jD (by unfold KB;omega)
 obtain⟨y1,J,b1,_⟩:=M.Ic.fM _ I.aC.aEM k1 jD (by unfold KB;omega)
 obtain⟨k2,e2⟩:∃j,j=k1+((aV M.aES.cnt x.aC.aEM:Nat):Int):=⟨_,rfl⟩
 rw[<-e2]at J b1
 have d1:=dk (a:=k2) jD
 obtain⟨k3,w3,e3⟩:=nxK (k:=k2) jD jD
 obtain⟨y2,U,b2,_⟩:=M.Di.fM _ I.aQ k3 jD (by unfold KB;omega)
 obtain⟨k4,e4⟩:∃j,j=k3+((aV M.aQ.cnt x.aQ:Nat):Int):=⟨_,rfl⟩
 rw[<-e4]at U b2
 have d2:=dk (a:=k4) jD
 obtain⟨y3,a3,b3,_⟩:=M.DL.fM _ I.aEu k4 jD (by unfold KB;omega)
 obtain⟨k5,e5⟩:∃j,j=k4+((aV M.bB.cnt x.aEu:Nat):Int):=⟨_,rfl⟩
 rw[<-e5]at a3 b3
 have d3:=dk (a:=k5) jD
 refine MH.mk k5 ⟨⟨mtx k,y1,k2⟩,y2,y3⟩ (by unfold M.aEX.cnt;omega) (λn pre post C=> ?_) λn l i hi C=> ?_
 ·simp only[iZ];rw[if_pos (BK pre post x)];simp(maxSteps:=2000000)only[uN,uM,qA,bI C,w1,t1,J,w3,U,a3]
 ·simp only[eL];rw[if_pos (Et hi)];simp(maxSteps:=2000000)only[BL hi,qA,bI C,w1,t1,b1,d1,w3,b2,d2,b3,d3,bne_self_eq_false,beq_self_eq_true,qB,qD,if_false]
theorem M.EB.fM:MPS M.aEX.cnt M.aEX.ok xQ xW:=M.aEX.sB.all (λn k l=>by simp only[iZ];rw[if_neg jK]) (λn k l=>by simp only[eL];rw[if_neg jK]) (λ_ _=>rfl) λ_ _=>rfl
def M.World.N6(x:M.World):Nat:=(aV M.aEJ.cnt x.aD.aEP)+(aV M.bS.cnt x.aEq)+(aV M.eV.cnt x.aEh.aEh)+(aV M.gT.cnt x.aEY.aEv)+(aV M.aET.cnt x.aEr)+(aV M.aEX.cnt x.aEi)
theorem M.World.fM(x:M.World)(j:M.World.ok x)(k:Int)(h0:0<=k)(hB:k+((M.World.N6 x:Nat):Int)<=KB):∃C I J U y5 y6,pI x k=some (C,I,J,U,y5,y6,k+((M.World.N6 x:Nat):Int))/\pS (⟨x.Now,x.aEs,x.aEd,⟨C⟩,I,x.aEl,⟨J⟩,⟨U⟩,y5,y6⟩:M.World) k=some (k+((M.World.N6 x:Nat):Int)):=by unfold KB at hB;unfold M.World.N6 at hB⊢;obtain⟨C,a1,b1,_⟩:=M.Ez.fM _ j.aD.aEP (k) jD (by unfold KB;omega);obtain⟨I,a2,b2,_⟩:=M.LR.fM _ j.aEq (k+((aV M.aEJ.cnt x.aD.aEP:Nat):Int)) jD (by unfold KB;omega);obtain⟨J,a3,b3,_⟩:=M.LY.fM _ j.aEh.aEh (k+((aV M.aEJ.cnt x.aD.aEP:Nat):Int)+((aV M.bS.cnt x.aEq:Nat):Int)) jD (by unfold KB;omega);obtain⟨U,a4,b4,_⟩:=M.MK.fM _ j.aEY.aEv (k+((aV M.aEJ.cnt x.aD.aEP:Nat):Int)+((aV M.bS.cnt x.aEq:Nat):Int)+((aV M.eV.cnt x.aEh.aEh:Nat):Int)) jD (by unfold KB;omega);obtain⟨y5,a5,b5,_⟩:=M.LL.fM _ j.aEr (k+((aV M.aEJ.cnt x.aD.aEP:Nat):Int)+((aV M.bS.cnt x.aEq:Nat):Int)+((aV M.eV.cnt x.aEh.aEh:Nat):Int)+((aV M.gT.cnt x.aEY.aEv:Nat):Int)) jD (by unfold KB;omega);obtain⟨y6,a6,b6,_⟩:=M.EB.fM _ j.aEi (k+((aV M.aEJ.cnt x.aD.aEP:Nat):Int)+((aV M.bS.cnt x.aEq:Nat):Int)+((aV M.eV.cnt x.aEh.aEh:Nat):Int)+((aV M.gT.cnt x.aEY.aEv:Nat):Int)+((aV M.aET.cnt x.aEr:Nat):Int)) jD (by unfold KB;omega);refine⟨C,I,J,U,y5,y6,?_,?_⟩;(unfold pI;simp only[xU,sC,xP,a1,a2,a3,a4,a5,a6,qA];try (simp only[qb,qa,true_and];omega));·unfold pS;simp(disch:=(first|omega|(unfold KB;omega)))only[xN,sG,xT,b1,b2,b3,b4,b5,b6,qA,dk,qD,if_false];try (simp only[qb];omega)
def M.bS.N6(x:M.bS):Nat:=(aV M.aK.cnt x.aK)+(aV M.Instr.cnt x.aEO.aEp)+(x.aEO.aE3.length)
theorem M.bS.fM(x:M.bS)(j:M.bS.ok x)(k:Int)(h0:0<=k)(U:k+((M.bS.N6 x:Nat):Int)<=KB):∃C I J,yH x k=some (C,I,J,k+((M.bS.N6 x:Nat):Int)):=by unfold KB at U;unfold M.bS.N6 at U⊢;obtain⟨C,a1⟩:=M.Dm.fM _ j.aK (k) jD (by unfold KB;omega);obtain⟨I,a2⟩:=M.FB.fM _ j.aEO.aEp (k+((aV M.aK.cnt x.aK:Nat):Int)) jD (by unfold KB;omega);obtain⟨J,a3⟩:=M.N7.fM _ j.aEO.aE3 (k+((aV M.aK.cnt x.aK:Nat):Int)+((aV M.Instr.cnt x.aEO.aEp:Nat):Int)) jD (by unfold KB;omega);refine⟨C,I,J,?_⟩;unfold yH;simp only[xM,a1,a2,a3,qA];try (simp only[qb,qa,true_and];omega)
theorem M.Es.fA(xs:List Int):xs.length<=40*(xs.length):=by omega
theorem M.aEW.fA(x:M.aEW):M.aEW.cnt x<=40+40*M.aEW.sz x:=by unfold M.aEW.cnt;simp only[M.aEW.sz,M.aEQ.sz];have:=M.Es.fA x.aEQ.aFA;omega
theorem M.Eu.fA(xs:List M.aEW):aV M.aEW.cnt xs<=40*(xs.length+aV M.aEW.sz xs):=oJ (λx _=>M.aEW.fA x)
theorem M.aEZ.fA(x:M.aEZ):M.aEZ.cnt x<=40+40*M.aEZ.sz x:=by unfold M.aEZ.cnt;simp only[M.aEZ.sz];have:=M.Eu.fA x.aEa;omega
theorem M.Hd.fA(xs:List M.aEZ):aV M.aEZ.cnt xs<=40*(xs.length+aV M.aEZ.sz xs):=oJ (λx _=>M.aEZ.fA x)
theorem M.Field.fA(x:M.Field):M.Field.cnt x<=40+40*M.Field.sz x:=by unfold M.Field.cnt;simp only[M.Field.sz];omega
theorem M.HP.fA(xs:List M.Field):aV M.Field.cnt xs<=40*(xs.length+aV M.Field.sz xs):=oJ (λx _=>M.Field.fA x)
theorem M.aES.fA(x:M.aES):M.aES.cnt x<=40+40*M.aES.sz x:=by unfold M.aES.cnt;simp only[M.aES.sz,M.Key.sz,M.aA.sz];have:=M.HP.fA x.aA.aEN;omega
theorem M.Ic.fA(xs:List M.aES):aV M.aES.cnt xs<=40*(xs.length+aV M.aES.sz xs):=oJ (λx _=>M.aES.fA x)
theorem M.aC.fA(x:M.aC):M.aC.cnt x<=40+40*M.aC.sz x:=by unfold M.aC.cnt;simp only[M.aC.sz];have:=M.Ic.fA x.aEM;omega
theorem M.GZ.fA(xs:List M.aC):aV M.aC.cnt xs<=40*(xs.length+aV M.aC.sz xs):=oJ (λx _=>M.aC.fA x)
theorem M.aG.fA(x:M.aG):M.aG.cnt x<=40+40*M.aG.sz x:=by unfold M.aG.cnt;simp only[M.aG.sz];omega
theorem M.Ce.fA(xs:List M.aG):aV M.aG.cnt xs<=40*(xs.length+aV M.aG.sz xs):=oJ (λx _=>M.aG.fA x)
theorem M.bB.fA(x:M.bB):M.bB.cnt x<=40+40*M.bB.sz x:=by unfold M.bB.cnt;simp only[M.bB.sz,M.Key.sz];omega
theorem M.DL.fA(xs:List M.bB):aV M.bB.cnt xs<=40*(xs.length+aV M.bB.sz xs):=oJ (λx _=>M.bB.fA x)
theorem M.aEJ.fA(x:M.aEJ):M.aEJ.cnt x<=40+40*M.aEJ.sz x:=by unfold M.aEJ.cnt;simp only[M.aEJ.sz,M.aEL.sz,M.aP.sz,M.bK.sz,M.aEK.sz,M.aF.sz,M.aC.sz,M.aEf.sz,M.aU.sz];have:=M.Hd.fA x.aEV.aEV;have:=M.GZ.fA x.bK.aEe.aEU;have:=M.Ce.fA x.bK.aEe.aEb;have:=M.Es.fA x.bK.Log;have:=M.Ic.fA x.aF.aEe.aEM;have:=M.DL.fA x.aF.aEf.aU.aEm;omega
theorem M.Ez.fA(xs:List M.aEJ):aV M.aEJ.cnt xs<=40*(xs.length+aV M.aEJ.sz xs):=oJ (λx _=>M.aEJ.fA x)
theorem M.aK.fA(x:M.aK):M.aK.cnt x<=40+40*M.aK.sz x:=by unfold M.aK.cnt;simp only[M.aK.sz];omega
theorem M.Dm.fA(xs:List M.aK):aV M.aK.cnt xs<=40*(xs.length+aV M.aK.sz xs):=oJ (λx _=>M.aK.fA x)
theorem M.Instr.fA(x:M.Instr):M.Instr.cnt x<=40+40*M.Instr.sz x:=by unfold M.Instr.cnt;simp only[M.Instr.sz];omega
theorem M.FB.fA(xs:List M.Instr):aV M.Instr.cnt xs<=40*(xs.length+aV M.Instr.sz xs):=oJ (λx _=>M.Instr.fA x)
theorem M.N7.fA(xs:List Int):xs.length<=40*(xs.length):=by omega
theorem M.bS.fA(x:M.bS):M.bS.cnt x<=40+40*M.bS.sz x:=by unfold M.bS.cnt;simp only[M.bS.sz,M.aEO.sz];have:=M.Dm.fA x.aK;have:=M.FB.fA x.aEO.aEp;have:=M.N7.fA x.aEO.aE3;omega
theorem M.LR.fA(xs:List M.bS):aV M.bS.cnt xs<=40*(xs.length+aV M.bS.sz xs):=oJ (λx _=>M.bS.fA x)
theorem M.eV.fA(x:M.eV):M.eV.cnt x<=40+40*M.eV.sz x:=by unfold M.eV.cnt;simp only[M.eV.sz];omega
theorem M.LY.fA(xs:List M.eV):aV M.eV.cnt xs<=40*(xs.length+aV M.eV.sz xs):=oJ (λx _=>M.eV.fA x)
theorem M.gT.fA(x:M.gT):M.gT.cnt x<=40:=by unfold M.gT.cnt;omega
theorem M.MK.fA(xs:List M.gT):aV M.gT.cnt xs<=40*(xs.length):=qg (GB (λx _=>M.gT.fA x)) jD
theorem M.Bs.fA(xs:List ByteArray):xs.length<=40*(xs.length+aV ByteArray.size xs):=by omega
theorem M.aET.fA(x:M.aET):M.aET.cnt x<=40+40*M.aET.sz x:=by unfold M.aET.cnt;simp only[M.aET.sz];have:=M.Bs.fA x.aE6;omega
theorem M.LL.fA(xs:List M.aET):aV M.aET.cnt xs<=40*(xs.length+aV M.aET.sz xs):=oJ (λx _=>M.aET.fA x)
theorem M.aQ.fA(x:M.aQ):M.aQ.cnt x<=40:=by unfold M.aQ.cnt;omega
theorem M.Di.fA(xs:List M.aQ):aV M.aQ.cnt xs<=40*(xs.length):=qg (GB (λx _=>M.aQ.fA x)) jD
theorem M.aEX.fA(x:M.aEX):M.aEX.cnt x<=40+40*M.aEX.sz x:=by unfold M.aEX.cnt;simp only[M.aEX.sz,M.aC.sz];have:=M.Ic.fA x.aC.aEM;have:=M.Di.fA x.aQ;have:=M.DL.fA x.aEu;omega
theorem M.EB.fA(xs:List M.aEX):aV M.aEX.cnt xs<=40*(xs.length+aV M.aEX.sz xs):=oJ (λx _=>M.aEX.fA x)
theorem M.World.PD(x:M.World):M.World.N6 x<=40*M.World.sz x:=by unfold M.World.N6;simp only[M.World.sz,M.aD.sz,M.aR.sz,M.aEY.sz];have:=M.Ez.fA x.aD.aEP;have:=M.LR.fA x.aEq;have:=M.LY.fA x.aEh.aEh;have:=M.MK.fA x.aEY.aEv;have:=M.LL.fA x.aEr;have:=M.EB.fA x.aEi;omega
theorem M.bS.PD(x:M.bS):M.bS.N6 x<=40*M.bS.sz x:=by unfold M.bS.N6;simp only[M.bS.sz,M.aEO.sz];have:=M.Dm.fA x.aK;have:=M.FB.fA x.aEO.aEp;have:=M.N7.fA x.aEO.aE3;omega
