/-
  Helper text. No conditions.
-/
import Derived.Test.YtjlnkcoeghonfaaGreatRunPagePj
set_option linter.all false
namespace Go.Proofs.YtjlnkcoeghonfaaGreat.gen
open Go Go.Sh
open Go.IntKind (i64)
theorem Gx(x:Int):inI (i64.wrap x):=by unfold inI;rw[IntKind.wrap_i64];omega
theorem Of{α:Type}{f:α->Nat}{x:α}:∀{l:List α} {i:Nat},bA f (l.set i x)<=bA f l+f x
 |[],_=>by simp[bA]
 |y::l,0=>by simp only[List.set_cons_zero,bA];omega
 |y::l,i+1=>by have:=Of (f:=f) (x:=x) (l:=l) (i:=i);simp only[List.set_cons_succ,bA];omega
theorem Nh{α:Type}{f:α->Nat}:∀(l r:List α),bA f (l++r)=bA f l+bA f r
 |[],r=>by simp[bA]
 |y::l,r=>by simp only[List.cons_append,bA,Nh l r];omega
theorem LM{a:ByteArray}:yP a=some (JS a):=by unfold yP;rw[show xI=some wH from rfl,qA];rw[findAll (L:=jW a wH) (f:=λx:ByteArray=>x.toList==a.toList) (A:=λi=>some (i:Int)) (E:=some (-1)) O3 (λm k hk=> ?_) (λm=> ?_),pG];(rfl);(have j:k<3:=hk;simp only[jW];rw[if_pos (bE hk),aH hk,qA,bG jD]);·simp only[jW];rw[if_neg jK]
theorem MY(x:List M.Instr)(j:x.length<=1073741824):Aa x=some x:=by unfold Aa;rw[JX j jD,qA]
theorem GI(x:M.aJn)(j:M.aJn.sz x<=1073741824):wC x=some x:=by simp only[M.aJn.sz]at j;unfold wC;rw[MY _ jD,qA,JX jD jD,qA]
theorem GL(x:M.bD)(j:M.bD.sz x<=1073741824):kK x=some x:=by simp only[M.bD.sz]at j;unfold kK;rw[JX jD jD,qA,GI _ jD,qA]
theorem OD(x:M.aP)(j:M.aP.sz x<=1073741824):AP x=some x:=by simp only[M.aP.sz]at j;unfold AP;rw[JX jD jD,qA]
theorem OG(x:M.aJu)(j:M.aJu.sz x<=1073741824):AL x=some x:=by simp only[M.aJu.sz]at j;unfold AL;rw[JX jD jD,qA]
theorem Oy(x:M.aJr)(j:M.aJr.sz x<=1073741824):CK x=some x:=by simp only[M.aJr.sz]at j;unfold CK;rw[JX jD jD,qA]
theorem Ov(x:M.aJv)(j:M.aJv.sz x<=1073741824):CE x=some x:=by simp only[M.aJv.sz]at j;unfold CE;rw[rN _ jD,qA,JX jD jD,qA,JX jD jD,qA]
theorem uT(x:M.aJn)(j:M.aJn.sz x<=1073741824):mQ x=some x:=by simp only[M.aJn.sz]at j;unfold mQ;rw[JX jD jD,qA,JX jD jD,qA]
theorem D0(x:M.bD)(j:M.bD.sz x<=1073741824):iC x=some x:=by simp only[M.bD.sz]at j;unfold iC;rw[JX jD jD,qA,uT _ jD,qA]
theorem MR(x:M.aP)(j:M.aP.sz x<=1073741824):zS x=some x:=by simp only[M.aP.sz]at j;unfold zS;rw[JX jD jD,qA]
theorem Kx(x:M.aJu)(j:M.aJu.sz x<=1073741824):vT x=some x:=by simp only[M.aJu.sz]at j;unfold vT;rw[JX jD jD,qA]
theorem NZ(x:M.aJr)(j:M.aJr.sz x<=1073741824):Bt x=some x:=by simp only[M.aJr.sz]at j;unfold Bt;rw[JX jD jD,qA]
theorem L1(x:M.aJv)(j:M.aJv.sz x<=1073741824):xS x=some x:=by simp only[M.aJv.sz]at j;unfold xS;rw[iF _ jD,qA,JX jD jD,qA,JX jD jD,qA]
theorem MM(x:List M.bD)(j:x.length+bA M.bD.sz x<=1073741824):zP x=some x:=by
 unfold zP
 exact Cm (xs:=x) (b:=144) (L:=lE x) (E:=some) jD jD (λn r k hk=>by
  have C:=dW (f:=M.bD.sz) (qG hk)
  simp only[lE]
  rw[if_pos (bE hk),aH hk,qA,D0 _ jD,qA,bG jD]) (λn r=>by
  simp only[lE]
  rw[if_neg jK])
theorem CL(w:M.World)(C:M.World.sz w<=1073741824):oY w=some w:=by
 simp only[M.World.sz]at C
 have e3:iM w w.aA w.aJ2 w.aJ3 w.aJu w.aKE fuel 0 ([]:List M.aJv)=some w:=Cm (xs:=w.aJ6) (b:=96) (L:=iM w w.aA w.aJ2 w.aJ3 w.aJu w.aKE) (E:=λr=>some { w with aJ6:=r }) jD jD (λn r k hk=>by
   have j:=dW (f:=M.aJv.sz) (qG hk)
   simp only[iM]
   rw[if_pos (bE hk),aH hk,qA,Ov _ jD,qA,bG jD]) (λn r=>by
   simp only[iM]
   rw[if_neg jK])
 have e2:iP w w.aA w.aJ2 w.aJ3 w.aJu fuel 0 ([]:List M.aJr)=some w:=(Cm (xs:=w.aKE) (b:=56) (L:=iP w w.aA w.aJ2 w.aJ3 w.aJu) (E:=λr=>iM w w.aA w.aJ2 w.aJ3 w.aJu r fuel 0 ([]:List M.aJv)) jD jD (λn r k hk=>by
   have j:=dW (f:=M.aJr.sz) (qG hk)
   simp only[iP]
   rw[if_pos (bE hk),aH hk,qA,Oy _ jD,qA,bG jD]) (λn r=>by
   simp only[iP]
   rw[if_neg jK])).trans e3
 have e1:lU w w.aA fuel 0 ([]:List M.bD)=some w:=(Cm (xs:=w.aJ2) (b:=144) (L:=lU w w.aA) (E:=λr=>(AP w.aJ3).bind λx=>(AL w.aJu).bind λy=>iP w w.aA r x y fuel 0 ([]:List M.aJr)) jD jD (λn r k hk=>by
   have j:=dW (f:=M.bD.sz) (qG hk)
   simp only[lU]
   rw[if_pos (bE hk),aH hk,qA,GL _ jD,qA,bG jD]) (λn r=>by
   simp only[lU]
   rw[if_neg jK])).trans (by rw[OD _ jD,qA,OG _ jD,qA];exact e2)
 unfold oY
 rw[GN _ jD,qA]
 exact e1
theorem uL(w:M.World)(j:M.World.sz w<=1073741824):nJ w=some w:=by
 simp only[M.World.sz]at j
 have e3:fU w w.aA w.aJ2 w.aJ3 w.aJu w.aKE fuel 0 ([]:List M.aJv)=some w:=Cm (xs:=w.aJ6) (b:=96) (L:=fU w w.aA w.aJ2 w.aJ3 w.aJu w.aKE) (E:=λr=>some { w with aJ6:=r }) jD jD (λn r k hk=>by
   have C:=dW (f:=M.aJv.sz) (qG hk)
   simp only[fU]
   rw[if_pos (bE hk),aH hk,qA,L1 _ jD,qA,bG jD]) (λn r=>by
   simp only[fU]
   rw[if_neg jK])
 have e2:hZ w w.aA w.aJ2 w.aJ3 w.aJu fuel 0 ([]:List M.aJr)=some w:=(Cm (xs:=w.aKE) (b:=56) (L:=hZ w w.aA w.aJ2 w.aJ3 w.aJu) (E:=λr=>fU w w.aA w.aJ2 w.aJ3 w.aJu r fuel 0 ([]:List M.aJv)) jD jD (λn r k hk=>by
   have C:=dW (f:=M.aJr.sz) (qG hk)
   simp only[hZ]
   rw[if_pos (bE hk),aH hk,qA,NZ _ jD,qA,bG jD]) (λn r=>by
   simp only[hZ]
   rw[if_neg jK])).trans e3
 unfold nJ
 rw[Eg _ jD,qA,MM _ jD,qA,MR _ jD,qA,Kx _ jD,qA]
 exact e2
theorem Uf{a:ByteArray}(h:¬JS a<0):∃k:Nat,JS a=(k:Int)/\k<3:=by obtain⟨k,e,hk⟩:=eN (show ¬mF (λx:ByteArray=>x.toList==a.toList) wH<0 from h);exact⟨k,e,hk⟩
theorem QS{w:M.World}(h:HZ w=true):w.aKE.length=3:=by unfold HZ at h;rw[qM]at h;simpa using h.1
theorem WN{l:List M.bD}{f:Int}(j:l.length<=maxLen):CO l f=some (mF (λp:M.bD=>p.Id==f) l):=by have C:=le_max j;unfold CO;rw[findAll (L:=nW l f) (f:=λp:M.bD=>p.Id==f) (A:=λi=>some (i:Int)) (E:=some (-1)) j (λm k hk=> ?_) (λm=> ?_),pG];(simp only[nW];rw[if_pos (bE hk),aH hk,qA,bG jD]);·simp only[nW];rw[if_neg jK]
def Sl(w:M.World)(f:Int):Int:=mF (λp:M.bD=>p.Id==f) w.aJ2
theorem Mm{w:M.World}{f:Int}(j:w.ok):Af w f=some (Sl w f):=by unfold Af;rw[WN j.aJ2.1,qA];rfl
theorem E4{w:M.World}{f:Int}(j:w.ok):Ap w f=some (Sl w f):=by unfold Ap;rw[MU (p:=λC=>vU C f) (f:=λp:M.bD=>p.Id==f) j.aJ2.1 (λx _=>rfl),qA];rfl
theorem MO{s:M.aO}{v:Int}(j:s.ok):Aq s v=some (mF (λc:M.aJ0=>c.aJl==v) s.aJs):=by have C:=le_max j.aJs.1;unfold Aq;rw[findAll (L:=kU s v) (f:=λc:M.aJ0=>c.aJl==v) (A:=λi=>some (i:Int)) (E:=some (-1)) j.aJs.1 (λm k hk=> ?_) (λm=> ?_),pG];(simp only[kU];rw[if_pos (bE hk),aH hk,qA,bG jD]);·simp only[kU];rw[if_neg jK]
theorem MK{s:M.aO}{v:Int}(j:s.ok):Ao s v=some (mF (λc:M.aJ0=>c.aJl==v) s.aJs):=by unfold Ao;rw[LH (f:=λc:M.aJ0=>c.aJl==v) j.aJs.1 (λx _=>by simp only[vH]),qA]
def Q3(a b:ByteArray)(x:M.aJx):Bool:=(x.aJr.toList==a.toList)&&(x.aKP.toList==b.toList)
theorem OT{c:M.aJ0}{a b:ByteArray}(hc:c.ok):Cs c a b=some (mF (Q3 a b) c.aJ1):=by have j:=le_max hc.aJ1.1;unfold Cs;rw[findAll (L:=mC c a b) (f:=Q3 a b) (A:=λi=>some (i:Int)) (E:=some (-1)) hc.aJ1.1 (λm k hk=> ?_) (λm=> ?_),pG];(simp only[mC];rw[if_pos (bE hk),aH hk,qA,bG jD,X0];rfl);·simp only[mC];rw[if_neg jK]
theorem OS{c:M.aJ0}{a b:ByteArray}(hc:c.ok):oT c a b=some (mF (Q3 a b) c.aJ1):=by unfold oT;rw[Gt (f:=Q3 a b) hc.aJ1.1 (λx _=>by simp only[tV,bY];rfl),qA]
theorem Rl{s:M.aO}{v:Int}{a b:ByteArray}(I:s.ok)(hz:s.sz<=1500000):∃r,xJ s v a b=some r/\yI s v a b=some r/\M.aJo.ok r.1:=by
 unfold xJ yI cO cP
 rw[MO I,MK I]
 simp only[qA]
 have hnil:M.aJo.ok (⟨4,0,0,([]:List Int),false⟩:M.aJo):=⟨by unfold inI;simp,by unfold inI;simp,by unfold inI;simp,⟨by simp[maxLen],jF⟩⟩
 by_cases h:mF (λc:M.aJ0=>c.aJl==v) s.aJs<0
 ·simp only[h,decide_true,if_true];exact⟨_,rfl,rfl,hnil⟩
 ·obtain⟨k,e,hk⟩:=eN h
  simp only[h,decide_false,qD,if_false]
  rw[e,aH hk]
  have hc:=I.aJs.2 _ (qG hk)
  simp only[qA]
  rw[OT hc,OS hc]
  simp only[qA]
  by_cases h2:mF (Q3 a b) s.aJs[k].aJ1<0
  ·simp only[h2,decide_true,if_true];exact⟨_,rfl,rfl,hnil⟩
  ·obtain⟨j,e2,C⟩:=eN h2
   simp only[h2,decide_false,qD,if_false]
   rw[e2,aH C]
   have J:=hc.aJ1.2 _ (qG C)
   have z1:=dW (f:=M.aJ0.sz) (qG hk)
   have z2:=dW (f:=M.aJx.sz) (qG C)
   unfold M.aO.sz at hz
   have U:M.aJ0.sz s.aJs[k]=s.aJs[k].aJ1.length+bA M.aJx.sz s.aJs[k].aJ1:=rfl
   have q2:M.aJx.sz s.aJs[k].aJ1[j]=s.aJs[k].aJ1[j].aJr.size+(s.aJs[k].aJ1[j].aKP.size+s.aJs[k].aJ1[j].aJo.aKa.length):=rfl
   have hb:(s.aJs[k].aJ1[j].aJo.aKa).length<=1500000:=by omega
   simp only[qA,wD,lA,dL]
   rw[eH jE]
   exact⟨_,rfl,rfl,J.aJo⟩
theorem Gq{l:List Int}(j:l.length<=1500000):pY l=some ([(List.length l:Int)]++l.map i64.wrap):=by unfold pY;have:=SD (b:=8) (xs:=l) (f:=i64.wrap) (L:=gW l) (λn k hk r=> ?_) (λn r=> ?_) fuel 0 ([(List.length l:Int)]) jI jD jE;(simpa using this);(simp only[gW];rw[if_pos (bE hk),aH hk,qA,bG jD]);·simp only[gW];rw[if_neg jK]
theorem Gw{l:List Int}(j:l.length<=1500000):pV l=some ([(List.length l:Int)]++l.map i64.wrap):=by unfold pV;have:=SD (b:=8) (xs:=l) (f:=i64.wrap) (L:=hY l) (λn k hk r=> ?_) (λn r=> ?_) fuel 0 ([(List.length l:Int)]) jI jD jE;(simpa using this);(simp only[hY];rw[if_pos (bE hk),aH hk,qA,bG jD]);·simp only[hY];rw[if_neg jK]
theorem Ui(x:Int):GS x 2147483647=some (RQ x):=by
 have e:bB 2147483647 1 1000000000000=some true:=by decide
 unfold GS
 rw[e,qA,if_neg jF,if_neg jF,Xq]
theorem UE(x:Int):Hj x 2147483647=some (RQ x):=by
 have e:aV 2147483647 1 1000000000000=some true:=by decide
 unfold Hj
 rw[e,qA,if_neg jF,if_neg jF,Yp]
theorem NO{l:List Int}(j:l.length<=maxLen):Es l=some (Jl l):=by have C:=le_max j;unfold Es Jl;refine Jx (L:=wB l) (E:=some) j (λn v k hk=> ?_) (λn v=> ?_) 11;(simp only[wB];rw[if_pos (bE hk),aH hk,qA,Ui,qA,bG jD];rfl);·simp only[wB];rw[if_neg jK]
theorem HQ{k:Int}{l:List Int}(j:l.length<=2000000):uB k l=some (Jl (([k]++l)++[k])):=by unfold uB;rw[eH jE,qA,eH jE,qA,NO (by simp[maxLen];omega),qA]
theorem Nw{l:List Int}(j:l.length<=maxLen):Ex l=some (Jl l):=by have C:=le_max j;unfold Ex Jl;refine Jx (L:=wE l) (E:=some) j (λn v k hk=> ?_) (λn v=> ?_) 11;(simp only[wE];rw[if_pos (bE hk),aH hk,qA,UE,qA,bG jD];rfl);·simp only[wE];rw[if_neg jK]
theorem H4{k:Int}{l:List Int}(j:l.length<=2000000):uC k l=some (Jl (([k]++l)++[k])):=by unfold uC;rw[eH jE,qA,eH jE,qA,Nw (by simp[maxLen];omega),qA]
def Iv(k:Int)(s:ByteArray):Int:=if Jl (([k]++([(List.length (bC s):Int)]++(bC s).map i64.wrap))++[k])=0 then 1 else Jl (([k]++([(List.length (bC s):Int)]++(bC s).map i64.wrap))++[k])
theorem Kd{k:Int}{s:ByteArray}(C:s.size<=1500000):iK k s=some (Iv k s):=by have j:=aR s;unfold iK uO Iv;rw[Gq jD,qA,HQ jE,qA];have:=Sk (([k]++([(List.length (bC s):Int)]++(bC s).map i64.wrap))++[k]);generalize Jl (([k]++([(List.length (bC s):Int)]++(bC s).map i64.wrap))++[k])=h at*;by_cases h0:h=0;(rw[if_neg jE,if_pos h0];rfl);·rw[if_neg h0];by_cases h1:h=1;(rw[if_neg jE,h1];rfl);·rw[if_pos jE];rfl
theorem KE{k:Int}{s:ByteArray}(C:s.size<=1500000):iS k s=some (Iv k s):=by have j:=aR s;unfold iS Iv;rw[Gw jD,qA,H4 jE,qA];generalize Jl (([k]++([(List.length (bC s):Int)]++(bC s).map i64.wrap))++[k])=h;by_cases h0:h=0;(rw[if_pos (by simp[h0]),if_pos h0]);·rw[if_neg (by simp[h0]),if_neg h0]
theorem Q7{x:Int}(j:0<=x)(h1:x<2147483647):∀(n:Nat) (v:Int) (r:List Int),tY x n v r=fD x n v r
 |0,_,_=>rfl
 |n+1,v,r=>by simp only[tY,fD,ZM j h1,Q7 j h1 n]
theorem Z8(x:Int):∃l,fD x fuel 5 ([]:List Int)=some l/\okB l:=by
 have st:∀n (v:Nat) r,r.length<=7->(∀y∈r,0<=y/\y<=255)->v<=5->∃y:Int,(0<=y/\y<=255)/\fD x (n+1) (v:Int) r=fD x n ((v:Int)-1) (r++[y]):=by intro n v r hr hy hv;refine⟨IntKind.u8.wrap (Int.fdiv x (2^(min (i64.wrap (8*(v:Int))).toNat IntKind.i64.bits))),by rw[wrap_u8];omega,?_⟩;simp only[fD];rw[if_pos jF,if_pos (by rw[bI jD jD];simp;omega),eH jE,qA,bI (n:=(v:Int)-1) jD jD]
 have e7:∀n r,fD x (n+1) (-1) r=some r:=by intro n r;simp only[fD];rw[if_neg jG]
 rw[V8]
 obtain⟨x1,j,e1⟩:=st (18446744073709551609+6) 5 [] jF jF jF
 obtain⟨x2,C,e2⟩:=st (18446744073709551609+5) 4 ([]++[x1]) jF (by simpa using j) jF
 obtain⟨x3,I,e3⟩:=st (18446744073709551609+4) 3 ([]++[x1]++[x2]) jF (by simpa using⟨j,C⟩) jF
 obtain⟨x4,J,e4⟩:=st (18446744073709551609+3) 2 ([]++[x1]++[x2]++[x3]) jF (by simpa using⟨j,C,I⟩) jF
 obtain⟨x5,U,e5⟩:=st (18446744073709551609+2) 1 ([]++[x1]++[x2]++[x3]++[x4]) jF (by simpa using⟨j,C,I,J⟩) jF
 obtain⟨x6,b6,e6⟩:=st (18446744073709551609+1) 0 ([]++[x1]++[x2]++[x3]++[x4]++[x5]) jF (by simpa using⟨j,C,I,J,U⟩) jF
 exact⟨_,e1.trans (e2.trans (e3.trans (e4.trans (e5.trans (e6.trans (e7 _ _)))))),by simp[maxLen],by simpa using⟨j,C,I,J,U,b6⟩⟩
theorem XE{t:M.aJr}{f:ByteArray}{v:Int}(h1:t.Name.size<=1500000)(h2:f.size<=1500000):∃l,DT t f v=some l/\D8 t f v=some l/\okB l:=by unfold DT D8;rw[Kd h1,KE h1,qA,qA,Kd h2,KE h2,qA,qA,HQ jF,H4 jF,qA,qA];have hb:=Sk (([i64.wrap (1+v)]++[103,Iv 107 t.Name,Iv 109 f])++[i64.wrap (1+v)]);rw[Q7 hb.1 hb.2];obtain⟨l,e,j⟩:=Z8 (Jl (([i64.wrap (1+v)]++[103,Iv 107 t.Name,Iv 109 f])++[i64.wrap (1+v)]));exact⟨l,e,e,j⟩
theorem Rb{s:M.aJr}(h:NF s=true):1<=s.aJl/\s.aJl<=1000000000000:=by simp only[NF,qM,inR,qL]at h;exact h.2.2.1
def Ok(s:M.aJr)(v:Int):Bool:=NF s&&(decide (v>s.aJl-2)&&(decide (v<=s.aJl)&&decide (v>=1)))
theorem PK{s:M.aJr}{v:Int}(j:s.ok):rK s v=some (Ok s v):=by
 unfold rK Ok
 rw[Hw j,qA]
 cases hn:NF s with
 |false=>simp
 |true=>
  have C:=Rb hn
  rw[if_pos rfl,bI (n:=s.aJl-2) jD jD,bI jD jD]
  unfold uO bB
  by_cases h:s.aJl-2+1>1
  ·rw[if_pos (by simpa using h),qA]
   by_cases h1:v>=s.aJl-2+1
   ·rw[if_pos (by simpa using h1),qA]
    have e1:decide (v>s.aJl-2)=true:=by simp;omega
    have e2:decide (v>=1)=true:=by simp;omega
    rw[e1,e2];simp
   ·rw[if_neg (by simpa using h1),qA]
    have e1:decide (v>s.aJl-2)=false:=by simp;omega
    rw[e1];simp
  ·rw[if_neg (by simpa using h),qA]
   by_cases h1:v>=1
   ·rw[if_pos (by simpa using h1),qA]
    have e1:decide (v>s.aJl-2)=true:=by simp;omega
    have e2:decide (v>=1)=true:=by simpa using h1
    rw[e1,e2];simp
   ·rw[if_neg (by simpa using h1),qA]
    have e2:decide (v>=1)=false:=by simpa using h1
    rw[e2];simp
theorem PJ{s:M.aJr}{v:Int}(j:s.ok):rL s v=some (Ok s v):=by
 unfold rL Ok
 rw[Hr j,qA]
 cases hn:NF s with
 |false=>simp
 |true=>
  have C:=Rb hn
  rw[if_pos rfl,bI (n:=s.aJl-2) jD jD]
  cases decide (v>s.aJl-2)<;>cases decide (v<=s.aJl)<;>simp
def aAj(s:M.aJr)(f:ByteArray):Bool:=s.aKJ.any λx=>x.toList==f.toList
theorem OP{s:M.aJr}{f:ByteArray}(j:s.ok):Ct s f=some (aAj s f):=by have C:=le_max j.aKJ.1;unfold Ct aAj;rw[findAll (L:=oA s f) (f:=λx:ByteArray=>x.toList==f.toList) (A:=λ_=>some true) (E:=some false) j.aKJ.1 (λm k hk=> ?_) (λm=> ?_),X8];(cases s.aKJ.any (λx=>x.toList==f.toList)<;>rfl);(simp only[oA];rw[if_pos (bE hk),aH hk,qA,bG jD]);·simp only[oA];rw[if_neg jK]
theorem OJ{s:M.aJr}{f:ByteArray}(j:s.ok):CA s f=some (aAj s f):=by have C:=le_max j.aKJ.1;unfold CA pP lV aAj;rw[findAll (L:=cH s.aKJ f) (f:=λx:ByteArray=>x.toList==f.toList) (A:=λi=>some (i:Int)) (E:=some (-1)) j.aKJ.1 (λm k hk=> ?_) (λm=> ?_),pG,qA,qA,Ks];(simp only[cH];rw[if_pos (bE hk),aH hk,qA,bG jD,Bool.beq_comm]);·simp only[cH];rw[if_neg jK]
theorem TQ:M.aJo.ok (⟨4,0,0,([]:List Int),false⟩:M.aJo):=⟨by unfold inI;simp,by unfold inI;simp,by unfold inI;simp,⟨by simp[maxLen],jF⟩⟩
theorem SS{s:M.aJr}{f:ByteArray}{v:Int}(j:s.ok)(U:inI v)(zs:M.aJr.sz s<=1500000)(zf:f.size<=1500000):∃r,Am s f v=some r/\zY s f v=some r/\M.aJo.ok r:=by
 have J:s.Name.size<=1500000:=by simp only[M.aJr.sz]at zs;omega
 obtain⟨l,e1,e2,I⟩:=XE (t:=s) (f:=f) (v:=v) J zf
 unfold Am zY cO cP
 rw[Hw j,Hr j,PK j,PJ j,OP j,OJ j,e1,e2]
 have C:M.aJo.ok (⟨1,404,s.aJl,([]:List Int),false⟩:M.aJo):=⟨by unfold inI;simp,by unfold inI;simp,j.aJl,⟨by simp[maxLen],jF⟩⟩
 simp only[qA]
 cases NF s
 ·exact⟨_,rfl,rfl,TQ⟩
 ·cases Ok s v;(exact⟨_,rfl,rfl,C⟩);·cases aAj s f;(exact⟨_,rfl,rfl,C⟩);·exact⟨_,rfl,rfl,⟨by unfold inI;simp,by unfold inI;simp,U,I⟩⟩
theorem PU{c:M.aO}{s:M.aJr}{f:ByteArray}{v:Int}{o:Bool}(hc:c.ok)(j:s.ok)(C:inI v)(U:c.sz<=1500000)(zs:M.aJr.sz s<=1500000)(zf:f.size<=1500000):∃r,vD c s v f o=some r/\vQ c s v f o=some r/\M.aJo.ok r:=by obtain⟨x,e1,e2,I⟩:=Rl (s:=c) (v:=v) (a:=s.Name) (b:=f) hc U;obtain⟨y,e3,e4,J⟩:=SS (f:=f) j C zs zf;unfold vD vQ cO cP;rw[e1,e2,e3,e4];simp only[qA];cases x.2;(cases o;(exact⟨_,rfl,rfl,TQ⟩);·exact⟨_,rfl,rfl,J⟩);·exact⟨_,rfl,rfl,I⟩
theorem Yy{w:M.World}{p:M.bD}{f:ByteArray}(I:w.ok)(hp:p.ok)(hn:HZ w=true)(hz:M.World.sz w<=1500000)(zf:f.size<=1500000):∃r,tW w p f=some r/\BG w p f=some r/\M.aJo.ok r:=by
 have U:=hz
 simp only[M.World.sz,M.aA.sz]at U
 unfold tW BG kJ FG cO cP
 rw[rY I.aA,sK I.aA,LM,GW]
 simp only[qA]
 by_cases h:mF (nAt p.aJr p.Top) w.aA.aJp<0
 ·simp only[h,decide_true,if_true,qA,qC];exact⟨_,rfl,rfl,TQ⟩
 ·obtain⟨j,ej,J⟩:=eN h
  simp only[h,decide_false,qD,if_false]
  rw[ej,aH J]
  simp only[qA,qB,qD,if_false]
  by_cases h2:JS p.aJr<0
  ·simp only[h2,decide_true,if_true];exact⟨_,rfl,rfl,TQ⟩
  ·obtain⟨k,ek,hk⟩:=Uf h2
   have C:k<w.aKE.length:=by rw[QS hn];exact hk
   have h3:¬((k:Int)>=(w.aKE.length:Int)):=by omega
   simp only[h2,decide_false,qD,if_false]
   rw[ek,aH C]
   simp only[h3,decide_false,qD,if_false,qA]
   have hb:=I.aA.aJp.2 _ (qG J)
   have z1:=dW (f:=M.aJi.sz) (qG J)
   have z2:=dW (f:=M.aJr.sz) (qG C)
   have z3:M.aO.sz w.aA.aJp[j].aJs<=M.aJi.sz w.aA.aJp[j]:=by simp only[M.aJi.sz];omega
   obtain⟨r,e1,e2,e3⟩:=PU (o:=w.aKF) (f:=f) hb.aJs (I.aKE.2 _ (qG C)) hp.aJl jD jD zf
   rw[e1,e2]
   exact⟨r,rfl,rfl,e3⟩
def HR(p:M.bD)(f:ByteArray)(v:Int):M.bD:=(⟨p.Id,p.aJr,p.Top,p.aJl,p.aJ++[(⟨f,v⟩:M.aJ)],p.aJn⟩:M.bD)
def HM(p:M.bD)(f:ByteArray)(x:M.aJo):M.bD×Bool:=if(x.aKS !=200)=true then(p,false)else if(x.aJl !=p.aJl)=true then(p,false)else if GO p=true then if GO (HR p f x.aJl)=true then(HR p f x.aJl,true)else(p,false)else(p,false)
theorem Nr{p:M.bD}{f:ByteArray}{v:Int}(j:p.ok)(hl:p.aJ.length<=4194304)(J:f.size<=maxLen)(U:inI v):(HR p f v).ok:=
 ⟨j.Id,j.aJr,j.Top,j.aJl,⟨by show(p.aJ++_).length<=maxLen;unfold maxLen;simp;omega,λy I=>by have C:y∈p.aJ++[(⟨f,v⟩:M.aJ)]:=I;simp only[qP,qp,qO,or_false]at C;rcases C with I|rfl;(exact j.aJ.2 y I);·exact⟨J,U⟩⟩,j.aJn⟩
theorem Ys{p:M.bD}{f:ByteArray}{x:M.aJo}(j:p.ok)(I:p.aJ.length<=4194304)(C:f.size<=maxLen)(J:inI x.aJl):(HM p f x).1.ok:=by unfold HM;split;(exact j);·split;(exact j);·split;(split;(exact Nr j I C J);·exact j);·exact j
theorem X7(p:M.bD)(f:ByteArray)(x:M.aJo):M.bD.sz (HM p f x).1<=M.bD.sz p+f.size+1:=by
 have h:M.bD.sz (HR p f x.aJl)=M.bD.sz p+f.size+1:=by simp only[HR,M.bD.sz,qE,qJ,qK,Nh,bA,M.aJ.sz];omega
 unfold HM
 split
 ·show M.bD.sz p<=_;omega
 ·split;(show M.bD.sz p<=_;omega);·split;(split;(show M.bD.sz (HR p f x.aJl)<=_;omega);·show M.bD.sz p<=_;omega);·show M.bD.sz p<=_;omega
theorem Oi{p:M.bD}{f:ByteArray}{x:M.aJo}(j:p.ok)(I:p.aJ.length<=4194304)(hz:M.bD.sz p<=1073741824)(C:f.size<=maxLen)(J:inI x.aJl):Bl p f x=some (HM p f x):=by have e:=Hp (Nr j I C J);unfold HR at e;unfold Bl HM;rw[GL p hz,qA,eH jP,qA,Hp j,qA,e,qA];unfold HR;cases (x.aKS !=200);(cases (x.aJl !=p.aJl);(cases GO p;(simp);·cases GO (⟨p.Id,p.aJr,p.Top,p.aJl,p.aJ++[(⟨f,x.aJl⟩:M.aJ)],p.aJn⟩:M.bD)<;>simp);·simp);·simp
theorem N4{p:M.bD}{f:ByteArray}{x:M.aJo}(j:p.ok)(I:p.aJ.length<=4194304)(hz:M.bD.sz p<=1073741824)(C:f.size<=maxLen)(J:inI x.aJl):BA p f x=some (HM p f x):=by have e:=Hz (Nr j I C J);unfold HR at e;unfold BA HM;rw[D0 p hz,qA,eH jP,qA,Hz j,qA,e,qA];unfold HR;cases (x.aKS !=200);(cases (x.aJl !=p.aJl);(cases GO p;(simp);·cases GO (⟨p.Id,p.aJr,p.Top,p.aJl,p.aJ++[(⟨f,x.aJl⟩:M.aJ)],p.aJn⟩:M.bD)<;>simp);·simp);·simp
