/-
  Helper text. No conditions.
-/
import Derived.Test.YtjlnkcoeghonfaaGreatRunningPagesPd3
set_option linter.all false
namespace Go.Proofs.YtjlnkcoeghonfaaGreat.gen
open Go Go.Sh
open Go.IntKind (i64)
theorem rL{r:List Int}{n:Nat}(I:r.length<=16777216)(C:n<=1000000000000):cQ r n=some (r++uv n):=by
 have j:inR n 0 1000000000000=true:=by unfold inR;simp;omega
 unfold cQ eD
 rw[dN wX,qA,qA,bY,qA,j,jF we]
 refine Ux (L:=dH) (b:=λv=>IntKind.u8.wrap (i64.wrap ((Int.tmod v 128)+128))) (c:=λv=>IntKind.u8.wrap v) (λm n r h1 h2=> ?_) (λm n r h1=> ?_) (λn h=>u8I h) (λn h=>u8n h) 8 aH n r wi wi wH wi
 ·simp only[dH];rw[jE wX,uvt h2]
 ·simp only[dH];rw[jF wX]
def Hb(b:List Int):List Int:=uv b.length++b
theorem vT{r b:List Int}(j:r.length<=8388608)(hb:b.length<=1000000):cF r b=some (r++Hb b):=by have h9:=Gw (n:=b.length) wi;unfold cF Hb;rw[rK wi wi,qA,dN wU,qA,qT]
theorem Ew{r b:List Int}(j:r.length<=8388608)(hb:b.length<=1000000):kM r b=some (r++Hb b):=by have h9:=Gw (n:=b.length) wi;unfold kM Hb;rw[rL wi wi,qA,dN wU,qA,qT]
def M8{α:Type}(f:α->List Int):List α->List Int
 |[]=>[]
 |x::l=>f x++M8 f l
theorem RL{α:Type}{f:α->List Int}{c:Nat}:∀{l:List α},(∀x∈l,(f x).length<=c)->(M8 f l).length<=l.length*c
 |[],_=>by simp[M8]
 |x::l,h=>by have h1:=h x we;have h2:=RL (l:=l) (λy j=>h y (by simp[j]));simp only[M8,qE,qJ,Nat.succ_mul];omega
theorem Pw{α:Type}{R:Type}{xs:List α}{f:α->List Int}{c B:Nat}{L:Nat->Int->List Int->Option R}{E:List Int->Option R}(hc:∀x∈xs,(f x).length<=c)
  (h1:∀n (k:Nat) (hk:k<xs.length) q,q.length<=B->L (n+1) k q=L n ((k+1:Nat)) (q++f xs[k]))
  (h2:∀n q,q.length<=B->L (n+1) xs.length q=E q):
  ∀(n k:Nat) (q:List Int),xs.length-k<n->k<=xs.length->q.length+(xs.length-k)*c<=B->L n k q=E (q++M8 f (xs.drop k))
 |0,_,_,h,_,_=>by omega
 |n+1,k,q,h,hk,j=>by
  rcases jR k xs.length with hlt|hge
  ·have C:=hc _ (qG hlt)
   have e:(xs.length-k)*c=(xs.length-(k+1))*c+c:=by rw[<-Nat.succ_mul];congr 1;omega
   rw[h1 n k hlt q wi,Pw hc h1 h2 n (k+1) (q++f xs[k]) wi wi wU,qX hlt,M8,qT]
  ·have e:k=xs.length:=by omega
   subst e
   rw[h2 n q wi,qa,M8,qY]
def enF(x:M.aR):List Int:=Hb (bJ x.Name)++uv x.N.toNat
def enR(r:M.aF):List Int:=if cT r=true then uv r.aLY.length++M8 enF r.aLY else[]
theorem T6{x:M.aR}(h:x.Name.size<=8/\0<=x.N/\x.N<=1000000000):(enF x).length<=14:=by have h1:=Gv 0 x.Name.size wi;have h2:=Gv 4 x.N.toNat wi;have h3:=aP x.Name;unfold enF Hb;grind
theorem KJ(r:M.aF):(enR r).length<=85:=by unfold enR;split;(rename_i h;obtain⟨h6,j⟩:=AY h;have h1:=Gv 0 r.aLY.length wi;have h2:=RL (f:=enF) (λx C=>T6 (j x C));rw[qE];omega);·simp
theorem KH{r:M.aF}(I:r.ok):iL r=some (enR r):=by
 unfold iL enR
 rw[uW I,qA]
 by_cases h:cT r=true
 ·obtain⟨h6,C⟩:=AY h
  have h1:=Gv 0 r.aLY.length wi
  rw[jF wa,jE h,rK we wi,qA,jO]
  have:=Pw (xs:=r.aLY) (f:=enF) (c:=14) (B:=1000) (L:=dP r) (E:=some) (λx j=>T6 (C x j)) (λn k hk q U=> ?_) (λn q _=> ?_) aH 0 (uv r.aLY.length) wH wi wi
  ·exact this
  ·have j:=C _ (qG hk)
   simp only[dP]
   have h9:=Gw (n:=r.aLY[k].Name.size) wi
   have J:=aP r.aLY[k].Name
   have hb:(Hb (bJ r.aLY[k].Name)).length<=14:=by unfold Hb;rw[qE,J];omega
   have e:=rK (r:=q++Hb (bJ r.aLY[k].Name)) (n:=r.aLY[k].N.toNat) wU wi
   rw[jS j.2.1]at e
   rw[jE (bE hk),aM hk,qA,vT wi wi,qA,e,qA,bL wi,qT]
   rfl
  ·simp only[dP];rw[jF we]
 simp_all
theorem GJ{r:M.aF}(I:r.ok):iD r=some (enR r):=by
 unfold iD enR
 rw[Br I,qA]
 by_cases h:cT r=true
 ·obtain⟨h6,C⟩:=AY h
  have h1:=Gv 0 r.aLY.length wi
  rw[jF wa,jE h,rL we wi,qA,jO]
  have:=Pw (xs:=r.aLY) (f:=enF) (c:=14) (B:=1000) (L:=dQ r) (E:=some) (λx j=>T6 (C x j)) (λn k hk q U=> ?_) (λn q _=> ?_) aH 0 (uv r.aLY.length) wH wi wi
  ·exact this
  ·have j:=C _ (qG hk)
   simp only[dQ]
   have h9:=Gw (n:=r.aLY[k].Name.size) wi
   have J:=aP r.aLY[k].Name
   have hb:(Hb (bJ r.aLY[k].Name)).length<=14:=by unfold Hb;rw[qE,J];omega
   have e:=rL (r:=q++Hb (bJ r.aLY[k].Name)) (n:=r.aLY[k].N.toNat) wU wi
   rw[jS j.2.1]at e
   rw[jE (bE hk),aM hk,qA,Ew wi wi,qA,e,qA,bL wi,qT]
   rfl
  ·simp only[dQ];rw[jF we]
 simp_all
def be6(v:Nat):List Int:=[(v/2^40%256:Nat),(v/2^32%256:Nat),(v/2^24%256:Nat),(v/2^16%256:Nat),(v/2^8%256:Nat),(v%256:Nat)]
def enK(k:M.bD):List Int:=if EZ k=true then k.aLn::((if k.aLn==2 then[]else be6 (k.N+1000000000000).toNat)++bJ k.aLu)else[]
theorem Pq{k:M.bD}(h:EZ k=true):1<=k.aLn/\k.aLn<=3/\ -1000000000000<=k.N/\k.N<=1000000000000:=by unfold EZ inR at h;simp_all
theorem KN(k:M.bD):(enK k).length<=19:=by unfold enK;split;(rename_i h;have:=HJ h;have:=aP k.aLu;split<;>simp[be6]<;>omega);·simp
theorem aHx{k:M.bD}(v:Nat)(C:v<=5)(h: -1000000000000<=k.N/\k.N<=1000000000000):Int.fdiv (i64.wrap (k.N+1000000000000)) (2^(min (i64.wrap (8*v)).toNat IntKind.i64.bits))=(((k.N+1000000000000).toNat/2^(8*v):Nat)):=by
 have e:min (i64.wrap (8*v)).toNat IntKind.i64.bits=8*v:=by rw[bQ wi wi,show IntKind.i64.bits=64 from rfl];omega
 rw[e,bQ wi wi]
 obtain⟨n,j⟩:=jU (show 0<=k.N+1000000000000 by omega)
 rw[j,qH,Int.fdiv_eq_ediv_of_nonneg _ jo,Int.natCast_ediv,Int.natCast_pow]
 rfl
theorem byS{k:M.bD}(v:Nat)(j:v<=5)(h: -1000000000000<=k.N/\k.N<=1000000000000):(IntKind.u8.wrap (i64.wrap (BitVec.ofInt (IntKind.i64.bits) (Int.fdiv (i64.wrap (k.N+1000000000000)) (2^(min (i64.wrap (8*v)).toNat IntKind.i64.bits)))&&&BitVec.ofInt (IntKind.i64.bits) 255).toNat))=(((k.N+1000000000000).toNat/2^(8*v)%256:Nat)):=by have h1:(k.N+1000000000000).toNat/2^(8*v)<=(k.N+1000000000000).toNat:=Nat.div_le_self _ _;have e:=N8 (n:=(k.N+1000000000000).toNat/2^(8*v)) (m:=255) wi wi;rw[aBO]at e;rw[aHx v j h,show(255)=((255:Nat):Int)from rfl,e,wrap_u8];omega
theorem byI{k:M.bD}(v:Nat)(j:v<=5)(h: -1000000000000<=k.N/\k.N<=1000000000000):(IntKind.u8.wrap (Int.fdiv (i64.wrap (k.N+1000000000000)) (2^(min (i64.wrap (8*v)).toNat IntKind.i64.bits))))=(((k.N+1000000000000).toNat/2^(8*v)%256:Nat)):=by rw[aHx v j h,wrap_u8];omega
theorem NX{k:M.bD}(hk:k.ok):nG k=some (enK k):=by
 unfold nG enK
 rw[pF hk,qA]
 by_cases h:EZ k=true
 ·have ht:=HJ h
  have hb:=Pq h
  have U:=aP k.aLu
  have J:IntKind.u8.wrap k.aLn=k.aLn:=by rw[wrap_u8];omega
  rw[jF wa,jE h,Yt,J]
  by_cases h2:(k.aLn==2)=true
  ·have h3:¬(k.aLn !=2)=true:=by simp[bne,h2]
   rw[jE h2]
   have C:∀n r,r.length<=7->bU k (n+1) 5 r=some (r++bJ k.aLu):=by intro n r j;simp only[bU];rw[jE wh,jF h3,dN wi,qA]
   exact C (18446744073709551609+6) _ we
  ·have h3:(k.aLn !=2)=true:=by simp[bne,h2]
   rw[jF h2]
   have st:∀n (v:Nat) r,r.length<=7->v<=5->bU k (n+1) v r=bU k n (v-1) (r++[(((k.N+1000000000000).toNat/2^(8*v)%256:Nat):Int)]):=by intro n v r j I;simp only[bU];rw[jE we,jE h3,jE jm,dN wX,qA,bQ (n:=v-1) wi wi,byS v I hb.2.2]
   have e7:∀n r,r.length<=7->bU k (n+1) (-1) r=some (r++bJ k.aLu):=by intro n r j;simp only[bU];rw[jF wh,dN wi,qA]
   refine(st (18446744073709551609+6) 5 _ we we).trans ((st (18446744073709551609+5) 4 _ we we).trans ((st (18446744073709551609+4) 3 _ we we).trans ((st (18446744073709551609+3) 2 _ we we).trans ((st (18446744073709551609+2) 1 _ we we).trans ((st (18446744073709551609+1) 0 _ we we).trans ((e7 _ _ we).trans ?_))))))
   simp[be6]
 simp_all
theorem FR{k:M.bD}(hk:k.ok):lO k=some (enK k):=by
 unfold lO enK
 rw[uE hk,qA]
 by_cases h:EZ k=true
 ·have U:=HJ h
  have hb:=Pq h
  have J:=aP k.aLu
  have I:IntKind.u8.wrap k.aLn=k.aLn:=by rw[wrap_u8];omega
  rw[jF wa,jE h,I]
  by_cases h2:(k.aLn==2)=true
  ·have h3:¬(k.aLn !=2)=true:=by simp[bne,h2]
   rw[jE h2,jF h3,dN wX,qA]
   rfl
  ·have h3:(k.aLn !=2)=true:=by simp[bne,h2]
   rw[jF h2,jE h3,Yt]
   have st:∀n (v:Nat) r,r.length<=7->v<=5->cN k (n+1) v r=cN k n (v-1) (r++[(((k.N+1000000000000).toNat/2^(8*v)%256:Nat):Int)]):=by intro n v r j C;simp only[cN];rw[jE we,jE jm,dN wX,qA,bQ (n:=v-1) wi wi,byI v C hb.2.2]
   have e7:∀n r,r.length<=7->cN k (n+1) (-1) r=some (r++bJ k.aLu):=by intro n r j;simp only[cN];rw[jF wh,dN wi,qA]
   refine(st (18446744073709551609+6) 5 _ we we).trans ((st (18446744073709551609+5) 4 _ we we).trans ((st (18446744073709551609+4) 3 _ we we).trans ((st (18446744073709551609+3) 2 _ we we).trans ((st (18446744073709551609+2) 1 _ we we).trans ((st (18446744073709551609+1) 0 _ we we).trans ((e7 _ _ we).trans ?_))))))
   simp[be6]
 simp_all
theorem Ig:∀{a b:List Int},eqL zX a b=true↔a=b
 |[],[]=>by simp[eqL]
 |[],_::_=>by simp[eqL]
 |_::_,[]=>by simp[eqL]
 |x::j,y::C=>by have:=Ig (a:=j) (b:=C);simp only[eqL,qM,this,List.cons.injEq,zX,beq_iff_eq]
theorem H2{b:List Int}(h:∀x∈b,0<=x/\x<=255):∀x∈Hb b,0<=x/\x<=255:=λx j=>by rcases qP.1 j with j|j;(exact Kw _ x j);simp_all
theorem RS{α:Type}{f:α->List Int}:∀{l:List α},(∀x∈l,∀y∈f x,0<=y/\y<=255)->∀y∈M8 f l,0<=y/\y<=255
 |[],_,_,j=>by simp[M8]at j
 |x::l,h,y,j=>by rcases qP.1 (show y∈f x++M8 f l from j)with j|j;(simp_all);·exact RS (l:=l) (λz C=>h z (by simp[C])) y j
theorem aAB(x:M.aR):∀y∈enF x,0<=y/\y<=255:=λy j=>by rcases qP.1 j with j|j;(exact H2 (Gf _) y j);·exact Kw _ y j
theorem aBe(r:M.aF):okB (enR r):=⟨qh (KJ r) wE,λy j=>by unfold enR at j;split at j;(rcases qP.1 j with j|j;(exact Kw _ y j);·exact RS (λx _=>aAB x) y j);simp_all⟩
theorem YL(k:M.bD):okB (enK k):=⟨qh (KN k) wE,λy j=>by unfold enK at j;split at j;(rename_i h;have hk:=Pq h;rcases qq.1 j with rfl|j;(omega);·rcases qP.1 j with j|j;(split at j;(simp at j);·simp only[be6,qq,qO,or_false]at j;omega);·exact Gf _ y j);simp_all⟩
def Um:M.bD:=(⟨0,0,(⟨#[]⟩:ByteArray)⟩:M.bD)
def mkK(c n:Int)(t:List Int):M.bD×Bool:=if EZ ⟨c,n,bS t⟩=true then(⟨c,n,bS t⟩,true)else(Um,false)
def chK(k:M.bD)(b:List Int):M.bD×Bool:=if eqL zX (enK k) b=true then(k,true)else(Um,false)
def Wc(v x:Int):Int:=v*256+x
def Wo:List Int->M.bD×Bool
 |[]=>(Um,false)
 |c::t=>if c=2 then mkK c 0 t else if t.length<6 then(Um,false)else mkK c ((t.take 6).foldl Wc 0-1000000000000) (t.drop 6)
theorem aFE{t:List Int}(j:∀x∈t,0<=x/\x<=255):∀(v:Nat) (n:Nat),(v:Int)<2^n->∃w:Nat,t.foldl Wc v=w/\(w:Int)<2^(n+8*t.length):=by
 induction t with
 |nil=>grind
 |cons x t J=>
  intro v n h
  have U:=j x we
  obtain⟨w,e,C⟩:=J (λy I=>j y (by simp[I])) (v*256+x.toNat) (n+8) (by rw[Int.pow_add];omega)
  refine⟨w,?_,by rw[qJ,show n+8*(t.length+1)=n+8+8*t.length from by omega];exact C⟩
  rw[List.foldl_cons,<-e]
  congr 1
  unfold Wc
  omega
theorem six{t:List Int}(h:6<=t.length):∃x1 x2 x3 x4 x5 x6 r,t=x1::x2::x3::x4::x5::x6::r:=by
 match t,h with
 |x1::x2::x3::x4::x5::x6::r,_=>exact⟨x1,x2,x3,x4,x5,x6,r,rfl⟩
theorem aBv{x1 x2 x3 x4 x5 x6:Int}(h1:0<=x1/\x1<=255)(h2:0<=x2/\x2<=255)(h3:0<=x3/\x3<=255)(h4:0<=x4/\x4<=255)(h5:0<=x5/\x5<=255)(h6:0<=x6/\x6<=255):be6 ([x1,x2,x3,x4,x5,x6].foldl Wc 0).toNat=[x1,x2,x3,x4,x5,x6]:=by simp only[List.foldl_cons,Wc,be6];grind
theorem aFP{t:List Int}(j:∀x∈t,0<=x/\x<=255):chK ⟨2,0,bS t⟩ (2::t)=mkK 2 0 t:=by unfold chK mkK enK;by_cases h:EZ ⟨2,0,bS t⟩=true;(rw[jE h,jE h,jE];rw[Ig];rw[Fe j];rfl);·rw[jF h,jF h,jF];rw[Ig];simp
theorem aE5{c:Int}{t:List Int}(hc:c≠2)(h6:6<=t.length)(j:∀x∈t,0<=x/\x<=255):chK ⟨c,(t.take 6).foldl Wc 0-1000000000000,bS (t.drop 6)⟩ (c::t)=mkK c ((t.take 6).foldl Wc 0-1000000000000) (t.drop 6):=by
 unfold chK mkK enK
 by_cases h:EZ ⟨c,(t.take 6).foldl Wc 0-1000000000000,bS (t.drop 6)⟩=true
 ·rw[jE h,jE h,jE]
  rw[Ig]
  obtain⟨x1,x2,x3,x4,x5,x6,r,rfl⟩:=six h6
  have C:∀x∈r,0<=x/\x<=255:=λx I=>j x (by simp[I])
  show c::((if(c==2)=true then[]else be6 (([x1,x2,x3,x4,x5,x6].foldl Wc 0)-1000000000000+1000000000000).toNat)++bJ (bS r))=_
  rw[jF (by simpa using hc),Int.sub_add_cancel,aBv (j x1 we) (j x2 we) (j x3 we) (j x4 we) (j x5 we) (j x6 we),Fe C]
  rfl
 ·rw[jF h,jF h,jF];rw[Ig];simp
theorem Qh{c n:Int}{t:List Int}(hc:0<=c/\c<=255)(C: -1000000000000<=n/\n<=1000000000000000)(j:t.length<=maxLen):M.bD.ok ⟨c,n,bS t⟩:=⟨by show inI c;unfold inI;omega,by show inI n;unfold inI;omega,by rw[Gg];exact j⟩
theorem aGM{v:Nat}(h:v<2^48):i64.wrap (v*2^(min (8:Int).toNat IntKind.i64.bits))=((v*256:Nat)):=by rw[show min (8:Int).toNat IntKind.i64.bits=8 from rfl,show(v*2^8)=(v*256)from by omega];exact bQ wi wi
theorem stS{v x:Nat}(h:v<2^48)(j:x<=255):(i64.wrap (BitVec.ofInt (IntKind.i64.bits) (i64.wrap (v*2^(min (8:Int).toNat IntKind.i64.bits)))|||BitVec.ofInt (IntKind.i64.bits) (i64.wrap x)).toNat)=((v*256+x:Nat)):=by have e:=aBa (n:=x) (x:=v) (k:=8) wi;rw[aGM h,bQ (n:=x) wi wi,TZ wi wi,Nat.or_comm,show 256=2^8 from rfl,e];omega
theorem stI{v x:Nat}(h:v<2^48)(j:x<=255):(i64.wrap ((i64.wrap (v*2^(min (8:Int).toNat IntKind.i64.bits)))+(i64.wrap x)))=((v*256+x:Nat)):=by rw[aGM h,bQ (n:=x) wi wi,bQ wi wi];omega
theorem dkS{b:List Int}{c:Int}(hb:okB b)(hl:b.length<=1500000)(hc:0<=c/\c<=255)(h7:7<=b.length):∀(j k v m:Nat),k+j=7->v<2^(8*(k-1))->1<=k->j<m->nP b c m v k=some (mkK c (((b.drop k).take j).foldl Wc v-1000000000000) (b.drop 7))
 |_,_,_,0,_,_,_,h=>by omega
 |0,k,v,m+1,hk,hv,h1,_=>by
  obtain rfl:k=7:=by omega
  simp only[nP]
  have U:okB (b.drop 7):=⟨qh wT hb.1,λx J=>hb.2 x (qv J)⟩
  have I:v<281474976710656:=by omega
  have ok:=Qh (n:=v-1000000000000) hc wi U.1
  rw[jF wh,show Cn b 7=some (b.drop (7:Int).toNat)from by unfold Cn;rw[jE ⟨wh,by simpa using h7⟩],qA,show(7:Int).toNat=7 from rfl,D6 U.2,qA,bQ (n:=c) wi wi,bQ (n:=v-1000000000000) wi wi,pF ok,qA,List.take_zero,List.foldl_nil]
  unfold mkK
  cases EZ ⟨c,v-1000000000000,bS (b.drop 7)⟩<;>rfl
 |j+1,k,v,m+1,hk,hv,h1,hm=>by
  have C:k<b.length:=by omega
  obtain⟨x,ex,J⟩:=aAb hb C
  have I:v<2^40:=qw hv (Nat.pow_le_pow_right wh wi)
  have e8:2^(8*(k+1-1))=2^(8*(k-1))*256:=by rw[show 8*(k+1-1)=8*(k-1)+8 from by omega,Nat.pow_add]
  simp only[nP]
  rw[jE wX,aM C,qA,ex,stS wi J,bL wi,dkS hb hl hc h7 j (k+1) (v*256+x) m wi wi wi wi,qX C,ex,List.take_succ_cons,List.foldl_cons]
  congr 4
theorem NQ{b:List Int}(hb:okB b)(C:b.length<=1500000):Ac b=some (Wo b):=by
 unfold Ac
 cases b with
 |nil=>rfl
 |cons c t=>
  have hc:=hb.2 c we
  have I:∀x∈t,0<=x/\x<=255:=λx J=>hb.2 x (by simp[J])
  have j:t.length<=maxLen:=by have:=hb.1;rw[qJ]at this;omega
  rw[jF wX,show idx (c::t) 0=some c from rfl,qA,bQ (n:=c) wi wi]
  show _=some (if c=2 then mkK c 0 t else if t.length<6 then(Um,false)else mkK c ((t.take 6).foldl Wc 0-1000000000000) (t.drop 6))
  by_cases h2:c=2
  ·subst h2;rw[jF wh,jE rfl,show Cn (2::t) 1=some t from by rfl,qA,show List.drop (1:Int).toNat (2::t)=t from rfl,D6 I,qA,pF (Qh wi wi j),qA];unfold mkK;cases EZ ⟨2,0,bS t⟩<;>rfl
  ·rw[jE wZ,jF h2];by_cases h6:t.length<6;(rw[jE wX,jE h6];rfl);·rw[jF wX,jF h6];exact dkS hb C hc wX 6 1 0 aH rfl wh wi wH
theorem dkI{c:Int}{t:List Int}(hb:okB (c::t))(hl:t.length+1<=1500000)(hc:0<=c/\c<=255)(h6:6<=t.length):∀(j k v m:Nat),k+j=6->v<2^(8*k)->j<m->nT (c::t) c m v k=some (chK ⟨c,((t.drop k).take j).foldl Wc v-1000000000000,bS (t.drop 6)⟩ (c::t))
 |_,_,_,0,_,_,h=>by omega
 |0,k,v,m+1,hk,hv,_=>by
  obtain rfl:k=6:=by omega
  simp only[nT,show List.drop (1:Int).toNat (c::t)=t from rfl,show(6:Int).toNat=6 from rfl]
  have U:okB (t.drop 6):=⟨qh (by rw[qW,qJ];omega) hb.1,λx hx=>hb.2 x (List.mem_cons_of_mem _ (qv hx))⟩
  have I:v<281474976710656:=by omega
  have ok:=Qh (n:=v-1000000000000) hc wi U.1
  rw[jF wX,show Cn t 6=some (t.drop 6)from by unfold Cn;rw[jE ⟨wh,by simpa using h6⟩];rfl,qA,D6 U.2,qA,bQ (n:=c) wi wi,bQ (n:=v-1000000000000) wi wi,FR ok,qA,yJ (YL _),qA,List.take_zero,List.foldl_nil]
  unfold chK
  cases eqL zX (enK ⟨c,v-1000000000000,bS (t.drop 6)⟩) (c::t)<;>rfl
 |j+1,k,v,m+1,hk,hv,hm=>by
  have C:k<t.length:=by omega
  have hlt6:k<(t.take 6).length:=by rw[qV];omega
  have J:=hb.2 t[k] (List.mem_cons_of_mem _ (qG C))
  obtain⟨x,ex⟩:=jU J.1
  have I:v<2^40:=qw hv (Nat.pow_le_pow_right wh wi)
  have e8:2^(8*(k+1))=2^(8*k)*256:=by rw[show 8*(k+1)=8*k+8 from by omega,Nat.pow_add]
  simp only[nT,show List.drop (1:Int).toNat (c::t)=t from rfl,show(6:Int).toNat=6 from rfl]
  rw[jE wP,aM hlt6,qA,List.getElem_take,ex,stI wi wi,bL wi,dkI hb hl hc h6 j (k+1) (v*256+x) m wi wi wi,qX C,ex,List.take_succ_cons,List.foldl_cons]
  congr 5
theorem NK{b:List Int}(hb:okB b)(J:b.length<=1500000):AD b=some (Wo b):=by
 unfold AD
 cases b with
 |nil=>rfl
 |cons c t=>
  have hc:=hb.2 c we
  have I:∀x∈t,0<=x/\x<=255:=λx U=>hb.2 x (by simp[U])
  have C:t.length<=maxLen:=by have:=hb.1;rw[qJ]at this;omega
  have j:t.length+1<=1500000:=J
  rw[jF wX,show idx (c::t) 0=some c from rfl,qA,bQ (n:=c) wi wi,show Cn (c::t) 1=some t from by rfl,qA]
  simp only[show List.drop (1:Int).toNat (c::t)=t from rfl]
  show _=some (if c=2 then mkK c 0 t else if t.length<6 then(Um,false)else mkK c ((t.take 6).foldl Wc 0-1000000000000) (t.drop 6))
  by_cases h2:c=2
  ·subst h2;rw[jF wh,jE rfl,D6 I,qA,FR (Qh wi wi C),qA,yJ (YL _),qA,<-aFP I];unfold chK;cases eqL zX (enK ⟨2,0,bS t⟩) (2::t)<;>rfl
  ·rw[jE wZ,jF h2];by_cases h6:t.length<6;(rw[jE wX,jE h6];rfl);·rw[jF wX,jF h6,show CK t 6=some (t.take 6)from by unfold CK;rw[jE ⟨wh,wi⟩];rfl,qA,<-aE5 h2 wi I];exact dkI hb j hc wi 6 0 0 aH rfl wh wH
def Xi(b:List Int):Nat->Int->List M.aR->Option (List M.aR×Int)
 |0,p,C=>some (C,p)
 |j+1,p,C=>if(nRb b p 8).2.2=true then if(nUv b (nRb b p 8).2.1).2.2=true then Xi b j (nUv b (nRb b p 8).2.1).2.1 (C++[(⟨bS (nRb b p 8).1,(nUv b (nRb b p 8).2.1).1⟩:M.aR)])else none else none
def Rv(b:List Int):M.aF×Bool:=if(nUv b 0).2.2=true then(if(nUv b 0).1>6 then(⟨[]⟩,false)else match Xi b (nUv b 0).1.toNat (nUv b 0).2.1 []with
 |none=>(⟨[]⟩,false)
 |some (j,q)=>if(cT ⟨j⟩&&(q==b.length))=true then(⟨j⟩,true)else(⟨[]⟩,false))else(⟨[]⟩,false)
theorem Nc{e:Nat}{n:Nat}(h:e<=n)(j:n<=1500000):inI e:=by unfold inI;omega
theorem Jj{b:List Int}{p c:Int}(hb:okB b)(h:(nRb b p c).2.2=true):∃(s:List Int) (a e:Nat),nRb b p c=(s,(e:Int),true)/\p=a/\s.length<=c/\e<=b.length/\s.length<=1000000000000/\a+(uv s.length).length+s.length=e/\b.drop a=uv s.length++(s++b.drop e)/\okB s:=by obtain⟨a,e,h1,h2,h3⟩:=Yk hb (show nRb b p c=((nRb b p c).1,(nRb b p c).2.1,true)from by rw[<-h]);grind
theorem D9{b:List Int}{p:Int}(hb:okB b)(h:(nUv b p).2.2=true):∃a m e:Nat,nUv b p=((m:Int),(e:Int),true)/\p=a/\m<=1000000000000/\e<=b.length/\a+(uv m).length=e/\b.drop a=uv m++b.drop e:=by obtain⟨a,m,e,h1,h2,h3,h4⟩:=Re hb (show nUv b p=((nUv b p).1,(nUv b p).2.1,true)from by rw[<-h]);grind
theorem RY{s:List Int}{m:Nat}(j:okB s)(C:m<=1000000000000):M.aR.ok ⟨bS s,m⟩:=⟨by rw[Gg];exact j.1,by show inI m;unfold inI;omega⟩
theorem RU{b:List Int}(hb:okB b):∀(j a:Nat) (C I:List M.aR) (q:Int),Xi b j a C=some (I,q)->a<=b.length->∃(l:List M.aR) (e:Nat),I=C++l/\l.length=j/\q=e/\e<=b.length/\b.drop a=M8 enF l++b.drop e/\∀x∈l,M.aR.ok x
 |0,a,C,I,q,h,J=>by simp only[Xi,qc,qb]at h;exact⟨[],a,by rw[<-h.1,qY],rfl,h.2.symm,J,rfl,λ_ h=>absurd h we⟩
 |j+1,a,C,I,q,h,J=>by
  simp only[Xi]at h
  split at h
  ·rename_i h1
   obtain⟨s,a1,e1,r1,r2,r3,r4,r5,r6,r7,r8⟩:=Jj hb h1
   obtain rfl:a=a1:=by omega
   rw[r1]at h
   dsimp only at h
   split at h
   ·rename_i h2
    obtain⟨a2,m,e2,u1,u2,u3,u4,u5,u6⟩:=D9 hb h2
    obtain rfl:e1=a2:=by omega
    rw[u1]at h
    obtain⟨l,e,g1,g2,g3,g4,g5,g6⟩:=RU hb j e2 _ I q h u4
    refine⟨⟨bS s,m⟩::l,e,by rw[g1,qT];rfl,by rw[qJ,g2],g3,g4,?_,λx U=> ?_⟩
    ·rw[r7,u6,g5,M8,enF,Hb,Fe r8.2,qH];simp only[qT]
    ·rcases qq.1 U with rfl|U;(exact RY r8 u3);simp_all
   ·cases h
  ·cases h
def aLQ(o:Option (List M.aR×Int)):M.aF×Int×Bool:=match o with
 |none=>(⟨[]⟩,0,false)
 |some (j,q)=>(⟨j⟩,q,cT ⟨j⟩)
def aEy(b:List Int)(o:Option (List M.aR×Int)):M.aF×Bool:=match o with
 |none=>(⟨[]⟩,false)
 |some (j,q)=>if eqL zX (enR ⟨j⟩) b=true then(⟨j⟩,true)else(⟨[]⟩,false)
theorem Vj{j:List M.aR}{n:Nat}(C:j.length<=n)(I:n<=6)(h:∀x∈j,M.aR.ok x):M.aF.ok ⟨j⟩:=⟨⟨qh C wE,h⟩⟩
theorem Vp{j:List M.aR}{x:M.aR}(h:∀x∈j,M.aR.ok x)(C:M.aR.ok x):∀y∈j++[x],M.aR.ok y:=λy I=>by grind
theorem aGQ{b:List Int}{x1:Int×Int×Bool}{N:Nat}(hb:okB b)(I:b.length<=1500000)(hN:N<=6)(U:x1.1=N):∀(j k m:Nat) (p:Int) (C:List M.aR),k+j=N->j<m->inI p->C.length=k->(∀x∈C,M.aR.ok x)->xE b x1 m p k C=some (aLQ (Xi b j p C))
 |_,_,0,_,_,_,h,_,_,_=>by omega
 |0,k,m+1,p,C,hk,_,hp,ha,J=>by simp only[xE];rw[U,jF wX,uW (Vj (n:=6) wi wi J),qA];rfl
 |j+1,k,m+1,p,C,hk,hm,hp,ha,J=>by
  simp only[xE,Xi]
  rw[U,jE wX,Aa hb I hp,qA]
  cases h1:(nRb b p 8).2.2 with
  |false=>rfl
  |true=>
   obtain⟨s,a1,e1,r1,r2,r3,r4,r5,r6,r7,r8⟩:=Jj hb h1
   rw[r1]
   simp only[jG]
   rw[vV hb I (Nc r4 I),qA]
   cases h2:(nUv b e1).2.2 with
   |false=>rfl
   |true=>
    obtain⟨a2,v,e2,u1,u2,u3,u4,u5,u6⟩:=D9 hb h2
    rw[u1]
    simp only[jG]
    rw[D6 r8.2,qA,dN wX,qA,bL wi]
    exact aGQ hb I hN U j (k+1) m e2 _ wi wi (Nc u4 I) (by simp[ha]) (Vp J (RY r8 u3))
theorem KO{b:List Int}(hb:okB b)(C:b.length<=1500000):tP b=some (Rv b):=by
 unfold tP Gb Rv
 rw[vV hb C zV,qA]
 cases h:(nUv b 0).2.2 with
 |false=>rfl
 |true=>
  obtain⟨a,m,e,J,U,u3,u4,u5,u6⟩:=D9 hb h
  rw[J]
  simp only[qB,qD,jG]
  by_cases h6:(m:Int)>6
  ·rw[jE (by simpa using h6),jE h6];rfl
  ·have I:=aGQ (x1:=(m,e,true)) hb C (N:=m) wi rfl m 0 aH e [] wi wH (Nc u4 C) rfl (λ_ h=>absurd h we)
   rw[show((0:Nat):Int)=0 from rfl]at I
   rw[jF wZ,jF h6,qH,I,qA]
   cases Xi b m e []with
   |none=>rfl
   |some o=>
    obtain⟨j,q⟩:=o
    show(if(!cT ⟨j⟩)=true then some (⟨[]⟩,false)else if(!(q==b.length))=true then some (⟨[]⟩,false)else some (⟨j⟩,true))=some (if(cT ⟨j⟩&&(q==b.length))=true then(⟨j⟩,true)else((⟨[]⟩:M.aF),false))
    grind
theorem aI5{b:List Int}{x1:Int×Int×Bool}{N:Nat}(hb:okB b)(I:b.length<=1500000)(hN:N<=6)(U:x1.1=N):∀(j k m:Nat) (p:Int) (C:List M.aR),k+j=N->j<m->C.length=k->(∀x∈C,M.aR.ok x)->kH b x1 m p k C=some (aEy b (Xi b j p C))
 |_,_,0,_,_,_,h,_,_=>by omega
 |0,k,m+1,p,C,hk,_,ha,J=>by simp only[kH];rw[U,jF wX,GJ (Vj (n:=6) wi wi J),qA,yJ (aBe _),qA];simp only[Xi,aEy];cases eqL zX (enR ⟨C⟩) b<;>rfl
 |j+1,k,m+1,p,C,hk,hm,ha,J=>by
  simp only[kH,Xi]
  rw[U,jE wX,Av hb I,qA,vC hb I,qA]
  cases h1:(nRb b p 8).2.2 with
  |false=>rfl
  |true=>
   obtain⟨s,a1,e1,r1,r2,r3,r4,r5,r6,r7,r8⟩:=Jj hb h1
   rw[r1]
   simp only[jG]
   cases h2:(nUv b e1).2.2 with
   |false=>rfl
   |true=>
    obtain⟨a2,v,e2,u1,u2,u3,u4,u5,u6⟩:=D9 hb h2
    rw[u1]
    simp only[jG]
    rw[D6 r8.2,qA,dN wX,qA,bL wi]
    exact aI5 hb I hN U j (k+1) m e2 _ wi wi (by simp[ha]) (Vp J (RY r8 u3))
theorem KC{b:List Int}(hb:okB b)(I:b.length<=1500000):sY b=some (Rv b):=by
 unfold sY Rv
 rw[vC hb I,qA]
 cases h:(nUv b 0).2.2 with
 |false=>rfl
 |true=>
  obtain⟨a,m,e,u1,u2,u3,u4,u5,J⟩:=D9 hb h
  rw[u1]
  simp only[qB,qD,jG,jH]
  by_cases h6:(m:Int)>6
  ·rw[jE (by simpa using h6),jE h6]
  ·have j:=aI5 (x1:=(m,e,true)) hb I (N:=m) wi rfl m 0 aH e [] wi wH rfl (λ_ h=>absurd h we)
   rw[show((0:Nat):Int)=0 from rfl]at j
   rw[jF wZ,jF h6,qH,j]
   cases hr:Xi b m e []with
   |none=>rfl
   |some o=>
    obtain⟨C,q⟩:=o
    obtain⟨l,e3,U,g2,g3,g4,g5,g6⟩:=RU hb m e [] C q hr u4
    subst U
    obtain rfl:a=0:=by omega
    simp only[aEy]
    by_cases hn:cT ⟨C⟩=true
    ·have hiff:(eqL zX (enR ⟨C⟩) b=true)↔(cT ⟨C⟩&&(q==b.length))=true:=by
      rw[Ig,hn,Bool.true_and,beq_iff_eq,g3]
      unfold enR
      rw[jE hn,g2]
      have hb2:b=uv m++(M8 enF C++b.drop e3):=by rw[<-g5];exact J
      constructor
      ·intro h;have:=congrArg List.length h;have h3:=congrArg List.length hb2;simp only[qE,qW]at this h3;omega
      ·intro h;rw[hb2,List.drop_eq_nil_of_le wi,qY]
     by_cases j:eqL zX (enR ⟨C⟩) b=true
     ·rw[jE j,jE (hiff.1 j)]
     ·rw[jF j,jF (λh=>j (hiff.2 h))]
    ·rw[jF,jF (by simp[hn])];rw[Ig];unfold enR;rw[jF hn];intro h0;have:=congrArg List.length J;have h2:=Nv m;rw[<-h0]at this;simp at this;omega
theorem aAM{b:List Int}(hb:okB b):(Rv b).1.ok/\M.aF.sz (Rv b).1<=60:=by have j:M.aF.ok ⟨[]⟩/\M.aF.sz ⟨[]⟩<=60:=⟨Vj (n:=0) we wi (λ_ h=>absurd h we),by simp[M.aF.sz,dV]⟩;unfold Rv;split;(rename_i h;obtain⟨a,m,e,u1,u2,u3,u4,u5,u6⟩:=D9 hb h;rw[u1];split;(exact j);·split;(exact j);·rename_i C q hr;split;(rename_i I;rw[qM]at I;obtain⟨l,e3,J,g2,g3,g4,g5,U⟩:=RU hb _ e [] C q hr u4;subst J;obtain⟨n6,nf⟩:=AY I.1;refine⟨Vj n6 wi U,?_⟩;have:=eU (w:=M.aR.sz) (b:=8) (xs:=C) (λx hx=>by have:=(nf x hx).1;simp only[M.aR.sz];omega);simp only[M.aF.sz];omega);·exact j);·exact j
def Kn(o:M.gN):Prop:=inI o.aLn/\o.aE.size<=maxLen/\o.Key.ok/\o.aF.ok/\o.Field.size<=maxLen
def nOp(o:M.gN):Bool:=inR o.aLn 1 6&&(pS o.aE&&(((o.aLn==5)||EZ o.Key)&&(cT o.aF&&(if(o.aLn==6)=true then pS o.Field else o.Field.toList==(⟨#[]⟩:ByteArray).toList))))
theorem Oj{o:M.gN}(h:Kn o):Fg o=some (nOp o):=by unfold Fg nOp;simp only[cK,eB h.2.1,pF h.2.2.1,uW h.2.2.2.1,eB h.2.2.2.2];grind
theorem OK{o:M.gN}(h:Kn o):E1 o=some (nOp o):=by unfold E1 nOp;simp only[bY,dG h.2.1,uE h.2.2.1,Br h.2.2.2.1,dG h.2.2.2.2];grind
def enO(o:M.gN):List Int:=uv o.aLn.toNat++(Hb (bJ o.aE)++(Hb (enK o.Key)++(Hb (enR o.aF)++Hb (bJ o.Field))))
def GZ(l:List M.gN):List Int:=if(l.all nOp&&decide (l.length<=6))=true then uv l.length++M8 enO l else[]
theorem bsize{a b:ByteArray}(h:a.toList=b.toList):a.size=b.size:=by rw[ByteArray.toList_eq,ByteArray.toList_eq]at h;have:=congrArg List.length h;exact this
theorem Wf{s:ByteArray}(h:(s.toList==(⟨#[]⟩:ByteArray).toList)=true):s.size=0:=bsize (eq_of_beq h)
theorem CV{o:M.gN}(h:nOp o=true):1<=o.aLn/\o.aLn<=6/\o.aE.size<=8/\o.Field.size<=8/\cT o.aF=true:=by
 unfold nOp inR at h
 simp only[qM,qL]at h
 obtain⟨h1,h2,_,h4,h5⟩:=h
 have C:∀s:ByteArray,pS s=true->s.size<=8:=λs j=>by unfold pS inR at j;grind
 refine⟨h1.1,h1.2,C _ h2,?_,h4⟩
 split at h5
 ·simp_all
 ·rw[Wf h5];omega
theorem Jb{b:List Int}{n:Nat}(h:b.length<=n)(j:n<=127):(Hb b).length<=n+1:=by have:=Gv 0 b.length wi;unfold Hb;rw[qE];omega
theorem RQ{o:M.gN}(h:nOp o=true):(enO o).length<=130:=by obtain⟨h1,h2,h3,h4,_⟩:=CV h;have e1:=Gv 0 o.aLn.toNat wi;have e2:=Jb (b:=bJ o.aE) (n:=8) (by rw[aP];exact h3) wi;have e3:=Jb (KN o.Key) wi;have e4:=Jb (KJ o.aF) wi;have e5:=Jb (b:=bJ o.Field) (n:=8) (by rw[aP];exact h4) wi;unfold enO;grind
theorem aBF{o:M.gN}(C:Kn o)(h:nOp o=true){q:List Int}(hq:q.length<=900000){α:Type}(K:List Int->Option α):((cG q o.aLn).bind λI=>(cF I (bJ o.aE)).bind λJ=>(nG o.Key).bind λU=>(cF J U).bind λah=>(iL o.aF).bind λai=>(cF ah ai).bind λaj=>(cF aj (bJ o.Field)).bind λak=>K ak)=K (q++enO o):=by obtain⟨h1,h2,h3,h4,_⟩:=CV h;have j:=rK (r:=q) (n:=o.aLn.toNat) wi wi;rw[jS wi]at j;have l1:=Gv 0 o.aLn.toNat wi;have l2:=Jb (b:=bJ o.aE) (n:=8) (by rw[aP];exact h3) wi;have l3:=Jb (KN o.Key) wi;have l4:=Jb (KJ o.aF) wi;have k2:=aP o.aE;have k5:=aP o.Field;have k3:=KN o.Key;have k4:=KJ o.aF;rw[j,qA,vT wc wi,qA,NX C.2.2.1,qA,vT wc wi,qA,KH C.2.2.2.1,qA,vT wc wi,qA,vT wc wi,qA];unfold enO;simp only[qT]
theorem eoS{l:List M.gN}(C:l.length<=1000)(j:∀o∈l,Kn o):∀(n k:Nat) (q:List Int),l.length-k<n->k<=l.length->q.length<=20+130*k->tC l n k q=some (if(l.drop k).all nOp=true then if l.length>6 then[]else q++M8 enO (l.drop k)else[])
 |0,_,_,h,_,_=>by omega
 |n+1,k,q,I,hk,J=>by
  simp only[tC]
  rcases jR k l.length with hlt|hge
  ·rw[jE (bE hlt),aM hlt,qA,Oj (j _ (qG hlt)),qA,qX hlt,List.all_cons]
   cases h:nOp l[k]with
   |false=>
    rfl
   |true=>
    simp only[qB,qD,jG,Bool.true_and]
    have U:=RQ h
    rw[aBF (j _ (qG hlt)) h wi,bL wi,eoS C j n (k+1) _ wi wi wU,M8,qT]
  ·have e:k=l.length:=by omega
   subst e
   rw[jF we,qa]
   simp only[List.all_nil,jH,M8,qY]
   by_cases h6:l.length>6
   ·rw[jE wX,jE h6]
   ·rw[jF wX,jF h6]
theorem II{l:List M.gN}(j:l.length<=1000)(C:∀o∈l,Kn o):Ae l=some (GZ l):=by
 have h9:=Gw (n:=l.length) wi
 unfold Ae GZ
 rw[rK we wi,qA,jO]
 have e:=eoS j C aH 0 (uv l.length) wH wi wi
 rw[List.drop_zero]at e
 refine Eq.trans e ?_
 cases l.all nOp with
 |false=>rfl
 |true=>
  by_cases h6:l.length>6
  ·rw[jE rfl,jE h6,jF wX]
  ·rw[jE rfl,jF h6,jE wX]
theorem QX{l:List M.gN}(I:l.length<=1000)(j:∀o∈l,Kn o):Er l=some (l.all nOp&&decide (l.length<=6)):=by
 have key:∀(n k:Nat),l.length-k<n->k<=l.length->At l n k=some ((l.drop k).all nOp&&decide (l.length<=6)):=by
  intro n
  induction n with
  |zero=>simp
  |succ n C=>
   intro k J hk
   simp only[At]
   rcases jR k l.length with hlt|hge
   ·rw[jE (bE hlt),aM hlt,qA,OK (j _ (qG hlt)),qA,qX hlt,List.all_cons]
    cases h:nOp l[k]with
    |false=>rfl
    |true=>
     simp only[qB,qD,jG,Bool.true_and]
     rw[bL wi,C (k+1) wi wi]
   ·have e:k=l.length:=by omega
    subst e
    rw[jF we,qa,List.all_nil,Bool.true_and]
    congr 1
    rw[decide_eq_decide]
    omega
 unfold Er
 exact key aH 0 wH wi
theorem Iz{l:List M.gN}(hl:l.length<=1000)(ho:∀o∈l,Kn o):AF l=some (GZ l):=by
 unfold AF GZ
 rw[QX hl ho,qA]
 cases h:(l.all nOp&&decide (l.length<=6))with
 |false=>rfl
 |true=>
  rw[qM,qL,qR]at h
  have h9:=Gw (n:=l.length) wi
  simp only[qB,qD,jG]
  rw[rL we wi,qA,jO]
  have:=Pw (xs:=l) (f:=enO) (c:=130) (B:=10000) (L:=fJ l) (E:=some) (λo I=>RQ (h.1 o I)) (λn k hk q hq=> ?_) (λn q _=> ?_) aH 0 (uv l.length) wH wi wi
  ·exact this
  ·have C:=ho _ (qG hk)
   obtain⟨h1,h2,h3,h4,_⟩:=CV (h.1 _ (qG hk))
   have e0:=rL (r:=q) (n:=l[k].aLn.toNat) wi wi
   rw[jS wi]at e0
   have l1:=Gv 0 l[k].aLn.toNat wi
   have k2:=aP l[k].aE
   have k5:=aP l[k].Field
   have k3:=KN l[k].Key
   have k4:=KJ l[k].aF
   simp only[fJ]
   rw[jE (bE hk),aM hk,qA,e0,qA,FR C.2.2.1,qA,GJ C.2.2.2.1,qA]
   have hp:∀x∈[bJ l[k].aE,enK l[k].Key,enR l[k].aF,bJ l[k].Field],x.length<=85:=λx I=>by grind
   have J:=Pw (L:=lH l[k] (enK l[k].Key) (enR l[k].aF) (λaa r5=>fJ l n (i64.wrap (k+1)) r5)) (xs:=[bJ l[k].aE,enK l[k].Key,enR l[k].aF,bJ l[k].Field]) (f:=Hb) (c:=86) (B:=20000) (E:=λU=>fJ l n (i64.wrap (k+1)) U) (λx I=>Jb (hp x I) wi) (λn' k' j U hq'=> ?_) (λn' U _=> ?_) aH 0 (q++uv l[k].aLn.toNat) (by unfold aH;simp) we wc
   ·refine Eq.trans J ?_;rw[bL wi];simp only[List.drop_zero,M8,enO,qY,qT]
   ·have I:=hp _ (qG j);simp only[lH];rw[jE (by simp only[qJ,qK]at j;rw[qL];omega),aM j,qA,Ew wi wi,qA,bL (n:=k') (by simp only[qJ,qK]at j;omega)]
   ·rfl
  ·simp only[fJ];rw[jF we]
theorem RK(l:List M.gN):okB (GZ l):=by unfold GZ;split;(rename_i h;rw[qM,qL,qR]at h;have h1:=RL (f:=enO) (λo I=>RQ (h.1 o I));have h9:=Gw (n:=l.length) wi;refine⟨?_,λy C=> ?_⟩;(rw[qE];exact qh (m:=2000) wi wE);·rcases qP.1 C with C|C;(exact Kw _ y C);·refine RS (λo _ z j=> ?_) y C;unfold enO at j;simp only[qP]at j;rcases j with j|j|j|j|j;(exact Kw _ z j);(exact H2 (Gf _) z j);(exact H2 (YL _).2 z j);(exact H2 (aBe _).2 z j);·exact H2 (Gf _) z j);·exact⟨we,λ_ h=>absurd h we⟩
def gS9(b:List Int)(p c1:Int):=nRb b (nUv b p).2.1 c1
def gK9(b:List Int)(p c1 c2:Int):=nRb b (gS9 b p c1).2.1 c2
def gR9(b:List Int)(p c1 c2 c3:Int):=nRb b (gK9 b p c1 c2).2.1 c3
def gF9(b:List Int)(p c1 c2 c3 c4:Int):=nRb b (gR9 b p c1 c2 c3).2.1 c4
def op9(b:List Int)(p c1 c2 c3 c4:Int):Option (M.gN×Int):=if(nUv b p).2.2=true then if(gS9 b p c1).2.2=true then if(gK9 b p c1 c2).2.2=true then if(gR9 b p c1 c2 c3).2.2=true then if(gF9 b p c1 c2 c3 c4).2.2=true then some (⟨(nUv b p).1,bS (gS9 b p c1).1,(Wo (gK9 b p c1 c2).1).1,(Rv (gR9 b p c1 c2 c3).1).1,bS (gF9 b p c1 c2 c3 c4).1⟩,(gF9 b p c1 c2 c3 c4).2.1)else none else none else none else none else none
def HI(b:List Int)(c1 c2 c3 c4:Int):Nat->Int->List M.gN->Option (List M.gN)
 |0,_,C=>some C
 |j+1,p,C=>match op9 b p c1 c2 c3 c4 with
  |none=>none
  |some (o,q)=>HI b c1 c2 c3 c4 j q (C++[o])
def aCe(b:List Int)(o:Option (List M.gN)):List M.gN×Bool:=match o with
 |none=>([],false)
 |some l=>if eqL zX (GZ l) b=true then(l,true)else([],false)
def RE(b:List Int)(c1 c2 c3 c4:Int):List M.gN×Bool:=if(nUv b 0).2.2=true then if(nUv b 0).1>6 then([],false)else aCe b (HI b c1 c2 c3 c4 (nUv b 0).1.toNat (nUv b 0).2.1 [])else([],false)
theorem aCg{b:List Int}{p:Int}(hb:okB b)(j:b.length<=1500000):inI (nUv b p).2.1:=by
 cases h:(nUv b p).2.2 with
 |false=>rw[aDr h];exact zV
 |true=>
  obtain⟨a,m,e,C,I,u3,u4,_⟩:=D9 hb h
  rw[C]
  exact Nc u4 j
theorem Rj{b:List Int}{p c:Int}(hb:okB b)(j:b.length<=1500000):inI (nRb b p c).2.1:=by
 cases h:(nRb b p c).2.2 with
 |false=>rw[aD1 h];exact zV
 |true=>
  obtain⟨s,a,e,C,J,U,I,_⟩:=Jj hb h
  rw[C]
  exact Nc I j
theorem Dk{b:List Int}{p c:Int}(hb:okB b)(j:b.length<=1500000)(h:(nRb b p c).2.2=true):okB (nRb b p c).1/\(nRb b p c).1.length<=b.length:=by obtain⟨s,a,e,C,I,J,U,r5,r6,r7,r8⟩:=Jj hb h;grind
theorem aBh{c n:Int}{t:List Int}(h:M.bD.ok ⟨c,n,bS t⟩):(mkK c n t).1.ok:=by unfold mkK;split;(exact h);·exact⟨zV,zV,sz0⟩
theorem aAw{b:List Int}(hb:okB b):(Wo b).1.ok:=by
 have z:Um.ok:=⟨zV,zV,sz0⟩
 unfold Wo
 split
 ·exact z
 ·rename_i c t
  have hc:=hb.2 c we
  have I:∀x∈t,0<=x/\x<=255:=λx C=>hb.2 x (by simp[C])
  have j:t.length<=maxLen:=by have:=hb.1;rw[qJ]at this;omega
  split
  ·exact aBh (Qh hc wi j)
  ·split
   ·exact z
   ·obtain⟨w,e,U⟩:=aFE (t:=t.take 6) (λx C=>I x (qk C)) 0 0 wh
    have h6:0+8*(t.take 6).length<=48:=by rw[qV];omega
    have h7:(2:Int)^(0+8*(t.take 6).length)<=2^48:=by have:=Nat.pow_le_pow_right (n:=2) wh h6;exact_mod_cast this
    have J:(t.take 6).foldl Wc 0=w:=e
    refine aBh (Qh hc wi (qh wT j))
theorem YF{b:List Int}{p c1 c2 c3 c4 q:Int}{o:M.gN}(hb:okB b)(j:b.length<=1500000)(h:op9 b p c1 c2 c3 c4=some (o,q)):Kn o/\inI q:=by unfold op9 at h;split at h;(rename_i h1;split at h;(rename_i h2;split at h;(rename_i h3;split at h;(rename_i h4;split at h;(rename_i h5;simp only[qc,qb]at h;obtain⟨a,m,e,u1,u2,u3,_⟩:=D9 hb h1;have C:=Dk hb j h2;have I:=Dk hb j h3;have J:=Dk hb j h4;have U:=Dk hb j h5;rw[<-h.1,<-h.2];refine⟨⟨?_,?_,aAw I.1,(aAM J.1).1,?_⟩,Rj hb j⟩;(show inI (nUv b p).1;rw[u1];unfold inI;omega);(rw[Gg];exact C.1.1);·rw[Gg];exact U.1.1);·cases h);·cases h);·cases h);·cases h);·cases h
