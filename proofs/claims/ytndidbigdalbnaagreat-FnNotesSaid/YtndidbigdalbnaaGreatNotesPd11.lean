/-
  Helper text. No conditions.
-/
import Derived.Test.YtndidbigdalbnaaGreatNotesPd10
set_option linter.all false
namespace Go.Proofs.YtndidbigdalbnaaGreat.gen
open Go Go.Sh
open Go.IntKind (i64)
theorem Ff(w:M.aE)(j:M.aE.sz w<=1073741824):uV w=some w:=by
 simp only[M.aE.sz]at j
 have e3:gZ w w.aC w.aKq w.aKu w.aKp w.aK0 aJ 0 []=some w:=CQ (xs:=w.aKr) (b:=96) (L:=gZ w w.aC w.aKq w.aKu w.aKp w.aK0) (E:=λr=>some { w with aKr:=r }) wg wg (λn r k hk=>by
   have C:=dW (f:=M.aKt.sz) (qG hk)
   simp only[gZ]
   rw[jF (bE hk),aK hk,qA,MX _ wg,qA,bM wg]) (λn r=>by
   simp only[gZ]
   rw[jG wb])
 have e2:kS w w.aC w.aKq w.aKu w.aKp aJ 0 []=some w:=(CQ (xs:=w.aK0) (b:=56) (L:=kS w w.aC w.aKq w.aKu w.aKp) (E:=λr=>gZ w w.aC w.aKq w.aKu w.aKp r aJ 0 []) wg wg (λn r k hk=>by
   have C:=dW (f:=M.aKl.sz) (qG hk)
   simp only[kS]
   rw[jF (bE hk),aK hk,qA,O7 _ wg,qA,bM wg]) (λn r=>by
   simp only[kS]
   rw[jG wb])).trans e3
 unfold uV
 rw[D3 _ wg,qA,NL _ wg,qA,NQ _ wg,qA,LA _ wg,qA]
 exact e2
theorem P9{a:ByteArray}(h:¬F8 a<0):∃k:Nat,F8 a=k/\k<3:=by obtain⟨k,e,hk⟩:=cT (show ¬gJ (λx:ByteArray=>x.toList==a.toList) tV<0 from h);exact⟨k,e,hk⟩
theorem M6{w:M.aE}(h:Dz w=true):w.aK0.length=3:=by unfold Dz at h;simp_all
theorem S7{s:M.aKl}(h:OJ s=true):1<=s.aKb/\s.aKb<=1000000000000:=by simp only[OJ,qM,inR,qL]at h;omega
theorem Na{α:Type}{f:α->Nat}(g:α->Bool):∀j:List α,dO f (j.filter g)<=dO f j
 |[]=>qg _
 |x::j=>by have:=Na g j (f:=f);by_cases h:g x=true;(rw[List.filter_cons_of_pos h];simp only[dO];omega);·rw[List.filter_cons_of_neg h];simp only[dO];omega
theorem Q5{s:M.aN}{v:Int}{a b:ByteArray}(I:s.ok)(U:s.sz<=1500000):∃r,AP s v a b=some r/\ED s v a b=some r/\M.aKo.ok r.1:=by
 unfold AP ED dD eJ
 rw[Ii I,NI I]
 simp only[qA]
 have hnil:M.aKo.ok ⟨4,0,0,[],false⟩:=⟨wJ,wJ,wJ,⟨wb,wb⟩⟩
 by_cases h:gJ (λc:M.aKv=>c.aKb==v) s.aKi<0
 ·simp_all
 ·obtain⟨k,e,hk⟩:=cT h
  simp only[h,qD]
  rw[e,aK hk]
  have hc:=I.aKi.2 _ (qG hk)
  simp only[qA]
  rw[Kj hc,P3 hc]
  simp only[qA]
  by_cases h2:gJ (Jc a b) s.aKi[k].aKs<0
  ·simp_all
  ·obtain⟨j,e2,C⟩:=cT h2
   simp only[h2,qD]
   rw[e2,aK C]
   have J:=hc.aKs.2 _ (qG C)
   have z1:=dW (f:=M.aKv.sz) (qG hk)
   have z2:=dW (f:=M.aK2.sz) (qG C)
   unfold M.aN.sz at U
   have q1:M.aKv.sz s.aKi[k]=s.aKi[k].aKs.length+dO M.aK2.sz s.aKi[k].aKs:=rfl
   have q2:M.aK2.sz s.aKi[k].aKs[j]=s.aKi[k].aKs[j].aKl.size+(s.aKi[k].aKs[j].aLQ.size+s.aKi[k].aKs[j].aKo.aLZ.length):=rfl
   have hb:(s.aKi[k].aKs[j].aKo.aLZ).length<=1500000:=by omega
   simp only[qA,vY,nK,eA]
   rw[dK wV]
   exact⟨_,rfl,rfl,J.aKo⟩
def Py(s:M.aKl)(v:Int):Bool:=OJ s&&(decide (v>s.aKb-2)&&(decide (v<=s.aKb)&&decide (v>=1)))
theorem Ra{s:M.aKl}{v:Int}(j:s.ok):vO s v=some (Py s v):=by
 unfold vO Py
 rw[HN j,qA]
 cases hn:OJ s with
 |false=>simp
 |true=>
  have C:=S7 hn
  rw[jF rfl,bO (n:=s.aKb-2) wg wg,bO wg wg]
  unfold zO bG
  by_cases h:s.aKb-2+1>1
  ·rw[jF wM,qA]
   by_cases h1:v>=s.aKb-2+1
   ·rw[jF (by simpa using h1),qA]
    have e1:decide (v>s.aKb-2)=true:=by simp;omega
    have e2:decide (v>=1)=true:=by simp;omega
    rw[e1,e2];simp
   ·rw[jG (by simpa using h1),qA]
    have e1:decide (v>s.aKb-2)=false:=by simp;omega
    rw[e1];simp
  ·rw[jG wM,qA]
   by_cases h1:v>=1
   ·have e1:decide (v>s.aKb-2)=true:=by simp;omega
    have e2:decide (v>=1)=true:=by simpa using h1
    rw[e1,e2];simp
   ·have e2:decide (v>=1)=false:=by simpa using h1
    rw[e2];simp
theorem Q8{s:M.aKl}{v:Int}(j:s.ok):CU s v=some (Py s v):=by
 unfold CU Py
 rw[HE j,qA]
 cases hn:OJ s with
 |false=>simp
 |true=>
  have C:=S7 hn
  rw[jF rfl,bO (n:=s.aKb-2) wg wg]
  cases decide (v>s.aKb-2)<;>cases decide (v<=s.aKb)<;>simp
def aEK(s:M.aKl)(f:ByteArray):Bool:=s.aLG.any λx=>x.toList==f.toList
theorem P0{s:M.aKl}{f:ByteArray}(j:s.ok):CW s f=some (aEK s f):=by have C:=aZ j.aLG.1;unfold CW aEK;rw[oQ (L:=rZ s f) (f:=λx:ByteArray=>x.toList==f.toList) (A:=λ_=>some true) (E:=some false) j.aLG.1 (λm k hk=> ?_) (λm=> ?_),VH];(cases s.aLG.any (λx=>x.toList==f.toList)<;>rfl);(simp only[rZ];rw[jF (bE hk),aK hk,qA,bM wg]);·simp only[rZ];rw[jG wb]
theorem PV{s:M.aKl}{f:ByteArray}(j:s.ok):GR s f=some (aEK s f):=by have C:=aZ j.aLG.1;unfold GR Dw Ae aEK;rw[oQ (L:=eF s.aLG f) (f:=λx:ByteArray=>x.toList==f.toList) (A:=λi=>some (i:Int)) (E:=some (-1)) j.aLG.1 (λm k hk=> ?_) (λm=> ?_),tK,qA,qA,Lu];(simp only[eF];rw[jF (bE hk),aK hk,qA,bM wg,Bool.beq_comm]);·simp only[eF];rw[jG wb]
theorem VO:M.aKo.ok ⟨4,0,0,[],false⟩:=⟨wJ,wJ,wJ,⟨wb,wb⟩⟩
theorem US{s:M.aKl}{f:ByteArray}{v:Int}(j:s.ok)(J:inI v)(zs:M.aKl.sz s<=1500000)(U:f.size<=1500000):∃r,BN s f v=some r/\E9 s f v=some r/\M.aKo.ok r:=by
 have I:s.Name.size<=1500000:=by simp only[M.aKl.sz]at zs;omega
 obtain⟨l,e1,e2,C⟩:=aAQ (t:=s) (f:=f) (v:=v) I U
 unfold BN E9 dD eJ
 rw[HN j,HE j,Ra j,Q8 j,P0 j,PV j,e1,e2]
 have aa:M.aKo.ok ⟨1,404,s.aKb,[],false⟩:=⟨wJ,wJ,j.aKb,⟨wb,wb⟩⟩
 cases OJ s
 ·exact⟨_,rfl,rfl,VO⟩
 ·cases Py s v;(simp_all);·cases aEK s f;(simp_all);·exact⟨_,rfl,rfl,⟨wJ,wJ,J,C⟩⟩
theorem Ls{c:M.aN}{s:M.aKl}{f:ByteArray}{v:Int}{o:Bool}(hc:c.ok)(j:s.ok)(C:inI v)(J:c.sz<=1500000)(zs:M.aKl.sz s<=1500000)(U:f.size<=1500000):∃r,lY c s v f o=some r/\DZ c s v f o=some r/\M.aKo.ok r:=by obtain⟨x,e1,e2,hx⟩:=Q5 (s:=c) (v:=v) (a:=s.Name) (b:=f) hc J;obtain⟨y,e3,e4,I⟩:=US (f:=f) j C zs U;unfold lY DZ dD eJ;rw[e1,e2,e3,e4];simp only[qA];cases x.2;(cases o;(exact⟨_,rfl,rfl,VO⟩);·exact⟨_,rfl,rfl,I⟩);simp_all
theorem aBR{w:M.aE}{p:M.bK}{f:ByteArray}(I:w.ok)(hp:p.ok)(hn:Dz w=true)(hz:M.aE.sz w<=1500000)(zf:f.size<=1500000):∃r,gC w p f=some r/\Gp w p f=some r/\M.aKo.ok r:=by
 have U:=hz
 simp only[M.aE.sz,M.aC.sz]at U
 unfold gC Gp mJ LF dD eJ
 rw[lF I.aC,xN I.aC,CD,Hb]
 simp only[qA]
 by_cases h:gJ (nAt p.aKl p.Top) w.aC.aKf<0
 ·simp only[h,jc,jI,qA,qC];exact⟨_,rfl,rfl,VO⟩
 ·obtain⟨j,ej,J⟩:=cT h
  simp only[h,jd,qD,jH]
  rw[ej,aK J]
  simp only[qA,qB,qD,jH]
  by_cases h2:F8 p.aKl<0
  ·simp only[h2,jc,jI];exact⟨_,rfl,rfl,VO⟩
  ·obtain⟨k,ek,hk⟩:=P9 h2
   have C:k<w.aK0.length:=by rw[M6 hn];exact hk
   have h3:¬(k>=(w.aK0.length:Int)):=by omega
   simp only[h2,jd,qD,jH]
   rw[ek,aK C]
   simp only[h3,jd,qD,jH,qA]
   have hb:=I.aC.aKf.2 _ (qG J)
   have z1:=dW (f:=M.aKe.sz) (qG J)
   have z2:=dW (f:=M.aKl.sz) (qG C)
   have z3:M.aN.sz w.aC.aKf[j].aKi<=M.aKe.sz w.aC.aKf[j]:=by simp only[M.aKe.sz];omega
   obtain⟨r,e1,e2,e3⟩:=Ls (o:=w.aK4) (f:=f) hb.aKi (I.aK0.2 _ (qG C)) hp.aKb wg wg zf
   rw[e1,e2]
   exact⟨r,rfl,rfl,e3⟩
theorem PL{c:M.aN}{s:M.aKl}{f:ByteArray}{v:Int}{o:Bool}(hc:c.ok)(j:s.ok)(C:inI v)(I:c.sz<=1500000)(zs:M.aKl.sz s<=1500000)(J:f.size<=1500000):∃r,lY c s v f o=some r/\M.aKo.ok r:=by obtain⟨r,e,_,h⟩:=Ls (f:=f) (o:=o) hc j C I zs J;simp_all
def aEy(x y:M.vE):Bool:=(y.Name.toList==x.Name.toList)&&(!y.aLb||(!y.aLK|| !x.aLK))
def aEc(l:List M.vE)(x:M.vE):Bool:= !(l.any (aEy x))
theorem aEJ{α:Type}(n a b c:Bool)(p q:α):(if n=true then if(!a)=true then p else if(!b)=true then p else if(!c)=true then p else q else q)=if(n&&(!a||(!b|| !c)))=true then p else q:=by cases n<;>cases a<;>cases b<;>cases c<;>rfl
theorem Xi{l:List M.vE}{n:Nat}{x:M.vE}(I:l.length<=maxLen)(U:n<=l.length):DE l n x=some (aEc (l.take n) x):=by
 have J:=aZ I
 have C:(l.take n).length=n:=by simp;omega
 unfold DE aEc
 rw[oQ (xs:=l.take n) (L:=rA l n x) (f:=aEy x) (A:=λ_=>some false) (E:=some true) (by rw[C];omega) (λm k hk=> ?_) (λm=> ?_),VH]
 ·cases (l.take n).any (aEy x)<;>rfl
 ·have j:k<n:=by omega
  simp only[rA]
  rw[jF (by simpa using j),aK (show k<l.length by omega),qA,bM wg,aEJ,List.getElem_take]
  rfl
 ·rw[C];simp only[rA];rw[jG wb]
def nGr(l:List M.vE)(k:Nat):List M.vE:=match l[k]? with
 |some x=>if x.aLb=true then l else if aEc (l.take k) x=true then l.set k ⟨x.Name,x.bK,x.aLK,true⟩else l
 |none=>l
theorem aDh{l:List M.vE}{k:Nat}(h:k<l.length):nGr l k=if l[k].aLb=true then l else if aEc (l.take k) l[k]=true then l.set k ⟨l[k].Name,l[k].bK,l[k].aLK,true⟩else l:=by unfold nGr;rw[qF h]
theorem aCp(l:List M.vE)(k:Nat):(nGr l k).length=l.length:=by unfold nGr;grind
def SF(l:List M.vE):List M.vE:=(List.range l.length).foldl nGr l
theorem Yd{N:Nat}{L:Nat->Int->List M.vE->Option M.aW}(U:N<=maxLen)(h1:∀n (r:List M.vE) (k:Nat),k<N->r.length=N->L (n+1) k r=L n ((k+1:Nat)) (nGr r k))(h2:∀n (r:List M.vE),r.length=N->L (n+1) N r=some ⟨r⟩)(l:List M.vE)(J:l.length=N):
  L aJ 0 l=some ⟨SF l⟩:=by
 have C:(List.range N).length=N:=List.length_range
 have:=Qa (xs:=List.range N) (L:=λn k r=>L n k r) (step:=nGr) (I:=λk r=>r.length=N) (E:=λr=>some ⟨r⟩) (by rw[C];exact U) (λs k hk j=>(aCp s _).trans j) (λn s k hk j=>by rw[List.getElem_range];exact h1 n s k (by rw[C]at hk;exact hk) j) (λn s j=>by rw[C];exact h2 n s j) l J
 unfold SF
 simp_all
theorem MY{t:M.aW}(J:t.aKu.length<=1500000)(I:M.aW.sz t<=1073741824):xO t=some ⟨SF t.aKu⟩:=by
 unfold xO
 rw[J9 t I,qA]
 refine Yd (N:=t.aKu.length) (L:=fV) wD (λn r k hk C=> ?_) (λn r C=> ?_) t.aKu rfl
 ·have j:k<r.length:=by omega
  simp only[fV]
  rw[jF (bE j),aK j,qA,bM wg,Xi wD wg,qA,qH,aDh j]
  cases r[k].aLb
  ·cases aEc (r.take k) r[k]<;>rfl
  ·rfl
 ·simp only[fV];rw[<-C,jG wb]
def YW(t:M.aW)(p:Int):M.aW:=⟨SF (t.aKu.filter λx=>x.bK !=p)⟩
theorem aCD{t:M.aW}(p:Int):M.aW.sz ⟨t.aKu.filter λx=>x.bK !=p⟩<=M.aW.sz t:=by have h4:=List.length_filter_le (λx:M.vE=>x.bK !=p) t.aKu;have h5:=Na (f:=M.vE.sz) (λx:M.vE=>x.bK !=p) t.aKu;simp only[M.aW.sz];omega
theorem Ku{t:M.aW}{p:Int}(j:t.aKu.length<=1500000)(C:M.aW.sz t<=1073741824):yC t p=some (YW t p):=by have h4:=List.length_filter_le (λx:M.vE=>x.bK !=p) t.aKu;have h5:=aCD (t:=t) p;unfold yC YW;rw[Pw (xs:=t.aKu) (L:=fN t p) (b:=32) (f:=λx:M.vE=>x.bK !=p) (E:=λr=>(xO ⟨r⟩).bind λx=>some x) wD wg (λn r k hk=> ?_) (λn r=> ?_)];(rw[MY (by simpa using qh h4 j) wg,qA]);(simp only[fN];rw[jF (bE hk),aK hk,qA,bM wg]);·simp only[fN];rw[jG wb]
def VN(x:M.aKp)(p:Int):M.aKp:=⟨x.aLJ.filter λm=>m.To !=p⟩
theorem NS{x:M.aKp}{p:Int}(j:x.aLJ.length<=1500000):Dj x p=some (VN x p):=by refine Pw (xs:=x.aLJ) (L:=kK x p) (b:=24) (f:=λm:M.Eb=>m.To !=p) (E:=λr=>some ⟨r⟩) wD wg (λn r k hk=> ?_) (λn r=> ?_);(simp only[kK];rw[jF (bE hk),aK hk,qA,bM wg]);·simp only[kK];rw[jG wb]
theorem Wf{s:M.aC}{b:M.aKe}(j:(Ij s b).2=true):(Ij s b).1=⟨Ef s b⟩/\uA ⟨Ef s b⟩=true:=by unfold Ij Kr at j⊢;grind
theorem Wg(b:M.aKe):nAt b.aKl b.Top b=true:=by unfold nAt;simp
theorem Th(s:M.aC)(b:M.aKe):∃j:Nat,gJ (nAt b.aKl b.Top) (Ef s b)=j/\(Ef s b)[j]? =some b:=by unfold Ef;by_cases h:gJ (nAt b.aKl b.Top) s.aKf>=0;(obtain⟨k,e,hk⟩:=cT (show ¬gJ (nAt b.aKl b.Top) s.aKf<0 by omega);rw[e,qH];exact⟨k,JG e (Wg b)⟩);·rw[jG h];exact⟨Xn s b,RD (RN s b) (FQ wg) (Wg b)⟩
theorem aDC{s:M.aC}(h:uA s=true){x:M.aKe}{j:Nat}(I:s.aKf[j]? =some x):xW x=true:=by unfold uA at h;rw[qM,qR]at h;obtain⟨C,_⟩:=qe.1 I;have:=h.1 j (qS.2 C);unfold G9 at this;simp_all
theorem aBW{s:M.aC}{b:M.aKe}(C:M.aC.sz s<=1500000)(J:M.aKc.sz b.bJ.aK1<=1500000):∀x∈(Ij s b).1.aKf,M.aKc.sz x.bJ.aK1<=1500000:=by
 have j:∀x∈s.aKf,M.aKc.sz x.bJ.aK1<=1500000:=λx I=>AW (XW C x I)
 unfold Ij Kr
 split
 ·split;(exact Pr C J);·exact j
 ·exact j
theorem aAG(p:M.bK)(f:ByteArray)(x:M.aKo):(Eh p f x).1.Id=p.Id:=by unfold Eh;split;(rfl);·split;(rfl);·split;(split<;>rfl);·rfl
theorem YY{w:M.aE}{B:M.aKe}{p:M.bK}{f:ByteArray}{k:Nat}(hw:w.ok)(J:B.ok)(hz:M.aE.sz w<=1500000)(hk:k<w.aK0.length)(I:F8 p.aKl=k)(U:(Ij w.aC B).2=true)(e:nAt p.aKl p.Top=nAt B.aKl B.Top):
  gC ⟨w.Now,w.aK4,w.aKk,(Ij w.aC B).1,w.aKq,w.aKn,w.aKu,w.aKp,w.aK0,w.aKr⟩ p f=lY B.aKi w.aK0[k] p.aKb f w.aK4:=by
 have C:=TY hw.aC J (DF hz)
 obtain⟨j,e1,e2⟩:=Th w.aC B
 rw[(Wf U).1]at C⊢
 unfold gC
 rw[lF C,qA,CD,qA,e,I]
 rw[e1,jG wb,jG wb]
 rw[aD4 e2,qA,aK hk,qA]
 cases lY B.aKi w.aK0[k] p.aKb f w.aK4<;>rfl
def oS(w:M.aE)(B:M.aKe)(k:Nat)(a b:ByteArray)(l:List M.aY):Option (M.aE×Int×Bool):=(hU w.aC B).bind λj=>(idx w.aK0 k).bind λU=>(sC B.aKd U w.aK4).bind λaj=>(mU w.aKn a b aj l).bind λC=>if(!j.2)=true then some (w,0,false)else if(!C.2)=true then some (w,0,false)else(gC ⟨w.Now,w.aK4,w.aKk,j.1,w.aKq,w.aKn,w.aKu,w.aKp,w.aK0,w.aKr⟩ C.1 ⟨#[105,110,100,101,120]⟩).bind λak=>(kI C.1 ⟨#[105,110,100,101,120]⟩ ak).bind λI=>(app 144 w.aKq ([I.1])).bind λal=>if(!I.2)=true then some (w,0,false)else(mO ⟨w.Now,w.aK4,w.aKk,j.1,w.aKq++[I.1],i64.wrap (w.aKn+1),w.aKu,w.aKp,w.aK0,w.aKr⟩).bind λJ=>if(!J)=true then some (w,0,false)else some (⟨w.Now,w.aK4,w.aKk,j.1,w.aKq++[I.1],i64.wrap (w.aKn+1),w.aKu,w.aKp,w.aK0,w.aKr⟩,C.1.Id,true)
def WC(w:M.aE)(B:M.aKe)(a b:ByteArray)(l:List M.aY)(p:M.bK)(R:M.aE×Int×Bool):Prop:=Dz w=true/\Dz R.1=true/\(Ij w.aC B).2=true/\nAt a b=nAt B.aKl B.Top/\R.1=⟨w.Now,w.aK4,w.aKk,(Ij w.aC B).1,w.aKq++[p],i64.wrap (w.aKn+1),w.aKu,w.aKp,w.aK0,w.aKr⟩/\R.2.1=w.aKn/\R.2.2=true/\M.bK.ok p/\M.bK.sz p<=a.size+b.size+(l.length+dO M.aY.sz l)+10/\p.Id=w.aKn/\p.aKl=a/\p.Top=b/\p.aT=[⟨⟨#[105,110,100,101,120]⟩,p.aKb⟩]
def aD9(w:M.aE)(q:M.aKe):M.aKe:=⟨q.aKl,q.Top,q.aKd,q.aKi,q.bJ,q.aH,w.Now,q.aK9⟩
def aD2(w:M.aE)(a b:ByteArray)(d:Int):M.aKe:=⟨(FL a b d).1.aKl,(FL a b d).1.Top,(FL a b d).1.aKd,(FL a b d).1.aKi,(FL a b d).1.bJ,(FL a b d).1.aH,w.Now,(FL a b d).1.aK9⟩
def aC3(w:M.aE)(a b:ByteArray)(B:M.aKe):Prop:=(∃j:Nat,∃C:j<w.aC.aKf.length,gJ (nAt a b) w.aC.aKf=j/\B=aD9 w w.aC.aKf[j])\/(∃d,inI d/\B=aD2 w a b d)
theorem ZC{p:M.bK}{f:ByteArray}{x:M.aKo}(h:(Eh p f x).2=true):(Eh p f x).1=Gt p f x.aKb/\x.aKb=p.aKb:=by unfold Eh at h⊢;grind
theorem QC{w:M.aE}{B:M.aKe}{k:Nat}{a b:ByteArray}{l:List M.aY}(I:w.ok)(hn:Dz w=true)(hz:M.aE.sz w<=1500000)(ha:a.size<=1500000)(hb:b.size<=1500000)(hl:Fx l)(zl:l.length+dO M.aY.sz l<=1500000)(ek:F8 a=k)(hk:k<w.aK0.length)
  (J:B.ok)(zB:M.aKe.sz B<=6000000)(zD:M.aKc.sz B.bJ.aK1<=1500000)(zC:M.aN.sz B.aKi<=1500000)(H:nAt a b=nAt B.aKl B.Top\/xW B=false):∃R:M.aE×Int×Bool,oS w B k a b l=some R/\(R=(w,0,false) \/∃p,WC w B a b l p R):=by
 have hz':=hz
 simp only[M.aE.sz]at hz'
 have z5:(⟨#[105,110,100,101,120]⟩:ByteArray).size=5:=rfl
 have m5:(⟨#[105,110,100,101,120]⟩:ByteArray).size<=maxLen:=UZ _ wg
 have z2:=dW (f:=M.aKl.sz) (qG hk)
 have ht:=I.aK0.2 _ (qG hk)
 have hv:=aCU (r:=B.aKd) (s:=w.aK0[k]) (o:=w.aK4) J.aKd ht
 obtain⟨r,e1,e3⟩:=PL (c:=B.aKi) (s:=w.aK0[k]) (f:=⟨#[105,110,100,101,120]⟩) (v:=TS B.aKd w.aK0[k] w.aK4) (o:=w.aK4) J.aKi ht hv zC wg wg
 have pk:=Tg (i:=w.aKn) (v:=TS B.aKd w.aK0[k] w.aK4) I.aKn (UZ _ ha) (UZ _ hb) hv hl
 have pz:=Si w.aKn a b (TS B.aKd w.aK0[k] w.aK4) l
 have lk:=RQ (f:=⟨#[105,110,100,101,120]⟩) (x:=r) pk wg m5 e3.aKb
 have lz:=Rl (Fs w.aKn a b (TS B.aKd w.aK0[k] w.aK4) l).1 ⟨#[105,110,100,101,120]⟩ r
 have lid:=aAG (Fs w.aKn a b (TS B.aKd w.aK0[k] w.aK4) l).1 ⟨#[105,110,100,101,120]⟩ r
 have sw:=TY I.aC J (DF hz)
 have sd:=aBW (b:=B) (DF hz) zD
 unfold oS
 rw[Et I.aC J (DF hz) wg zD,aK hk]
 simp only[qA]
 rw[Mo]
 simp only[qA]
 rw[Ib I.aKn (UZ _ ha) (UZ _ hb) hv hl wg]
 simp only[qA]
 cases hP:(Fs w.aKn a b (TS B.aKd w.aK0[k] w.aK4) l).2 with
 |false=>
  simp
 |true=>
  have hpp:Hs (G0 w.aKn a b (TS B.aKd w.aK0[k] w.aK4) l)=true:=by unfold Fs at hP;split at hP;(assumption);·cases hP
  have C:(Fs w.aKn a b (TS B.aKd w.aK0[k] w.aK4) l).1=G0 w.aKn a b (TS B.aKd w.aK0[k] w.aK4) l:=by unfold Fs;rw[jF hpp]
  simp only[qB,qD]
  cases hp:(Ij w.aC B).2 with
  |false=>
   simp
  |true=>
   have e:nAt a b=nAt B.aKl B.Top:=by rcases H with H|H;(exact H);·obtain⟨j,_,e2⟩:=Th w.aC B;have:=aDC (Wf hp).2 e2;rw[H]at this;cases this
   have hA:gC ⟨w.Now,w.aK4,w.aKk,(Ij w.aC B).1,w.aKq,w.aKn,w.aKu,w.aKp,w.aK0,w.aKr⟩ (Fs w.aKn a b (TS B.aKd w.aK0[k] w.aK4) l).1 ⟨#[105,110,100,101,120]⟩=some r:=by rw[YY I J hz hk (by rw[C];exact ek) hp (by rw[C];exact e),C];exact e1
   rw[hA]
   simp only[qA]
   rw[Gq pk wg wg m5 e3.aKb]
   simp only[qA]
   rw[dK jz]
   simp only[qA]
   generalize U:Eh (Fs w.aKn a b (TS B.aKd w.aK0[k] w.aK4) l).1 ⟨#[105,110,100,101,120]⟩ r=X at lk lz
   cases hX:X.2 with
   |false=>
    simp
   |true=>
    simp only[qB,qD]
    have wo:M.aE.ok ⟨w.Now,w.aK4,w.aKk,(Ij w.aC B).1,w.aKq++[X.1],i64.wrap (w.aKn+1),w.aKu,w.aKp,w.aK0,w.aKr⟩:=⟨I.Now,I.aKk,sw,⟨by
     rw[qE]
     exact UZ _ jz,λy hy=>by
     have hy':y∈w.aKq++[X.1]:=hy
     rcases qP.1 hy' with h|h
     ·exact I.aKq.2 y h
     simp_all⟩,bS _,I.aKu,I.aKp,I.aK0,I.aKr⟩
    rw[Jl wo sd]
    simp only[qA]
    generalize hc:Dz _=c
    cases c with
    |false=>
     simp
    |true=>
     simp only[qB,qD]
     obtain⟨y1,y2⟩:=ZC (p:=(Fs w.aKn a b (TS B.aKd w.aK0[k] w.aK4) l).1) (f:=⟨#[105,110,100,101,120]⟩) (x:=r) (by rw[U];exact hX)
     rw[U,C]at y1
     rw[C]at y2
     refine⟨_,rfl,.inr ⟨X.1,hn,hc,hp,e,rfl,?_,rfl,lk,?_,?_,?_,?_,?_⟩⟩
     ·rw[C];rfl
     ·have:=pz.1;omega
     ·rw[y1];rfl
     ·rw[y1];rfl
     ·rw[y1];rfl
     ·rw[y1];rw[y2];rfl
theorem aBi(a b:ByteArray)(d:Int):M.aKe.sz (Lt a b d)<=2*a.size+b.size+1000:=by have h3:(⟨#[97,112,112]⟩:ByteArray).size=3:=rfl;have h5:(⟨#[110,111,116,101,115]⟩:ByteArray).size=5:=rfl;simp only[Lt,M.aKe.sz,M.aKd.sz,M.aN.sz,M.bJ.sz,M.aKc.sz,M.aD.sz,M.aH.sz,M.aK3.sz,M.aO.sz,dO,qJ,qK,h3,h5];omega
theorem aDR{w:M.aE}{a b:ByteArray}{l:List M.aY}(J:w.ok)(hz:M.aE.sz w<=1500000)(ha:a.size<=1500000)(hb:b.size<=1500000)(hl:Fx l)(zl:l.length+dO M.aY.sz l<=1500000):∃R:M.aE×Int×Bool,xR w a b l=some R/\(R=(w,0,false) \/∃B p,aC3 w a b B/\WC w B a b l p R):=by
 have hz':=hz
 simp only[M.aE.sz,M.aC.sz]at hz'
 have no:∃R:M.aE×Int×Bool,some (w,0,false)=some R/\(R=(w,0,false) \/∃B p,aC3 w a b B/\WC w B a b l p R):=⟨(w,0,false),rfl,.inl rfl⟩
 unfold xR Bo
 rw[BX w wg,GV J hz,CD (a:=a),CD (a:=b)]
 simp only[qA]
 cases hn:Dz w with
 |false=>
  simp
 |true=>
  simp only[qB,qD]
  by_cases h1:F8 a<0
  ·simp only[h1,jc];exact no
  by_cases h2:F8 b<0
  ·simp only[h1,h2,qD];exact no
  simp only[h2,qD]
  obtain⟨k,ek,hk⟩:=P9 h1
  have hk':k<w.aK0.length:=by rw[M6 hn];exact hk
  rw[Ir (UZ _ ha) (UZ _ hb) (bS _),lF J.aC]
  simp only[qA,ek]
  by_cases h:gJ (nAt a b) w.aC.aKf<0
  ·have h':¬gJ (nAt a b) w.aC.aKf>=0:=by omega
   simp only[h',jH]
   have hd:=bS (i64.wrap (1000*w.aKk)+w.aKn)
   generalize i64.wrap (i64.wrap (1000*w.aKk)+w.aKn)=d at hd
   have C:=Vw (UZ _ ha) (UZ _ hb) hd
   suffices H:∃R:M.aE×Int×Bool,oS w (aD2 w a b d) k a b l=some R/\(R=(w,0,false) \/∃p,WC w (aD2 w a b d) a b l p R)by obtain⟨R,r1,r3⟩:=H;exact⟨R,r1,r3.imp id λ⟨p,hp⟩=>⟨_,p,.inr ⟨d,hd,rfl⟩,hp⟩⟩
   refine QC (B:=aD2 w a b d) J hn hz ha hb hl zl ek hk' ⟨C.aKl,C.Top,C.aKd,C.aKi,C.bJ,C.aH,J.Now⟩ ?_ ?_ ?_ ?_
   ·have:=aBi a b d;show M.aKe.sz (FL a b d).1<=_;unfold FL;split;(split;(show M.aKe.sz (Lt a b d)<=_;omega);·decide);·decide
   ·show M.aKc.sz (FL a b d).1.bJ.aK1<=_;unfold FL;split;(split;(exact U4 a b d);·decide);·decide
   ·show M.aN.sz (FL a b d).1.aKi<=_;unfold FL;split;(split;(show M.aN.sz ⟨[]⟩<=1500000;decide);·decide);·decide
   ·unfold aD2
    have z:∀n p,xW ⟨Hk.aKl,Hk.Top,Hk.aKd,Hk.aKi,Hk.bJ,Hk.aH,n,p⟩=false:=λ_ _=>rfl
    unfold FL
    split
    ·split;(exact .inl rfl);·exact .inr (z _ _)
    ·exact .inr (z _ _)
  ·obtain⟨j,ej,hj⟩:=cT h
   have h':gJ (nAt a b) w.aC.aKf>=0:=by omega
   simp only[h',qD]
   rw[ej,aK hj]
   simp only[qA]
   have I:=J.aC.aKf.2 _ (qG hj)
   have z1:=dW (f:=M.aKe.sz) (qG hj)
   obtain⟨_,U⟩:=pY ej
   generalize hqe:w.aC.aKf[j]=q at I z1 U
   have zq:M.aKe.sz q<=1500000:=by omega
   have z3:M.aN.sz q.aKi<=M.aKe.sz q:=by simp only[M.aKe.sz];omega
   rw[Aw q wg]
   simp only[qA]
   suffices H:∃R:M.aE×Int×Bool,oS w (aD9 w q) k a b l=some R/\(R=(w,0,false) \/∃p,WC w (aD9 w q) a b l p R)by obtain⟨R,r1,r3⟩:=H;exact⟨R,r1,r3.imp id λ⟨p,hp⟩=>⟨_,p,.inl ⟨j,hj,ej,by rw[hqe]⟩,hp⟩⟩
   refine QC (B:=aD9 w q) J hn hz ha hb hl zl ek hk' ⟨I.aKl,I.Top,I.aKd,I.aKi,I.bJ,I.aH,J.Now⟩ ?_ (AW zq) (by show M.aN.sz q.aKi<=_;omega) (.inl ?_)
   ·show M.aKe.sz q<=_;omega
   ·funext x;unfold nAt at U⊢;rw[qM]at U;show(_&&_)=((x.aKl.toList==q.aKl.toList)&&(x.Top.toList==q.Top.toList));rw[eq_of_beq U.1,eq_of_beq U.2]
def aDr(w:M.aE)(i:Int)(R:M.aE×Bool):Prop:=((Dz w=false\/Lj w i<0)/\R=(w,false))\/(Dz w=true/\∃k:Nat,k<w.aKq.length/\Lj w i=k/\R=((⟨w.Now,w.aK4,w.aKk,w.aC,w.aKq.take k++w.aKq.drop (k+1),w.aKn,YW w.aKu i,VN w.aKp i,w.aK0,w.aKr⟩,true)))
theorem aAk{w:M.aE}{i:Int}(C:w.ok)(I:M.aE.sz w<=1500000):∃R:M.aE×Bool,yU w i=some R/\aDr w i R:=by
 have j:=I
 simp only[M.aE.sz]at j
 have J:w.aKu.aKu.length<=M.aW.sz w.aKu:=by simp only[M.aW.sz];omega
 have U:w.aKp.aLJ.length<=M.aKp.sz w.aKp:=by simp only[M.aKp.sz];omega
 unfold yU
 rw[BX w wg,qA,H6 C,qA,GV C I,qA]
 cases hn:Dz w with
 |false=>exact⟨(w,false),wb,.inl ⟨.inl hn,rfl⟩⟩
 |true=>
  simp only[qB,qD]
  by_cases h:Lj w i<0
  ·simp only[h,jc];exact⟨(w,false),rfl,.inl ⟨.inr h,rfl⟩⟩
  ·obtain⟨k,e,hk⟩:=cT (show ¬gJ (λp:M.bK=>p.Id==i) w.aKq<0 from h);simp only[h,qD];rw[show Lj w i=k from e,Ew wg,qA,bM wg,Ob wg,qA,qH,qH,dK (by simp only[qV,qW];omega),qA,Ku wg wg,qA,NS wg];simp only[qA];exact⟨(⟨w.Now,w.aK4,w.aKk,w.aC,w.aKq.take k++w.aKq.drop (k+1),w.aKn,YW w.aKu i,VN w.aKp i,w.aK0,w.aKr⟩,true),rfl,.inr ⟨hn,k,hk,e,rfl⟩⟩
theorem JJ{α:Type}{f:α->Nat}{x:α}:∀{l:List α} {i:Nat} (h:i<l.length),dO f (l.set i x)+f l[i]=dO f l+f x
 |[],_,h=>absurd h wb
 |y::l,0,_=>by simp only[List.set_cons_zero,dO,List.getElem_cons_zero];omega
 |y::l,i+1,h=>by have:=JJ (f:=f) (x:=x) (l:=l) (i:=i) wM;simp only[List.set_cons_succ,dO,List.getElem_cons_succ];omega
def bkJ(x:M.aKe):Prop:=x.aKl.size<=16/\x.Top.size<=16/\M.aKe.ok x/\LG x.bJ
def stG(m Z:Nat)(s:M.aC):Prop:=s.aKf.length<=m/\(∀b∈s.aKf,bkJ b)/\dO M.aKe.sz s.aKf<=Z
theorem stG.mono{m n Y Z:Nat}{s:M.aC}(h:stG m Y s)(h1:m<=n)(h2:Y<=Z):stG n Z s:=⟨qh h.1 h1,h.2.1,qh h.2.2 h2⟩
theorem stN.G{s:M.aC}(h:stN 4 s):stG 4 720000 s:=by
 have h1:=eN (w:=M.aKe.sz) (b:=180000) (xs:=s.aKf) λb hb=>(h.2 b hb).sz
 have h2:=h.1
 exact⟨h2,λb hb=>⟨(h.2 b hb).1,(h.2 b hb).2.1,(h.2 b hb).ok,(h.2 b hb).2.2.2.2.1.2.2⟩,wg⟩
theorem stG.ok{m Z:Nat}{s:M.aC}(h:stG m Z s)(j:m<=1000):s.ok:=⟨⟨ml (by have:=h.1;omega),λb hb=>(h.2.1 b hb).2.2.1⟩⟩
theorem aCr{m Z c:Nat}{s:M.aC}{b:M.aKe}(h:stG m Z s)(hb:bkJ b)(hc:M.aKe.sz b<=c):stG (m+1) (Z+c) (Ij s b).1:=by have C:=Of s b;have I:=aBX s b;obtain⟨h1,h2,h3⟩:=h;unfold Ij Kr;split;(split;(refine⟨wH,λx j=> ?_,wH⟩;rcases L4 j with rfl|j;(exact hb);simp_all);·exact⟨by show s.aKf.length<=_;omega,h2,by show dO M.aKe.sz s.aKf<=_;omega⟩);·exact⟨wa,h2,wa⟩
theorem aC4{m Z c j:Nat}{s:M.aC}{b:M.aKe}(h:stG m Z s)(hb:bkJ b)(J:j<s.aKf.length)(e:gJ (nAt b.aKl b.Top) s.aKf=j)(hc:M.aKe.sz b<=M.aKe.sz s.aKf[j]+c):stG m (Z+c) (Ij s b).1:=by
 have I:Ef s b=s.aKf.set j b:=by unfold Ef;rw[e,jF wg,qH]
 have U:=JJ (f:=M.aKe.sz) (x:=b) J
 obtain⟨h1,h2,h3⟩:=h
 unfold Ij Kr
 rw[I]
 split
 ·split;(refine⟨by rw[qN];exact h1,λx C=> ?_,wH⟩;rcases jE C with C|rfl;(exact h2 x C);·exact hb);·exact⟨h1,h2,by show dO M.aKe.sz s.aKf<=_;omega⟩
 ·exact⟨h1,h2,wa⟩
def wdG(m n Z:Nat)(w:M.aE):Prop:=inI w.Now/\inI w.aKk/\stG m Z w.aC/\(w.aKq.length<=n/\∀p∈w.aKq,aAu p)/\inI w.aKn/\(w.aKu.aKu=[])/\(w.aKp.aLJ=[])/\(w.aK0.length<=3/\(∀s∈w.aK0,M.aKl.ok s/\M.aKl.sz s<=100))/\(w.aKr.length<=3/\∀s∈w.aKr,Xy s)
theorem wdG.mono{m n Z I J j:Nat}{w:M.aE}(h:wdG m n Z w)(h1:m<=I)(h2:n<=J)(h3:Z<=j):wdG I J j w:=by obtain⟨U,a2,a3,C,a5⟩:=h;exact⟨U,a2,a3.mono h1 h3,⟨qh C.1 h2,C.2⟩,a5⟩
theorem wdG.ok{m n Z:Nat}{w:M.aE}(h:wdG m n Z w)(C:m<=1000)(I:n<=1000):M.aE.ok w:=by obtain⟨h1,h2,h3,h4,h5,h6,h7,h8,h9⟩:=h;exact⟨h1,h2,h3.ok C,⟨ml wg,λp j=>(h4.2 p j).1⟩,h5,⟨by rw[h6];simp[maxLen],by rw[h6];simp⟩,⟨by rw[h7];simp[maxLen],by rw[h7];simp⟩,⟨ml wg,λp j=>(h8.2 p j).1⟩,⟨ml wg,λp j=>(h9.2 p j).1⟩⟩
theorem wdG.sz{m n Z:Nat}{w:M.aE}(h:wdG m n Z w):M.aE.sz w<=m+Z+2001*n+90400:=by
 obtain⟨h1,h2,h3,h4,h5,h6,h7,h8,h9⟩:=h
 have j:=eN (w:=M.bK.sz) (b:=2000) (xs:=w.aKq) λb hb=>(h4.2 b hb).2
 have C:=eN (w:=M.aKl.sz) (b:=100) (xs:=w.aK0) λb hb=>(h8.2 b hb).2
 have I:=eN (w:=M.aKt.sz) (b:=30000) (xs:=w.aKr) λb hb=>(h9.2 b hb).2
 have J:=h3.1
 have U:=h3.2.2
 simp only[M.aE.sz,M.aC.sz,M.aW.sz,M.aKp.sz,h6,h7,dO,qK]
 omega
def lit(m n Z:Nat):Prop:=m<=20/\n<=20/\Z<=800000
theorem wdG.ok'{m n Z:Nat}{w:M.aE}(h:wdG m n Z w)(j:lit m n Z):M.aE.ok w:=h.ok (by have:=j.1;omega) (by have:=j.2.1;omega)
theorem wdG.sz'{m n Z:Nat}{w:M.aE}(h:wdG m n Z w)(j:lit m n Z):M.aE.sz w<=1500000:=by have:=h.sz;have:=j.1;have:=j.2.1;have:=j.2.2;omega
theorem aFI{d:Int}:wdG 0 0 0 (Xq d):=by
 obtain⟨j,C,a3,I,J,U,a7,a8,a9⟩:=aD5 (d:=d)
 have e:(Xq d).aC.aKf=[]:=by unfold Xq;split<;>rfl
 exact⟨j,C,⟨by rw[e];simp,by rw[e];simp,by rw[e];simp[dO]⟩,I,J,U,a7,a8,a9⟩
theorem Zp{m n Z:Nat}{w:M.aE}{a t:ByteArray}{l:List M.aY}(h:wdG m n Z w)(hm:lit m n Z)(ha:a.size<=16)(ht:t.size<=16)(hl:Ep l):∃R,xR w a t l=some R/\((wdG (m+1) (n+1) (Z+1100) R.1/\R.1.aK0=w.aK0/\R.1.aKr=w.aKr)/\(R=(w,0,false) \/∃B p,aC3 w a t B/\WC w B a t l p R)):=by
 have hsc:=S8 hl
 obtain⟨R,e1,hR⟩:=aDR (h.ok' hm) (h.sz' hm) (a:=a) (b:=t) (l:=l) wg wg (Pd hl) wg
 refine⟨R,e1,?_,hR⟩
 rcases hR with rfl|⟨B,p,hB,hF⟩
 ·exact⟨h.mono wg wg wg,rfl,rfl⟩
 ·obtain⟨_,_,_,hat,e,_,_,pk,pz,_⟩:=hF
  obtain⟨U,a2,a3,a4,a5,a6,a7,a8,a9⟩:=h
  have hst:stG (m+1) (Z+1100) (Ij w.aC B).1:=by
   rcases hB with⟨j,hj,ej,rfl⟩|⟨d,hd,rfl⟩
   ·have C:=a3.2.1 _ (qG hj);refine(aC4 (c:=0) a3 (b:=aD9 w w.aC.aKf[j]) ⟨C.1,C.2.1,⟨C.2.2.1.aKl,C.2.2.1.Top,C.2.2.1.aKd,C.2.2.1.aKi,C.2.2.1.bJ,C.2.2.1.aH,U⟩,C.2.2.2⟩ hj (by rw[<-hat];exact ej) (qg _)).mono wg wg
   ·have ok:=Vw (s16 ha) (s16 ht) hd
    have I:(FL a t d).1.aKl.size<=16/\(FL a t d).1.Top.size<=16/\M.aKe.sz (FL a t d).1<=1100/\LG (FL a t d).1.bJ:=by have:=aBi a t d;unfold FL;split;(split;(exact⟨ha,ht,by show M.aKe.sz (Lt a t d)<=1100;omega,SGo.nil.LG⟩);·exact⟨we,we,we,SGo.nil.LG⟩);·exact⟨we,we,we,SGo.nil.LG⟩
    exact aCr (c:=1100) a3 ⟨I.1,I.2.1,⟨ok.aKl,ok.Top,ok.aKd,ok.aKi,ok.bJ,ok.aH,U⟩,I.2.2.2⟩ I.2.2.1
  rw[e]
  refine⟨⟨U,a2,hst,⟨ju,λy J=> ?_⟩,bS _,a6,a7,a8,a9⟩,rfl,rfl⟩
  rcases qP.1 J with J|J
  ·simp_all
  ·rw[qQ.1 J];exact⟨pk,wg⟩
theorem aBG{m n Z:Nat}{w:M.aE}{i:Int}(h:wdG m n Z w)(C:lit m n Z):∃R,yU w i=some R/\((wdG m n Z R.1/\R.1.aK0=w.aK0/\R.1.aKr=w.aKr)/\(((Dz w=false\/Lj w i<0)/\R=(w,false))\/(Dz w=true/\∃k:Nat,k<w.aKq.length/\Lj w i=k/\R=((⟨w.Now,w.aK4,w.aKk,w.aC,w.aKq.take k++w.aKq.drop (k+1),w.aKn,YW w.aKu i,VN w.aKp i,w.aK0,w.aKr⟩,true))))):=by obtain⟨R,e1,j⟩:=aAk (i:=i) (h.ok' C) (h.sz' C);refine⟨R,e1,?_,j⟩;rcases j with⟨_,rfl⟩|⟨_,k,hk,_,rfl⟩;(simp_all);·obtain⟨I,J,U,a4,a5,a6,a7,a8,a9⟩:=h;refine⟨⟨I,J,U,⟨by simp only[qE,qV,qW];omega,λy hy=> ?_⟩,a5,?_,?_,a8,a9⟩,rfl,rfl⟩;(grind);(show SF (w.aKu.aKu.filter _)=[];rw[a6];rfl);·show w.aKp.aLJ.filter _=[];rw[a7];rfl
def wd3(m n Z:Nat)(w:M.aE):Prop:=wdG m n Z w/\w.aK0.length=3/\w.aKr.length=3
theorem wd3.mono{m n Z C I j:Nat}{w:M.aE}(h:wd3 m n Z w)(h1:m<=C)(h2:n<=I)(h3:Z<=j):wd3 C I j w:=⟨h.1.mono h1 h2 h3,h.2⟩
theorem wd3.to{m n Z I J C:Nat}{w v:M.aE}(h:wd3 m n Z w)(j:wdG I J C v/\v.aK0=w.aK0/\v.aKr=w.aKr):wd3 I J C v:=⟨j.1,by rw[j.2.1];exact h.2.1,by rw[j.2.2];exact h.2.2⟩
theorem aBo(k:Nat)(h:k<=1000):i64.wrap (((k+1:Nat))-1)=k:=by rw[eU wg wg];omega
theorem Ty{b:List Int}{i h:Int}(hc:okC b i h):Dr b (λs=>s.size<=16) (C6 ⟨b,i,h⟩):=by exact .bnd (EG (λs=>s.size<=16) we we hc) λi1 J I j C=>.ret j C
theorem Xj{b:List Int}{i h:Int}(c0:okC b i h):Dr b (wd3 4 4 4400) (DG ⟨b,i,h⟩):=by
 refine .bnd (bB c0) λi1 v1 r1 c1 q1=> ?_
 have hr:=q1.2.1 wg
 dsimp only
 rw[O4,qA,eU wg wg]
 have hN:(Xq (1+r1)).aK0.length=3/\(Xq (1+r1)).aKr.length=3:=by unfold Xq;rw[jF wg];exact⟨rfl,rfl⟩
 have hw0:wd3 0 0 0 (Xq (1+r1)):=⟨aFI,hN⟩
 generalize Xq (1+r1)=w0 at hw0
 refine .bnd (bB c1) λi2 v2 r2 c2 q2=> ?_
 obtain⟨N,rfl⟩:=CK q2.1
 have hN4:=q2.2.1 wg
 have key:∀(n k:Nat) (w:M.aE) (ci ch:Int),k<n->k<=4->okC b ci ch->wd3 (4-k) (4-k) (1100*(4-k)) w->Dr b (wd3 4 4 4400) (gP ⟨b,i,h⟩ n k w.Now w.aK4 w.aKk w.aKn ci ch w.aC.aKf w.aKq w.aKu.aKu w.aKp.aLJ w.aK0 w.aKr):=by
  intro n
  induction n with
  |zero=>omega
  |succ n ih=>
   intro k w ci ch hn hk hc C
   simp only[gP]
   cases k with
   |zero=>
    exact .ret hc (C.mono wg wg wg)
   |succ k=>
    have hlit:lit (4-(k+1)) (4-(k+1)) (1100*(4-(k+1))):=⟨wg,wg,wg⟩
    have up:∀{v:M.aE},wd3 (4-(k+1)) (4-(k+1)) (1100*(4-(k+1))) v->wd3 (4-k) (4-k) (1100*(4-k)) v:=λhv=>hv.mono wg wg wg
    have up2:∀{v:M.aE},wd3 (4-(k+1)+1) (4-(k+1)+1) (1100*(4-(k+1))+1100) v->wd3 (4-k) (4-k) (1100*(4-k)) v:=λhv=>hv.mono wg wg wg
    rw[jF (decide_eq_true wg),aBo k wg]
    refine .bnd (bB hc) λi3 v3 r3 c3 q3=> ?_
    split
    ·refine .bnd (bB c3) λi4 v4 r4 c4 I=>.JX (aBG (w:=w) C.1 hlit) λR U=> ?_
     exact ih k R.1 i4 v4 wg wg c4 (up (C.to U.1))
    split
    ·refine .bnd (bB c3) λi4 v4 r4 c4 I=> ?_
     obtain⟨⟨a1,a2⟩,a3⟩:=C
     exact ih k ⟨i64.wrap (w.Now+r4),w.aK4,w.aKk,w.aC,w.aKq,w.aKn,w.aKu,w.aKp,w.aK0,w.aKr⟩ i4 v4 wg wg c4 (up ⟨⟨bS _,a2⟩,a3⟩)
    split
    ·refine .bnd (bB c3) λi4 v4 r4 c4 I=>.bnd (bB c4) λi5 v5 r5 c5 q5=> ?_
     obtain⟨⟨a1,a2,a3,a4,a5,a6,a7,a8,a9⟩,aa,ae⟩:=C
     obtain⟨j,rfl⟩:=CK I.1
     have hj:=I.2.1 wg
     have hj':j<w.aK0.length:=by omega
     rw[aK hj',qA,qH]
     have hs:=a8.2 _ (qG hj')
     refine ih k ⟨w.Now,w.aK4,w.aKk,w.aC,w.aKq,w.aKn,w.aKu,w.aKp,w.aK0.set j ⟨w.aK0[j].Name,i64.wrap (1+r5),w.aK0[j].aLG,w.aK0[j].aLK⟩,w.aKr⟩ i5 v5 wg wg c5 (up ⟨⟨a1,a2,a3,a4,a5,a6,a7,⟨by rw[qN];exact a8.1,λs J=> ?_⟩,a9⟩,by rw[qN];exact aa,ae⟩)
     rcases jE J with J|rfl
     ·exact a8.2 s J
     ·exact⟨⟨hs.1.Name,bS _,hs.1.aLG⟩,hs.2⟩
    ·refine .bnd (Ty c3) λi4 v4 r4 c4 I=>.bnd (Bh c4) λi5 v5 r5 c5 q5=> ?_
     split
     ·refine .bnd (Ty c5) λi6 v6 r6 c6 q6=>.bnd (Kl c6) λi7 v7 r7 c7 q7=>.JX (Zp (w:=w) C.1 hlit I q6 q7) λR U=> ?_
      exact ih k R.1 i7 v7 wg wg c7 (up2 (C.to U.1))
     ·refine .bnd (Kl c5) λi7 v7 r7 c7 q7=>.JX (Zp (w:=w) C.1 hlit I I q7) λR U=> ?_
      exact ih k R.1 i7 v7 wg wg c7 (up2 (C.to U.1))
 exact key aJ N w0 i2 v2 (nB wg) wg c2 (hw0.mono wg wg wg)
def Jh(w:M.aE)(p:M.bK)(n:Int)(f:ByteArray):Int:=match w.aC.aKf[(gJ (nAt p.aKl p.Top) w.aC.aKf).toNat]? with
 |some b=>if gJ (nAt p.aKl p.Top) w.aC.aKf<0 then -1 else if(cY (D9 (zV b.bJ).1 n) f).2=true then if 1000<(cY (D9 (zV b.bJ).1 n) f).1 then 1000 else(cY (D9 (zV b.bJ).1 n) f).1 else -1
 |none=> -1
theorem UG{w:M.aE}(j:M.aE.sz w<=1500000){b:M.aKe}(hb:b∈w.aC.aKf):M.bJ.sz b.bJ<=1500000:=by
 have:=dW (f:=M.aKe.sz) hb
 have h2:M.bJ.sz b.bJ<=M.aKe.sz b:=by simp only[M.aKe.sz];omega
 simp only[M.aE.sz,M.aC.sz]at j
 omega
theorem Je{w:M.aE}{p:M.bK}{n:Int}{f:ByteArray}(I:w.ok)(U:M.aE.sz w<=1500000):mI w p n f=some (Jh w p n f):=by
 unfold mI Jh
 rw[lF I.aC,qA]
 by_cases hf:gJ (nAt p.aKl p.Top) w.aC.aKf<0
 ·rw[jF (by simpa using hf)];split;(rw[jF hf]);·rfl
 ·obtain⟨j,e,C⟩:=cT hf
  have hb:=I.aC.aKf.2 _ (qG C)
  have J:=UG U (qG C)
  rw[jG wX,e,qH,qF C]
  simp only[show ¬(j:Int)<0 from by omega,jH]
  rw[aK C,qA,Im (n:=n) hb.bJ J,qA,tB (RO (FU hb.bJ J).1),qA]
  cases (cY (D9 (zV w.aC.aKf[j].bJ).1 n) f).2 with
  |false=>rfl
  |true=>
   rw[jG wb,jF rfl]
   unfold dS
   generalize (cY (D9 (zV w.aC.aKf[j].bJ).1 n) f).1=v
   by_cases hv:v<1000
   ·rw[jF (by simpa using hv),qA,jG wg]
   ·rw[jG (by simpa using hv),qA];by_cases h2:1000<v;(rw[jF h2]);·rw[jG h2,show v=1000 from by omega]
theorem Jn{w:M.aE}{p:M.bK}{n:Int}{f:ByteArray}(J:w.ok)(hz:M.aE.sz w<=1500000):kT w p n f=some (Jh w p n f):=by unfold kT mJ Jh;rw[xN J.aC,qA];by_cases hf:gJ (nAt p.aKl p.Top) w.aC.aKf<0;(grind);·obtain⟨j,e,C⟩:=cT hf;have hb:=J.aC.aKf.2 _ (qG C);have I:=UG hz (qG C);rw[jG (by simpa using hf),e,qH,qF C];simp only[show ¬(j)<0 from by omega];obtain⟨g,U⟩:=Lv (n:=n) (FU hb.bJ I).1;rw[aK C,qA,qA,jG wb,Gl hb.bJ I,qA,U,qA,mQ (RO (FU hb.bJ I).1),qA];cases (cY (D9 (zV w.aC.aKf[j].bJ).1 n) f).2<;>rfl
theorem ZA{b o:M.aKe}(j:M.aKe.sz b<=1500000)(C:M.aKc.sz o.bJ.aK1<=1500000):M.aKc.sz (Mb b o).1.bJ.aK1<=1500000:=by unfold Mb;split;(split;(exact C);·exact AW j);·exact AW j
def HC(w:M.aE)(b:M.aKe)(ok:Bool):M.aE×Bool:=if ok=true then if(Ij w.aC b).2=true then({ w with aC:=(Ij w.aC b).1 },true)else(w,false)else(w,false)
theorem Wj{w:M.aE}{b:M.aKe}{ok:Bool}(j:w.ok)(hb:b.ok)(C:M.aE.sz w<=1500000):M.aE.ok (HC w b ok).1:=by have h:=TY j.aC hb (DF C);unfold HC;split;(split;(exact⟨j.Now,j.aKk,h,j.aKq,j.aKn,j.aKu,j.aKp,j.aK0,j.aKr⟩);·exact j);·exact j
theorem FA{w:M.aE}{b:M.aKe}{ok:Bool}(j:w.ok)(hb:b.ok)(C:M.aE.sz w<=1500000)(J:M.aKe.sz b<=1073741824)(I:M.aKc.sz b.bJ.aK1<=1500000):sW w b ok=some (HC w b ok):=by unfold sW HC;rw[BX w wg,qA,Et j.aC hb (DF C) J I,qA];cases ok;(simp);·cases (Ij w.aC b).2<;>simp
theorem OC(w:M.aE)(b:M.aKe)(ok:Bool):(HC w b ok).1.aKq=w.aKq:=by unfold HC;grind
def NN(w:M.aE)(p:M.bK)(v:M.aE):Prop:=v.aK0=w.aK0/\v.aKr=w.aKr/\(∀(i:Nat) (b:M.aKe),w.aC.aKf[i]? =some b->nAt p.aKl p.Top b=false->v.aC.aKf[i]? =some b)/\(LGw w->LGw v)
theorem NN.refl(w:M.aE)(p:M.bK):NN w p w:=⟨rfl,rfl,λ_ _ h _=>h,λh=>h⟩
theorem RT{w:M.aE}{b:M.aKe}{j:Nat}{a t:ByteArray}(e:gJ (nAt a t) w.aC.aKf=j)(I:j<w.aC.aKf.length)(h1:b.aKl=w.aC.aKf[j].aKl)(h2:b.Top=w.aC.aKf[j].Top):Ef w.aC b=w.aC.aKf.set j b:=by
 obtain⟨_,C⟩:=pY e
 have e2:nAt b.aKl b.Top=nAt a t:=by unfold nAt at C⊢;rw[qM]at C;rw[h1,h2,eq_of_beq C.1,eq_of_beq C.2]
 unfold Ef
 rw[e2,e,jF wg,qH]
