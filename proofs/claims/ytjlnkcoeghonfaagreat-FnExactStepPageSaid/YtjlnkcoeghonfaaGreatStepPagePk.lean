/-
  Helper text. No conditions.
-/
import Derived.Test.YtjlnkcoeghonfaaGreatStepPagePj
set_option linter.all false
namespace Go.Proofs.YtjlnkcoeghonfaaGreat.gen
open Go Go.Sh
open Go.IntKind (i64)
theorem Gr(x:Int):inI (i64.wrap x):=by unfold inI;rw[IntKind.wrap_i64];omega
theorem Oa{α:Type}{f:α->Nat}{x:α}:∀{l:List α} {i:Nat},bA f (l.set i x)<=bA f l+f x
 |[],_=>by simp[bA]
 |y::l,0=>by simp only[List.set_cons_zero,bA];omega
 |y::l,i+1=>by have:=Oa (f:=f) (x:=x) (l:=l) (i:=i);simp only[List.set_cons_succ,bA];omega
theorem Na{α:Type}{f:α->Nat}:∀(l r:List α),bA f (l++r)=bA f l+bA f r
 |[],r=>by simp[bA]
 |y::l,r=>by simp only[List.cons_append,bA,Na l r];omega
theorem LD{a:ByteArray}:yN a=some (JM a):=by unfold yN;rw[show xG=some wE from rfl,qA];rw[findAll (L:=jT a wE) (f:=λx:ByteArray=>x.toList==a.toList) (A:=λi=>some (i:Int)) (E:=some (-1)) OZ (λm k hk=> ?_) (λm=> ?_),pB];(rfl);(have j:k<3:=hk;simp only[jT];rw[if_pos (bE hk),aH hk,qA,bG jD]);·simp only[jT];rw[if_neg jK]
theorem MO(x:List M.Instr)(j:x.length<=1073741824):zY x=some x:=by unfold zY;rw[JR j jD,qA]
theorem GC(x:M.aJf)(j:M.aJf.sz x<=1073741824):vZ x=some x:=by simp only[M.aJf.sz]at j;unfold vZ;rw[MO _ jD,qA,JR jD jD,qA]
theorem GG(x:M.bD)(j:M.bD.sz x<=1073741824):kH x=some x:=by simp only[M.bD.sz]at j;unfold kH;rw[JR jD jD,qA,GC _ jD,qA]
theorem Oy(x:M.aQ)(j:M.aQ.sz x<=1073741824):AN x=some x:=by simp only[M.aQ.sz]at j;unfold AN;rw[JR jD jD,qA]
theorem OA(x:M.aJp)(j:M.aJp.sz x<=1073741824):AJ x=some x:=by simp only[M.aJp.sz]at j;unfold AJ;rw[JR jD jD,qA]
theorem Ot(x:M.aJj)(j:M.aJj.sz x<=1073741824):CF x=some x:=by simp only[M.aJj.sz]at j;unfold CF;rw[JR jD jD,qA]
theorem On(x:M.aJn)(j:M.aJn.sz x<=1073741824):Cz x=some x:=by simp only[M.aJn.sz]at j;unfold Cz;rw[rJ _ jD,qA,JR jD jD,qA,JR jD jD,qA]
theorem uR(x:M.aJf)(j:M.aJf.sz x<=1073741824):mO x=some x:=by simp only[M.aJf.sz]at j;unfold mO;rw[JR jD jD,qA,JR jD jD,qA]
theorem FX(x:M.bD)(j:M.bD.sz x<=1073741824):iA x=some x:=by simp only[M.bD.sz]at j;unfold iA;rw[JR jD jD,qA,uR _ jD,qA]
theorem MJ(x:M.aQ)(j:M.aQ.sz x<=1073741824):zQ x=some x:=by simp only[M.aQ.sz]at j;unfold zQ;rw[JR jD jD,qA]
theorem Kr(x:M.aJp)(j:M.aJp.sz x<=1073741824):vN x=some x:=by simp only[M.aJp.sz]at j;unfold vN;rw[JR jD jD,qA]
theorem NU(x:M.aJj)(j:M.aJj.sz x<=1073741824):Bp x=some x:=by simp only[M.aJj.sz]at j;unfold Bp;rw[JR jD jD,qA]
theorem LU(x:M.aJn)(j:M.aJn.sz x<=1073741824):xQ x=some x:=by simp only[M.aJn.sz]at j;unfold xQ;rw[iD _ jD,qA,JR jD jD,qA,JR jD jD,qA]
theorem MC(x:List M.bD)(j:x.length+bA M.bD.sz x<=1073741824):zN x=some x:=by
 unfold zN
 exact Ci (xs:=x) (b:=144) (L:=lC x) (E:=some) jD jD (λn r k hk=>by
  have C:=eD (f:=M.bD.sz) (qG hk)
  simp only[lC]
  rw[if_pos (bE hk),aH hk,qA,FX _ jD,qA,bG jD]) (λn r=>by
  simp only[lC]
  rw[if_neg jK])
theorem EG(w:M.World)(C:M.World.sz w<=1073741824):rT w=some w:=by
 simp only[M.World.sz]at C
 have e3:iK w w.aC w.aJu w.aJv w.aJp w.aJ6 fuel 0 ([]:List M.aJn)=some w:=Ci (xs:=w.aJ0) (b:=96) (L:=iK w w.aC w.aJu w.aJv w.aJp w.aJ6) (E:=λr=>some { w with aJ0:=r }) jD jD (λn r k hk=>by
   have j:=eD (f:=M.aJn.sz) (qG hk)
   simp only[iK]
   rw[if_pos (bE hk),aH hk,qA,On _ jD,qA,bG jD]) (λn r=>by
   simp only[iK]
   rw[if_neg jK])
 have e2:iN w w.aC w.aJu w.aJv w.aJp fuel 0 ([]:List M.aJj)=some w:=(Ci (xs:=w.aJ6) (b:=56) (L:=iN w w.aC w.aJu w.aJv w.aJp) (E:=λr=>iK w w.aC w.aJu w.aJv w.aJp r fuel 0 ([]:List M.aJn)) jD jD (λn r k hk=>by
   have j:=eD (f:=M.aJj.sz) (qG hk)
   simp only[iN]
   rw[if_pos (bE hk),aH hk,qA,Ot _ jD,qA,bG jD]) (λn r=>by
   simp only[iN]
   rw[if_neg jK])).trans e3
 have e1:lS w w.aC fuel 0 ([]:List M.bD)=some w:=(Ci (xs:=w.aJu) (b:=144) (L:=lS w w.aC) (E:=λr=>(AN w.aJv).bind λx=>(AJ w.aJp).bind λy=>iN w w.aC r x y fuel 0 ([]:List M.aJj)) jD jD (λn r k hk=>by
   have j:=eD (f:=M.bD.sz) (qG hk)
   simp only[lS]
   rw[if_pos (bE hk),aH hk,qA,GG _ jD,qA,bG jD]) (λn r=>by
   simp only[lS]
   rw[if_neg jK])).trans (by rw[Oy _ jD,qA,OA _ jD,qA];exact e2)
 unfold rT
 rw[GI _ jD,qA]
 exact e1
theorem E5(w:M.World)(j:M.World.sz w<=1073741824):pY w=some w:=by
 simp only[M.World.sz]at j
 have e3:fU w w.aC w.aJu w.aJv w.aJp w.aJ6 fuel 0 ([]:List M.aJn)=some w:=Ci (xs:=w.aJ0) (b:=96) (L:=fU w w.aC w.aJu w.aJv w.aJp w.aJ6) (E:=λr=>some { w with aJ0:=r }) jD jD (λn r k hk=>by
   have C:=eD (f:=M.aJn.sz) (qG hk)
   simp only[fU]
   rw[if_pos (bE hk),aH hk,qA,LU _ jD,qA,bG jD]) (λn r=>by
   simp only[fU]
   rw[if_neg jK])
 have e2:hU w w.aC w.aJu w.aJv w.aJp fuel 0 ([]:List M.aJj)=some w:=(Ci (xs:=w.aJ6) (b:=56) (L:=hU w w.aC w.aJu w.aJv w.aJp) (E:=λr=>fU w w.aC w.aJu w.aJv w.aJp r fuel 0 ([]:List M.aJn)) jD jD (λn r k hk=>by
   have C:=eD (f:=M.aJj.sz) (qG hk)
   simp only[hU]
   rw[if_pos (bE hk),aH hk,qA,NU _ jD,qA,bG jD]) (λn r=>by
   simp only[hU]
   rw[if_neg jK])).trans e3
 unfold pY
 rw[D8 _ jD,qA,MC _ jD,qA,MJ _ jD,qA,Kr _ jD,qA]
 exact e2
theorem T9{a:ByteArray}(h:¬JM a<0):∃k:Nat,JM a=(k:Int)/\k<3:=by obtain⟨k,e,hk⟩:=eN (show ¬mD (λx:ByteArray=>x.toList==a.toList) wE<0 from h);exact⟨k,e,hk⟩
theorem QO{w:M.World}(h:Jn w=true):w.aJ6.length=3:=by unfold Jn at h;rw[qM]at h;simpa using h.1
theorem WI{l:List M.bD}{f:Int}(j:l.length<=maxLen):CI l f=some (mD (λp:M.bD=>p.Id==f) l):=by have C:=le_max j;unfold CI;rw[findAll (L:=nT l f) (f:=λp:M.bD=>p.Id==f) (A:=λi=>some (i:Int)) (E:=some (-1)) j (λm k hk=> ?_) (λm=> ?_),pB];(simp only[nT];rw[if_pos (bE hk),aH hk,qA,bG jD]);·simp only[nT];rw[if_neg jK]
def VT(w:M.World)(f:Int):Int:=mD (λp:M.bD=>p.Id==f) w.aJu
theorem Mg{w:M.World}{f:Int}(j:w.ok):Ad w f=some (VT w f):=by unfold Ad;rw[WI j.aJu.1,qA];rfl
theorem Mo{w:M.World}{f:Int}(j:w.ok):An w f=some (VT w f):=by unfold An;rw[MM (p:=λC=>vO C f) (f:=λp:M.bD=>p.Id==f) j.aJu.1 (λx _=>rfl),qA];rfl
theorem MG{s:M.aO}{v:Int}(j:s.ok):Ao s v=some (mD (λc:M.aJs=>c.aJd==v) s.aJk):=by have C:=le_max j.aJk.1;unfold Ao;rw[findAll (L:=kS s v) (f:=λc:M.aJs=>c.aJd==v) (A:=λi=>some (i:Int)) (E:=some (-1)) j.aJk.1 (λm k hk=> ?_) (λm=> ?_),pB];(simp only[kS];rw[if_pos (bE hk),aH hk,qA,bG jD]);·simp only[kS];rw[if_neg jK]
theorem MB{s:M.aO}{v:Int}(j:s.ok):Am s v=some (mD (λc:M.aJs=>c.aJd==v) s.aJk):=by unfold Am;rw[Ly (f:=λc:M.aJs=>c.aJd==v) j.aJk.1 (λx _=>by simp only[vE]),qA]
def QZ(a b:ByteArray)(x:M.aJo):Bool:=(x.aJj.toList==a.toList)&&(x.aKG.toList==b.toList)
theorem OP{c:M.aJs}{a b:ByteArray}(hc:c.ok):Co c a b=some (mD (QZ a b) c.aJt):=by have j:=le_max hc.aJt.1;unfold Co;rw[findAll (L:=mA c a b) (f:=QZ a b) (A:=λi=>some (i:Int)) (E:=some (-1)) hc.aJt.1 (λm k hk=> ?_) (λm=> ?_),pB];(simp only[mA];rw[if_pos (bE hk),aH hk,qA,bG jD,XU];rfl);·simp only[mA];rw[if_neg jK]
theorem OO{c:M.aJs}{a b:ByteArray}(hc:c.ok):oP c a b=some (mD (QZ a b) c.aJt):=by unfold oP;rw[Gm (f:=QZ a b) hc.aJt.1 (λx _=>by simp only[tU,bY];rfl),qA]
theorem Rh{s:M.aO}{v:Int}{a b:ByteArray}(I:s.ok)(hz:s.sz<=1048576):∃r,xH s v a b=some r/\yG s v a b=some r/\M.aJg.ok r.1:=by
 unfold xH yG cO cP
 rw[MG I,MB I]
 simp only[qA]
 have hnil:M.aJg.ok (⟨4,0,0,([]:List Int),false⟩:M.aJg):=⟨by unfold inI;simp,by unfold inI;simp,by unfold inI;simp,⟨by simp[maxLen],jF⟩⟩
 by_cases h:mD (λc:M.aJs=>c.aJd==v) s.aJk<0
 ·simp only[h,decide_true,if_true];exact⟨_,rfl,rfl,hnil⟩
 ·obtain⟨k,e,hk⟩:=eN h
  simp only[h,decide_false,qD,if_false]
  rw[e,aH hk]
  have hc:=I.aJk.2 _ (qG hk)
  simp only[qA]
  rw[OP hc,OO hc]
  simp only[qA]
  by_cases h2:mD (QZ a b) s.aJk[k].aJt<0
  ·simp only[h2,decide_true,if_true];exact⟨_,rfl,rfl,hnil⟩
  ·obtain⟨j,e2,C⟩:=eN h2
   simp only[h2,decide_false,qD,if_false]
   rw[e2,aH C]
   have J:=hc.aJt.2 _ (qG C)
   have z1:=eD (f:=M.aJs.sz) (qG hk)
   have z2:=eD (f:=M.aJo.sz) (qG C)
   unfold M.aO.sz at hz
   have U:M.aJs.sz s.aJk[k]=s.aJk[k].aJt.length+bA M.aJo.sz s.aJk[k].aJt:=rfl
   have q2:M.aJo.sz s.aJk[k].aJt[j]=s.aJk[k].aJt[j].aJj.size+(s.aJk[k].aJt[j].aKG.size+s.aJk[k].aJt[j].aJg.aKS.length):=rfl
   have hb:(s.aJk[k].aJt[j].aJg.aKS).length<=1048576:=by omega
   simp only[qA,wA,kY,dK]
   rw[eH jE]
   exact⟨_,rfl,rfl,J.aJg⟩
theorem Gk{l:List Int}(j:l.length<=1048576):pT l=some ([(List.length l:Int)]++l.map i64.wrap):=by unfold pT;have:=Sv (b:=8) (xs:=l) (f:=i64.wrap) (L:=gV l) (λn k hk r=> ?_) (λn r=> ?_) fuel 0 ([(List.length l:Int)]) jI jD jE;(simpa using this);(simp only[gV];rw[if_pos (bE hk),aH hk,qA,bG jD]);·simp only[gV];rw[if_neg jK]
theorem Gq{l:List Int}(j:l.length<=1048576):pQ l=some ([(List.length l:Int)]++l.map i64.wrap):=by unfold pQ;have:=Sv (b:=8) (xs:=l) (f:=i64.wrap) (L:=hP l) (λn k hk r=> ?_) (λn r=> ?_) fuel 0 ([(List.length l:Int)]) jI jD jE;(simpa using this);(simp only[hP];rw[if_pos (bE hk),aH hk,qA,bG jD]);·simp only[hP];rw[if_neg jK]
theorem Uc(x:Int):GM x 2147483647=some (RM x):=by
 have e:bB 2147483647 1 1000000000000=some true:=by decide
 unfold GM
 rw[e,qA,if_neg jF,if_neg jF,Xk]
theorem Uy(x:Int):Hc x 2147483647=some (RM x):=by
 have e:aV 2147483647 1 1000000000000=some true:=by decide
 unfold Hc
 rw[e,qA,if_neg jF,if_neg jF,Yi]
theorem NJ{l:List Int}(j:l.length<=maxLen):Ek l=some (Je l):=by have C:=le_max j;unfold Ek Je;refine Jr (L:=vY l) (E:=some) j (λn v k hk=> ?_) (λn v=> ?_) 11;(simp only[vY];rw[if_pos (bE hk),aH hk,qA,Uc,qA,bG jD];rfl);·simp only[vY];rw[if_neg jK]
theorem HJ{k:Int}{l:List Int}(j:l.length<=2000000):uA k l=some (Je (([k]++l)++[k])):=by unfold uA;rw[eH jE,qA,eH jE,qA,NJ (by simp[maxLen];omega),qA]
theorem Nr{l:List Int}(j:l.length<=maxLen):Ep l=some (Je l):=by have C:=le_max j;unfold Ep Je;refine Jr (L:=wB l) (E:=some) j (λn v k hk=> ?_) (λn v=> ?_) 11;(simp only[wB];rw[if_pos (bE hk),aH hk,qA,Uy,qA,bG jD];rfl);·simp only[wB];rw[if_neg jK]
theorem HV{k:Int}{l:List Int}(j:l.length<=2000000):uB k l=some (Je (([k]++l)++[k])):=by unfold uB;rw[eH jE,qA,eH jE,qA,Nr (by simp[maxLen];omega),qA]
def Im(k:Int)(s:ByteArray):Int:=if Je (([k]++([(List.length (bC s):Int)]++(bC s).map i64.wrap))++[k])=0 then 1 else Je (([k]++([(List.length (bC s):Int)]++(bC s).map i64.wrap))++[k])
theorem J7{k:Int}{s:ByteArray}(C:s.size<=1048576):iI k s=some (Im k s):=by have j:=aR s;unfold iI uM Im;rw[Gk jD,qA,HJ jE,qA];have:=Sf (([k]++([(List.length (bC s):Int)]++(bC s).map i64.wrap))++[k]);generalize Je (([k]++([(List.length (bC s):Int)]++(bC s).map i64.wrap))++[k])=h at*;by_cases h0:h=0;(rw[if_neg jE,if_pos h0];rfl);·rw[if_neg h0];by_cases h1:h=1;(rw[if_neg jE,h1];rfl);·rw[if_pos jE];rfl
theorem Kx{k:Int}{s:ByteArray}(C:s.size<=1048576):iQ k s=some (Im k s):=by have j:=aR s;unfold iQ Im;rw[Gq jD,qA,HV jE,qA];generalize Je (([k]++([(List.length (bC s):Int)]++(bC s).map i64.wrap))++[k])=h;by_cases h0:h=0;(rw[if_pos (by simp[h0]),if_pos h0]);·rw[if_neg (by simp[h0]),if_neg h0]
theorem Q3{x:Int}(j:0<=x)(h1:x<2147483647):∀(n:Nat) (v:Int) (r:List Int),tX x n v r=fC x n v r
 |0,_,_=>rfl
 |n+1,v,r=>by simp only[tX,fC,ZE j h1,Q3 j h1 n]
theorem ZZ(x:Int):∃l,fC x fuel 5 ([]:List Int)=some l/\okB l:=by
 have st:∀n (v:Nat) r,r.length<=7->(∀y∈r,0<=y/\y<=255)->v<=5->∃y:Int,(0<=y/\y<=255)/\fC x (n+1) (v:Int) r=fC x n ((v:Int)-1) (r++[y]):=by intro n v r hr hy hv;refine⟨IntKind.u8.wrap (Int.fdiv x (2^(min (i64.wrap (8*(v:Int))).toNat IntKind.i64.bits))),by rw[wrap_u8];omega,?_⟩;simp only[fC];rw[if_pos jF,if_pos (by rw[bK jD jD];simp;omega),eH jE,qA,bK (n:=(v:Int)-1) jD jD]
 have e7:∀n r,fC x (n+1) (-1) r=some r:=by intro n r;simp only[fC];rw[if_neg jG]
 rw[V3]
 obtain⟨x1,j,e1⟩:=st (18446744073709551609+6) 5 [] jF jF jF
 obtain⟨x2,C,e2⟩:=st (18446744073709551609+5) 4 ([]++[x1]) jF (by simpa using j) jF
 obtain⟨x3,I,e3⟩:=st (18446744073709551609+4) 3 ([]++[x1]++[x2]) jF (by simpa using⟨j,C⟩) jF
 obtain⟨x4,J,e4⟩:=st (18446744073709551609+3) 2 ([]++[x1]++[x2]++[x3]) jF (by simpa using⟨j,C,I⟩) jF
 obtain⟨x5,U,e5⟩:=st (18446744073709551609+2) 1 ([]++[x1]++[x2]++[x3]++[x4]) jF (by simpa using⟨j,C,I,J⟩) jF
 obtain⟨x6,b6,e6⟩:=st (18446744073709551609+1) 0 ([]++[x1]++[x2]++[x3]++[x4]++[x5]) jF (by simpa using⟨j,C,I,J,U⟩) jF
 exact⟨_,e1.trans (e2.trans (e3.trans (e4.trans (e5.trans (e6.trans (e7 _ _)))))),by simp[maxLen],by simpa using⟨j,C,I,J,U,b6⟩⟩
theorem Xy{t:M.aJj}{f:ByteArray}{v:Int}(h1:t.Name.size<=1048576)(h2:f.size<=1048576):∃l,DN t f v=some l/\D1 t f v=some l/\okB l:=by unfold DN D1;rw[J7 h1,Kx h1,qA,qA,J7 h2,Kx h2,qA,qA,HJ jF,HV jF,qA,qA];have hb:=Sf (([i64.wrap (1+v)]++[103,Im 107 t.Name,Im 109 f])++[i64.wrap (1+v)]);rw[Q3 hb.1 hb.2];obtain⟨l,e,j⟩:=ZZ (Je (([i64.wrap (1+v)]++[103,Im 107 t.Name,Im 109 f])++[i64.wrap (1+v)]));exact⟨l,e,e,j⟩
theorem Q7{s:M.aJj}(h:Nz s=true):1<=s.aJd/\s.aJd<=1000000000000:=by simp only[Nz,qM,inR,qL]at h;exact h.2.2.1
def Of(s:M.aJj)(v:Int):Bool:=Nz s&&(decide (v>s.aJd-2)&&(decide (v<=s.aJd)&&decide (v>=1)))
theorem PG{s:M.aJj}{v:Int}(j:s.ok):rF s v=some (Of s v):=by
 unfold rF Of
 rw[Hq j,qA]
 cases hn:Nz s with
 |false=>simp
 |true=>
  have C:=Q7 hn
  rw[if_pos rfl,bK (n:=s.aJd-2) jD jD,bK jD jD]
  unfold uM bB
  by_cases h:s.aJd-2+1>1
  ·rw[if_pos (by simpa using h),qA]
   by_cases h1:v>=s.aJd-2+1
   ·rw[if_pos (by simpa using h1),qA]
    have e1:decide (v>s.aJd-2)=true:=by simp;omega
    have e2:decide (v>=1)=true:=by simp;omega
    rw[e1,e2];simp
   ·rw[if_neg (by simpa using h1),qA]
    have e1:decide (v>s.aJd-2)=false:=by simp;omega
    rw[e1];simp
  ·rw[if_neg (by simpa using h),qA]
   by_cases h1:v>=1
   ·rw[if_pos (by simpa using h1),qA]
    have e1:decide (v>s.aJd-2)=true:=by simp;omega
    have e2:decide (v>=1)=true:=by simpa using h1
    rw[e1,e2];simp
   ·rw[if_neg (by simpa using h1),qA]
    have e2:decide (v>=1)=false:=by simpa using h1
    rw[e2];simp
theorem PF{s:M.aJj}{v:Int}(j:s.ok):rG s v=some (Of s v):=by
 unfold rG Of
 rw[Hl j,qA]
 cases hn:Nz s with
 |false=>simp
 |true=>
  have C:=Q7 hn
  rw[if_pos rfl,bK (n:=s.aJd-2) jD jD]
  cases decide (v>s.aJd-2)<;>cases decide (v<=s.aJd)<;>simp
def aAc(s:M.aJj)(f:ByteArray):Bool:=s.aKA.any λx=>x.toList==f.toList
theorem OL{s:M.aJj}{f:ByteArray}(j:s.ok):Cp s f=some (aAc s f):=by have C:=le_max j.aKA.1;unfold Cp aAc;rw[findAll (L:=nX s f) (f:=λx:ByteArray=>x.toList==f.toList) (A:=λ_=>some true) (E:=some false) j.aKA.1 (λm k hk=> ?_) (λm=> ?_),XZ];(cases s.aKA.any (λx=>x.toList==f.toList)<;>rfl);(simp only[nX];rw[if_pos (bE hk),aH hk,qA,bG jD]);·simp only[nX];rw[if_neg jK]
theorem OE{s:M.aJj}{f:ByteArray}(j:s.ok):Cv s f=some (aAc s f):=by have C:=le_max j.aKA.1;unfold Cv pK lT aAc;rw[findAll (L:=cH s.aKA f) (f:=λx:ByteArray=>x.toList==f.toList) (A:=λi=>some (i:Int)) (E:=some (-1)) j.aKA.1 (λm k hk=> ?_) (λm=> ?_),pB,qA,qA,Km];(simp only[cH];rw[if_pos (bE hk),aH hk,qA,bG jD,Bool.beq_comm]);·simp only[cH];rw[if_neg jK]
theorem TH:M.aJg.ok (⟨4,0,0,([]:List Int),false⟩:M.aJg):=⟨by unfold inI;simp,by unfold inI;simp,by unfold inI;simp,⟨by simp[maxLen],jF⟩⟩
theorem SN{s:M.aJj}{f:ByteArray}{v:Int}(j:s.ok)(U:inI v)(zs:M.aJj.sz s<=1048576)(zf:f.size<=1048576):∃r,Ak s f v=some r/\zW s f v=some r/\M.aJg.ok r:=by
 have J:s.Name.size<=1048576:=by simp only[M.aJj.sz]at zs;omega
 obtain⟨l,e1,e2,I⟩:=Xy (t:=s) (f:=f) (v:=v) J zf
 unfold Ak zW cO cP
 rw[Hq j,Hl j,PG j,PF j,OL j,OE j,e1,e2]
 have C:M.aJg.ok (⟨1,404,s.aJd,([]:List Int),false⟩:M.aJg):=⟨by unfold inI;simp,by unfold inI;simp,j.aJd,⟨by simp[maxLen],jF⟩⟩
 simp only[qA]
 cases Nz s
 ·exact⟨_,rfl,rfl,TH⟩
 ·cases Of s v;(exact⟨_,rfl,rfl,C⟩);·cases aAc s f;(exact⟨_,rfl,rfl,C⟩);·exact⟨_,rfl,rfl,⟨by unfold inI;simp,by unfold inI;simp,U,I⟩⟩
theorem PQ{c:M.aO}{s:M.aJj}{f:ByteArray}{v:Int}{o:Bool}(hc:c.ok)(j:s.ok)(C:inI v)(U:c.sz<=1048576)(zs:M.aJj.sz s<=1048576)(zf:f.size<=1048576):∃r,vA c s v f o=some r/\vM c s v f o=some r/\M.aJg.ok r:=by obtain⟨x,e1,e2,I⟩:=Rh (s:=c) (v:=v) (a:=s.Name) (b:=f) hc U;obtain⟨y,e3,e4,J⟩:=SN (f:=f) j C zs zf;unfold vA vM cO cP;rw[e1,e2,e3,e4];simp only[qA];cases x.2;(cases o;(exact⟨_,rfl,rfl,TH⟩);·exact⟨_,rfl,rfl,J⟩);·exact⟨_,rfl,rfl,I⟩
theorem Yr{w:M.World}{p:M.bD}{f:ByteArray}(I:w.ok)(hp:p.ok)(hn:Jn w=true)(hz:M.World.sz w<=1048576)(zf:f.size<=1048576):∃r,tV w p f=some r/\BC w p f=some r/\M.aJg.ok r:=by
 have U:=hz
 simp only[M.World.sz,M.aC.sz]at U
 unfold tV BC kG FA cO cP
 rw[rU I.aC,sH I.aC,LD,GP]
 simp only[qA]
 by_cases h:mD (nAt p.aJj p.Top) w.aC.aJh<0
 ·simp only[h,decide_true,if_true,qA,qC];exact⟨_,rfl,rfl,TH⟩
 ·obtain⟨j,ej,J⟩:=eN h
  simp only[h,decide_false,qD,if_false]
  rw[ej,aH J]
  simp only[qA,qB,qD,if_false]
  by_cases h2:JM p.aJj<0
  ·simp only[h2,decide_true,if_true];exact⟨_,rfl,rfl,TH⟩
  ·obtain⟨k,ek,hk⟩:=T9 h2
   have C:k<w.aJ6.length:=by rw[QO hn];exact hk
   have h3:¬((k:Int)>=(w.aJ6.length:Int)):=by omega
   simp only[h2,decide_false,qD,if_false]
   rw[ek,aH C]
   simp only[h3,decide_false,qD,if_false,qA]
   have hb:=I.aC.aJh.2 _ (qG J)
   have z1:=eD (f:=M.aJa.sz) (qG J)
   have z2:=eD (f:=M.aJj.sz) (qG C)
   have z3:M.aO.sz w.aC.aJh[j].aJk<=M.aJa.sz w.aC.aJh[j]:=by simp only[M.aJa.sz];omega
   obtain⟨r,e1,e2,e3⟩:=PQ (o:=w.aKB) (f:=f) hb.aJk (I.aJ6.2 _ (qG C)) hp.aJd jD jD zf
   rw[e1,e2]
   exact⟨r,rfl,rfl,e3⟩
def HK(p:M.bD)(f:ByteArray)(v:Int):M.bD:=(⟨p.Id,p.aJj,p.Top,p.aJd,p.aJ++[(⟨f,v⟩:M.aJ)],p.aJf⟩:M.bD)
def HF(p:M.bD)(f:ByteArray)(x:M.aJg):M.bD×Bool:=if(x.aKK !=200)=true then(p,false)else if(x.aJd !=p.aJd)=true then(p,false)else if GJ p=true then if GJ (HK p f x.aJd)=true then(HK p f x.aJd,true)else(p,false)else(p,false)
theorem Nl{p:M.bD}{f:ByteArray}{v:Int}(j:p.ok)(hl:p.aJ.length<=4194304)(J:f.size<=maxLen)(U:inI v):(HK p f v).ok:=
 ⟨j.Id,j.aJj,j.Top,j.aJd,⟨by show(p.aJ++_).length<=maxLen;unfold maxLen;simp;omega,λy I=>by have C:y∈p.aJ++[(⟨f,v⟩:M.aJ)]:=I;simp only[qP,qp,qO,or_false]at C;rcases C with I|rfl;(exact j.aJ.2 y I);·exact⟨J,U⟩⟩,j.aJf⟩
theorem Yl{p:M.bD}{f:ByteArray}{x:M.aJg}(j:p.ok)(I:p.aJ.length<=4194304)(C:f.size<=maxLen)(J:inI x.aJd):(HF p f x).1.ok:=by unfold HF;split;(exact j);·split;(exact j);·split;(split;(exact Nl j I C J);·exact j);·exact j
theorem XY(p:M.bD)(f:ByteArray)(x:M.aJg):M.bD.sz (HF p f x).1<=M.bD.sz p+f.size+1:=by
 have h:M.bD.sz (HK p f x.aJd)=M.bD.sz p+f.size+1:=by simp only[HK,M.bD.sz,qE,qJ,qK,Na,bA,M.aJ.sz];omega
 unfold HF
 split
 ·show M.bD.sz p<=_;omega
 ·split;(show M.bD.sz p<=_;omega);·split;(split;(show M.bD.sz (HK p f x.aJd)<=_;omega);·show M.bD.sz p<=_;omega);·show M.bD.sz p<=_;omega
theorem Od{p:M.bD}{f:ByteArray}{x:M.aJg}(j:p.ok)(I:p.aJ.length<=4194304)(hz:M.bD.sz p<=1073741824)(C:f.size<=maxLen)(J:inI x.aJd):Bh p f x=some (HF p f x):=by have e:=Hj (Nl j I C J);unfold HK at e;unfold Bh HF;rw[GG p hz,qA,eH jP,qA,Hj j,qA,e,qA];unfold HK;cases (x.aKK !=200);(cases (x.aJd !=p.aJd);(cases GJ p;(simp);·cases GJ (⟨p.Id,p.aJj,p.Top,p.aJd,p.aJ++[(⟨f,x.aJd⟩:M.aJ)],p.aJf⟩:M.bD)<;>simp);·simp);·simp
theorem NZ{p:M.bD}{f:ByteArray}{x:M.aJg}(j:p.ok)(I:p.aJ.length<=4194304)(hz:M.bD.sz p<=1073741824)(C:f.size<=maxLen)(J:inI x.aJd):Bv p f x=some (HF p f x):=by have e:=Hs (Nl j I C J);unfold HK at e;unfold Bv HF;rw[FX p hz,qA,eH jP,qA,Hs j,qA,e,qA];unfold HK;cases (x.aKK !=200);(cases (x.aJd !=p.aJd);(cases GJ p;(simp);·cases GJ (⟨p.Id,p.aJj,p.Top,p.aJd,p.aJ++[(⟨f,x.aJd⟩:M.aJ)],p.aJf⟩:M.bD)<;>simp);·simp);·simp
