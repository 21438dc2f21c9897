/-
  Helper text. No conditions.
-/
import Derived.Test.YtipmihbgjolaaaaGreatStoragePd6
set_option linter.unusedVariables false
set_option linter.unusedSimpArgs false
namespace Go.Proofs.YtipmihbgjolaaaaGreat.gen
open Go Go.Sh
open Go.IntKind (i64)
theorem MW{b:List Int}{i h n:Int}(hn:0<=n/\n<=1000)(hc:okC b i h):Dr b Ab (uW (⟨b,i,h⟩:M.aO) n):=by
 have e0:(⟨#[]⟩:ByteArray).size<=8:=by decide
 unfold uW
 refine .bnd (aU hc) λi1 v1 r1 c1 q1=>.bnd (aU c1) λi2 v2 r2 c2 q2=> ?_
 dsimp only
 have hr1:=q1.2.1 qc
 have hr2:=q2.2.1 qc
 rw[wrap_small (n:=1+r1) qc qc,wrap_small (n:=n+1) qc qc]
 have U: -1000000000000<=1+r1/\1+r1<=1000000000000:=by omega
 have a2:0<=r2/\r2<=1000000000000:=by omega
 have a0:(0:Int)<=0/\(0:Int)<=1000000000000:=by omega
 have below:∀{m:Int} {f:Int×Int×Int->Option (Int×Int×M.Instr)},(∀i3 J I,okC b i3 J->(0<=I/\I<=1000000000000)->Dr b Ab (f (i3,J,I)))->Dr b Ab ((aJ (⟨b,i2,v2⟩:M.aO) m).bind f):=λhf=>.bnd (aU c2) λi3 J I j C=>hf i3 J I j ⟨C.1,qc⟩
 split
 ·exact below λi3 J I j C=>.ret j (AQ U a2 C e0)
 split
 ·exact below λi3 J I j C=>.ret j (AQ U a2 C e0)
 split
 ·exact below λi3 J I j C=>.ret j (AQ U a2 C e0)
 split
 ·exact below λi3 J I j C=>.ret j (AQ U a0 C e0)
 split
 ·exact .bnd (yM (λs=>s.size<=8) qf qf c2) λi3 J I j C=>.ret j (AQ U a2 a0 C)
 split
 ·exact below λi3 J I j C=>.bnd (wP j) λi4 v4 r4 c4 q4=>.ret c4 (AQ U a2 C q4)
 split
 ·exact below λi3 J I j C=>.bnd (wP j) λi4 v4 r4 c4 q4=>.ret c4 (AQ U a2 C q4)
 split
 ·exact below λi3 J I j C=>.bnd (wP j) λi4 v4 r4 c4 q4=>.ret c4 (AQ U a2 C q4)
 split
 ·exact .ret c2 (AQ U a0 a0 e0)
 ·exact .ret c2 (AQ U a2 a0 e0)
def Ad(l:List M.Instr):Prop:=l.length<=8/\∀x∈l,Ab x
theorem KL{b:List Int}{i h:Int}(hc:okC b i h):Dr b Ad (tN (⟨b,i,h⟩:M.aO)):=by
 unfold tN
 refine .bnd (aU hc) λi1 v1 r1 c1 q1=> ?_
 obtain⟨N,rfl⟩:=xL q1.1
 have hN:=q1.2.1 qc
 refine RR (N:=N) (L:=λn v (s:List M.Instr×Int×Int)=>iM (⟨b,i,h⟩:M.aO) (i1,v1,(N:Int)) n v s.1 s.2.1 s.2.2) (I:=λk s=>okC b s.2.1 s.2.2/\s.1.length=k/\∀x∈s.1,Ab x) (Q:=Dr b Ad) (λn k s hk hi ih=> ?_) (λn s hi=> ?_) fuel 0 (([]:List M.Instr),i1,v1) (jZ qc) qc ⟨c1,rfl,qe⟩
 ·obtain⟨l,ci,ch⟩:=s
  obtain⟨C,U,J⟩:=hi
  simp only at C U J
  simp only[iM]
  rw[if_pos (aY hk)]
  refine .bnd (MW ⟨qc,qc⟩ C) λi3 v3 r3 c3 q3=> ?_
  rw[eJ qt,qA,bN qc]
  refine ih (l++[r3],i3,v3) ⟨c3,by simp[U],λx j=> ?_⟩
  rcases List.mem_append.1 j with j|j
  ·exact J x j
  ·rw[List.mem_singleton.1 j];exact q3
 ·obtain⟨l,ci,ch⟩:=s;obtain⟨C,U,J⟩:=hi;simp only at C U J;simp only[iM];rw[if_neg ql];exact .ret C ⟨qc,J⟩
theorem Kk{l:List M.Instr}(h:Ad l):Br l:=⟨Nat.le_trans h.1 qk,λx j=>(h.2 x j).1⟩
theorem OY{l:List M.Instr}(h:Ad l):l.length+jO M.Instr.sz l<=72:=by
 have C:=GL (c:=M.Instr.sz) (A:=8) (xs:=l) λx j=>(h.2 x j).2
 have I:=h.1
 omega
def DH(p:M.fS):Prop:=M.fS.ok p/\p.bC.length<=3/\M.fS.sz p<=1000
theorem Ow{b:List Int}{i h:Int}(hc:okC b i h):Dr b DH (wI (⟨b,i,h⟩:M.aO)):=by
 have fin:∀{L:Nat->Int->Int->ByteArray->ByteArray->Int->Int->Int->Bool->Bool->Int->Int->List M.bC->List M.Instr->List Int->Option (Int×Int×M.fS)} {n:Int} {i1 h1:Int} {p:M.fS},(∀m v a0 a1 a2 a3 a6 a8 a9 ae ci U r0 r1 r2,L (m+1) v a0 a1 a2 a3 a6 a8 a9 ae ci U r0 r1 r2=if(decide (v>0))=true then(rP (⟨b,ci,U⟩:M.aO)).bind λaf=>(oP (⟨a0,a1,a2,a3,r0,(⟨r1,a6,r2,a8,a9,ae⟩:M.Zc)⟩:M.fS) af.2.2 (⟨0,200,a3,([]:List Int),false⟩:M.Y7)).bind λC=>L m (i64.wrap (v-1)) C.1.Id C.1.Zh C.1.Zw C.1.Y2 C.1.Zc.Pc C.1.Zc.ZG C.1.Zc.ZL C.1.Zc.ZM af.1 af.2.1 C.1.bC C.1.Zc.Zz C.1.Zc.ZK else some (ci,U,(⟨a0,a1,a2,a3,r0,(⟨r1,a6,r2,a8,a9,ae⟩:M.Zc)⟩:M.fS)))->
   (0<=n/\n<3)->okC b i1 h1->M.fS.ok p->p.bC.length=0->M.fS.sz p<=200->Dr b DH (L fuel n p.Id p.Zh p.Zw p.Y2 p.Zc.Pc p.Zc.ZG p.Zc.ZL p.Zc.ZM i1 h1 p.bC p.Zc.Zz p.Zc.ZK):=by
  intro L n i1 h1 p hL hn hc hp hl hz
  obtain⟨N,rfl⟩:=xL hn.1
  refine wQ (L:=λm v (s:M.fS×Int×Int)=>L m v s.1.Id s.1.Zh s.1.Zw s.1.Y2 s.1.Zc.Pc s.1.Zc.ZG s.1.Zc.ZL s.1.Zc.ZM s.2.1 s.2.2 s.1.bC s.1.Zc.Zz s.1.Zc.ZK) (I:=λk s=>okC b s.2.1 s.2.2/\M.fS.ok s.1/\s.1.bC.length+k<=3/\M.fS.sz s.1+20*k<=300) (Q:=Dr b DH) (λm k s hi ih=> ?_) (λm s hi=> ?_) fuel N (p,i1,h1) (jZ qc) ⟨hc,hp,by show p.bC.length+N<=3;omega,by show M.fS.sz p+20*N<=300;omega⟩
  ·obtain⟨p,ci,U⟩:=s
   obtain⟨k1,J,k3,k4⟩:=hi
   simp only at k1 J k3 k4
   simp only[hL]
   rw[if_pos (by first|(simp;done)|(simp;omega))]
   refine .bnd (Kl k1) λi3 v3 r3 c3 q3=> ?_
   have hv:inI (⟨0,200,p.Y2,([]:List Int),false⟩:M.Y7).Y2:=J.Y2
   show Dr b DH ((oP p r3 _).bind _)
   rw[Hp J qc qc (zV q3) hv,qA,show i64.wrap (((k+1:Nat):Int)-1)=(k:Int)from by rw[wrap_small qc qc];omega]
   have z:=QO p r3 (⟨0,200,p.Y2,([]:List Int),false⟩:M.Y7)
   refine ih ((Jr p r3 (⟨0,200,p.Y2,([]:List Int),false⟩:M.Y7)).1,i3,v3) ⟨c3,Q7 J qc (zV q3) hv,?_,qh⟩
   have:(Jr p r3 (⟨0,200,p.Y2,([]:List Int),false⟩:M.Y7)).1.bC.length<=p.bC.length+1:=by unfold Jr;split;(show p.bC.length<=_;omega);·split;(show p.bC.length<=_;omega);·split;(split;(simp[DJ]);·show p.bC.length<=_;omega);·show p.bC.length<=_;omega
   dsimp only
   omega
  ·obtain⟨p,ci,U⟩:=s;obtain⟨k1,J,k3,k4⟩:=hi;simp only at k1 J k3 k4;simp only[hL];rw[if_neg qe];exact .ret k1 ⟨J,by show p.bC.length<=3;omega,by show M.fS.sz p<=_;omega⟩
 have page:∀{j v:Int} {s t:ByteArray} {l:List M.Instr},(0<=j/\j<=1000)->(0<=v/\v<=1000)->s.size<=8->t.size<=8->Ad l->∃r,pM (i64.wrap (1+j)) s t (i64.wrap (1+v)) l=some r/\(M.fS.ok r.1/\r.1.bC.length=0/\M.fS.sz r.1<=200):=by intro j v s t l hj hv hs ht hl;have h1:=OY hl;refine⟨_,FT (cH _) (zV hs) (zV ht) (cH _) (Kk hl) qc,O7 (cH _) (zV hs) (zV ht) (cH _) (Kk hl),?_⟩;have h2:=NA (i64.wrap (1+j)) s t (i64.wrap (1+v)) l;exact⟨h2.2,qc⟩
 unfold wI
 refine .bnd (DM hc) λi1 v1 r1 c1 q1=>.D9 (TH c1 q1) λy hy=>.bnd (aU hy.2) λi4 v4 r4 c4 q4=>.bnd (aU c4) λi5 v5 r5 c5 q5=>.bnd (KL c5) λi6 v6 r6 c6 q6=> ?_
 have z4:=q4.2.1 qc
 have z5:=q5.2.1 qc
 refine .D9 (page ⟨q4.1,qh⟩ ⟨q5.1,qh⟩ q1 hy.1 q6) λr hr=>.bnd (aU c6) λi7 v7 r7 c7 q7=> ?_
 have z7:=q7.2.1 qc
 exact fin (L:=lP (⟨b,i,h⟩:M.aO)) (λ_ _ _ _ _ _ _ _ _ _ _ _ _ _ _=>by simp only[lP]) ⟨q7.1,z7⟩ c7 hr.1 hr.2.1 hr.2.2
def Io(l:List M.fS):Prop:=l.length<=5/\∀p∈l,M.fS.ok p
theorem MP{b:List Int}{i h:Int}(hc:okC b i h):Dr b Io (vA (⟨b,i,h⟩:M.aO)):=by
 unfold vA
 refine .bnd (aU hc) λi1 v1 r1 c1 q1=> ?_
 obtain⟨N,rfl⟩:=xL q1.1
 have hN:=q1.2.1 qc
 refine wQ (L:=λn v (s:List M.fS×Int×Int)=>kO (⟨b,i,h⟩:M.aO) n v s.1 s.2.1 s.2.2) (I:=λk s=>okC b s.2.1 s.2.2/\s.1.length+k<=5/\∀m∈s.1,M.fS.ok m) (Q:=Dr b Io) (λn k s U ih=> ?_) (λn s U=> ?_) fuel N (([]:List M.fS),i1,v1) (jZ qc) ⟨c1,by show 0+N<=5;omega,qe⟩
 ·obtain⟨l,ci,ch⟩:=s
  obtain⟨C,k2,J⟩:=U
  simp only at C k2 J
  simp only[kO]
  rw[if_pos (by first|(simp;done)|(simp;omega))]
  refine .bnd (Ow C) λi3 v3 r3 c3 q3=>.bnd (yM (λs=>s.size<=8) qf qf c3) λi4 v4 r4 c4 q4=>.bnd (yM (λs=>s.size<=8) qf qf c4) λi5 v5 r5 c5 q5=> ?_
  rw[eJ qt,qA,show i64.wrap (((k+1:Nat):Int)-1)=(k:Int)from by rw[wrap_small qc qc];omega]
  refine ih (l++[_],i5,v5) ⟨c5,by show(l++[_]).length+k<=5;simp only[qE,qJ,qK];omega,λm j=> ?_⟩
  rcases List.mem_append.1 j with j|j
  ·exact J m j
  ·rw[List.mem_singleton.1 j];exact⟨cH _,zV q4,zV q5,q3.1.Y2,q3.1.bC,q3.1.Zc⟩
 ·obtain⟨l,ci,ch⟩:=s;obtain⟨C,k2,J⟩:=U;simp only at C k2 J;simp only[kO];rw[if_neg qe];exact .ret C ⟨qc,J⟩
def stN(n:Nat)(s:M.aH):Prop:=s.Y0.length<=n/\∀b∈s.Y0,bkI b
theorem stN.ok{n:Nat}{s:M.aH}(h:stN n s)(C:n<=1000):s.ok:=⟨⟨ml (by have:=h.1;omega),λb j=>(h.2 b j).ok⟩⟩
theorem stN.sz{n:Nat}{s:M.aH}(h:stN n s)(J:n<=5):M.aH.sz s<=900005:=by
 have C:=jW (w:=M.aK.sz) (b:=180000) (xs:=s.Y0) λb j=>(h.2 b j).sz
 have I:=h.1
 simp only[M.aH.sz]
 omega
theorem stN.mono{n m:Nat}{s:M.aH}(h:stN n s)(j:n<=m):stN m s:=⟨by have:=h.1;omega,h.2⟩
theorem TF{n:Nat}{s:M.aH}{b:M.aK}(h:stN n s)(hn:n<=4)(j:bkI b):∃x,kS s b=some x/\stN (n+1) x.1:=by have hz:=h.sz qc;have I:=j.sz;refine⟨_,BN (h.ok qc) j.ok qc qc,?_⟩;have U:=JA s b;have J:=h.1;unfold Ja Ix;split;(split;(refine⟨qh,λx C=> ?_⟩;rcases Hm C with rfl|C;(exact j);·exact h.2 x C);·exact h.mono (Nat.le_succ n));·exact h.mono (Nat.le_succ n)
theorem Fy{b:List Int}{i h:Int}(c0:okC b i h):Dr b (stN 4) (oH (⟨b,i,h⟩:M.aO)):=by
 unfold oH
 refine .bnd (aU c0) λi1 v1 r1 c1 q1=> ?_
 obtain⟨N,rfl⟩:=xL q1.1
 have hN:=q1.2.1 qc
 refine wQ (L:=λn v (s:(M.aH)×Int×Int)=>gM (⟨b,i,h⟩:M.aO) n v s.2.1 s.2.2 s.1.Y0) (I:=λk s=>k<=100000/\okC b s.2.1 s.2.2/\k<=3/\stN (3-k) s.1) (Q:=Dr b (stN 4)) (λn k s hi ih=> ?_) (λn s hi=> ?_) fuel N ((⟨([]:List M.aK)⟩:M.aH),i1,v1) (jZ qc) ⟨qc,c1,⟨qc,qe,qe⟩⟩
 ·obtain⟨x,ci,ch⟩:=s
  obtain⟨k0,J,j⟩:=hi
  dsimp only at J j
  simp only[gM]
  rw[if_pos (Nr k),Gc k0]
  refine .bnd (GB J) λi3 v3 r3 U q3=>.D9 (TF (s:=x) j.2 qc q3.all) λy C=> ?_
  have:=j.1
  exact ih (y.1,i3,v3) ⟨qc,U,qc,C.mono qc⟩
 ·obtain⟨x,ci,ch⟩:=s
  obtain⟨k0,J,j⟩:=hi
  dsimp only at J j
  simp only[gM]
  rw[if_neg F4]
  refine .bnd (xC J) λi3 v3 r3 U q3=> ?_
  have hl:=j.2.1
  dsimp only
  split
  ·refine .bnd (Mh U) λi4 v4 r4 c4 q4=> ?_
   dsimp only
   rw[As qt qc,qA]
   refine .ret c4 ⟨qo,λy C=> ?_⟩
   rcases List.mem_append.1 C with C|C
   ·exact j.2.2 y C
   ·rw[List.mem_singleton.1 C];exact q4
  ·exact .ret U (j.2.mono qc)
theorem QI{j:List Int}(U:j.length<=1048576)(J:∀x∈j,0<=x/\x<=255):∃x,nM j=some x/\stN 4 x.1/\bkI x.2:=by unfold nM;obtain⟨h,e,C⟩:=PD U J;rw[e,qA];obtain⟨i1,v1,r1,e1,I,q1⟩:=Fy C;rw[e1,qA];obtain⟨i2,v2,r2,e2,c2,q2⟩:=Mh I;dsimp only;rw[e2,qA];exact⟨_,rfl,q1,q2⟩
theorem MR{j:List Int}(hl:j.length<=1048576)(U:∀x∈j,0<=x/\x<=255):∃x,lD j=some x/\stN 4 x.1/\x.2.1.length<=5:=by unfold lD;obtain⟨h,e,C⟩:=PD hl U;rw[e,qA];obtain⟨i1,v1,r1,e1,I,q1⟩:=Fy C;rw[e1,qA];obtain⟨i2,v2,r2,e2,J,q2⟩:=MP I;dsimp only;rw[e2,qA];obtain⟨i3,v3,r3,e3,c3,q3⟩:=aU (n:=80) J;dsimp only;rw[e3,qA];exact⟨_,rfl,q1,q2.1⟩
theorem Iq(x:M.aH):IM x x=true:=xT AB _
theorem before_trans{x y z:M.aK}(j:uF x y=true)(C:uF y z=true):uF x z=true:=by
 unfold uF at*
 simp only[Bool.or_eq_true,qM,beq_iff_eq]at j C⊢
 rcases j with j|⟨j,h1'⟩<;>rcases C with C|⟨C,I⟩
 ·exact .inl (CL j C)
 ·exact .inl (by rw[<-C];exact j)
 ·exact .inl (by rw[j];exact C)
 ·exact .inr ⟨j.trans C,CL h1' I⟩
theorem HQ{x y:M.aK}(h:uF x y=true):nAt x.Zh x.Zw y=false/\nAt y.Zh y.Zw x=false:=by unfold uF at h;unfold nAt;simp only[Bool.or_eq_true,qM,beq_iff_eq]at h;rw[Bool.and_eq_false_iff,Bool.and_eq_false_iff];simp only[beq_eq_false_iff_ne];rcases h with h|⟨C,j⟩;(exact⟨.inl λe=>(by rw[e,yH]at h;cases h),.inl λe=>(by rw[e,yH]at h;cases h)⟩);·exact⟨.inr λe=>(by rw[e,yH]at j;cases j),.inr λe=>(by rw[e,yH]at j;cases j)⟩
theorem N2{s:M.aH}(h:pB s=true){k:Nat}(j:k+1<s.Y0.length):uF s.Y0[k] s.Y0[k+1]=true:=by unfold pB at h;rw[qM,qQ]at h;have:=h.1 (k+1) (List.mem_range.2 j);unfold AY at this;rw[qF j,Nat.add_sub_cancel,qF (show k<s.Y0.length by omega)]at this;simp only[Option.any_some,qM]at this;simpa using this.2
theorem Pf{s:M.aH}(h:pB s=true):∀(d i:Nat) (j:i+d+1<s.Y0.length),uF s.Y0[i] s.Y0[i+d+1]=true
 |0,i,j=>N2 h j
 |d+1,i,j=>before_trans (Pf h d i qc) (N2 h (k:=i+d+1) j)
theorem R8{s:M.aH}(h:pB s=true){i j:Nat}(I:i<s.Y0.length)(J:j<s.Y0.length)(C:nAt s.Y0[i].Zh s.Y0[i].Zw s.Y0[j]=true):i=j:=by
 rcases Nat.lt_trichotomy i j with hlt|he|hlt
 ·have:=HQ (Pf h (j-i-1) i qc)
  have e:i+(j-i-1)+1=j:=by omega
  simp only[e]at this
  rw[this.1]at C;cases C
 ·exact he
 ·have:=HQ (Pf h (i-j-1) j qc)
  have e:j+(i-j-1)+1=i:=by omega
  simp only[e]at this
  rw[this.2]at C;cases C
theorem Qt(a:M.aK):nAt a.Zh a.Zw a=true:=by simp[nAt]
theorem Rf{s:M.aH}{b:M.aK}(h:(Ja s b).2=true):(Ja s b).1=(⟨yG s b⟩:M.aH)/\pB (⟨yG s b⟩:M.aH)=true:=by unfold Ja Ix at h⊢;split at h;(rename_i C;rw[if_pos C];split at h;(rename_i j;rw[if_pos j];exact⟨rfl,j⟩);·cases h);·cases h
theorem RX{s:M.aH}{b:M.aK}(h:(Ja s b).2=false):(Ja s b).1=s:=by unfold Ja Ix at h⊢;split;(rename_i j;rw[if_pos j]at h;split;(rename_i C;rw[if_pos C]at h;cases h);·rfl);·rfl
theorem Of{s:M.aH}{a b:M.aK}(J:a∈s.Y0):a∈yG s b\/(nAt a.Zh a.Zw b=true/\b∈yG s b):=by
 unfold yG
 by_cases h:pU (nAt b.Zh b.Zw) s.Y0>=0
 ·obtain⟨j,I,hj⟩:=kI (f:=nAt b.Zh b.Zw) (xs:=s.Y0) qc;obtain⟨_,C⟩:=yJ I;rw[if_pos h,I,qH];obtain⟨i,U,rfl⟩:=List.getElem_of_mem J;by_cases e:i=j;(subst e;refine .inr ⟨?_,List.mem_of_getElem? (i:=i) (by rw[List.getElem?_set];simp[U])⟩;unfold nAt at C⊢;simp only[qM,beq_iff_eq]at C⊢;exact⟨C.1.symm,C.2.symm⟩);·exact .inl (List.mem_of_getElem? (i:=i) (by rw[List.getElem?_set_ne (λhh=>e hh.symm)];exact qF U))
 ·rw[if_neg h]
  have:a∈s.Y0.take (OG s b)++s.Y0.drop (OG s b):=by rw[List.take_append_drop];exact J
  simp only[qP]at this⊢
  rcases this with h|h
  ·exact .inl (.inl h)
  ·exact .inl (.inr (.inr h))
theorem QD{s:M.aH}{a b:M.aK}(hs:pB (⟨yG s b⟩:M.aH)=true)(ha:a∈s.Y0):∃j:Nat,∃U:j<(yG s b).length,pU (nAt a.Zh a.Zw) (yG s b)=(j:Int)/\(nAt a.Zh a.Zw b=false->(yG s b)[j]=a):=by
 have hm:∃c∈yG s b,nAt a.Zh a.Zw c=true:=by rcases Of (b:=b) ha with h|⟨I,h2⟩;(exact⟨a,h,Qt a⟩);·exact⟨b,h2,I⟩
 have hn:¬pU (nAt a.Zh a.Zw) (yG s b)<0:=λhh=>by obtain⟨c,hc,h⟩:=hm;rw[EF hh c hc]at h;cases h
 obtain⟨j,ej,U⟩:=kI hn
 obtain⟨_,J⟩:=yJ ej
 refine⟨j,U,ej,λC=> ?_⟩
 rcases Of (b:=b) ha with h|⟨I,_⟩
 ·obtain⟨i,hi,rfl⟩:=List.getElem_of_mem h;have:=R8 hs (i:=i) (j:=j) hi U J;subst this;rfl
 ·rw[I]at C;cases C
theorem Pe{α:Type}{g:Int->α->Int}{D:Nat}:∀(l:List α) (v:Int),(∀x∈l,∀v:Int,0<=v->v+(D:Int)<=9000000000000000000->v<=g v x/\g v x<=v+(D:Int))->0<=v->v+((D*l.length:Nat):Int)<=9000000000000000000->v<=l.foldl g v/\l.foldl g v<=v+((D*l.length:Nat):Int)
 |[],v,_,_,_=>by simp
 |x::l,v,j,C,J=>by
  have e:D*(x::l).length=D*l.length+D:=by rw[qJ,Nat.mul_succ]
  rw[e]at J⊢
  obtain⟨U,a2⟩:=j x qe v C qc
  obtain⟨b1,b2⟩:=Pe l (g v x) (λy I=>j y (by simp[I])) qc qc
  rw[List.foldl_cons]
  omega
theorem AO{n:Int}(j:0<=n)(C:n<=9000000000000000000):i64.wrap n=n:=bT qc qc
theorem Pt(r:M.aC):Dm r<=300:=by
 unfold Dm
 split
 ·rename_i h
  obtain⟨I,j⟩:=rA h
  have J:=A5 r.Y4.length qc
  have U:=jW (w:=uQ) (b:=40) (xs:=r.Y4) λx C=>by have:=j x C;have h5:=A5 x.Name.size qc;have h6:=A5 x.N.toNat qc;unfold uQ;omega
  omega
 ·omega
theorem O8(k:M.Key):Dc k<=20:=by unfold Dc;split;(rename_i h;have:=Bc h;split<;>omega);·omega
theorem Fx{s:M.aA}(h:s.Y3.length<=1000000):0<=sO s/\sO s<=320000000:=by have:=Pe (g:=B1) (D:=320) s.Y3 0 (λx _ v j J=>by have C:=Pt x.aC;have I:=O8 x.Key;unfold B1;rw[AO qc qc];omega) qc qc;unfold sO;omega
theorem Oo{d:M.YY}(h:d.Y5.length<=100000)(j:∀s∈d.Y5,s.Y3.length<=1000000):0<=nR d/\nR d<=32000000000000:=by have:=Pe (g:=λv s=>i64.wrap (v+sO s)) (D:=320000000) d.Y5 0 (λx C v I U=>by have J:=Fx (j x C);rw[AO qc qc];omega) qc qc;unfold nR;omega
theorem Iu{s:M.aE}(h:M.aE.sz s<=100000):0<=tA s/\tA s<=2000000000000000:=by
 have hl:s.Y1.length<=100000:=by simp only[M.aE.sz]at h;omega
 have:=Pe (g:=λv (c:M.Y6)=>c.Y8.foldl CM v) (D:=20000000000) s.Y1 0 (λc J v I hz=>by
  have hz1:=iE (f:=M.Y6.sz) J
  simp only[M.aE.sz]at h
  have j:M.Y6.sz c<=100000:=by omega
  simp only[M.Y6.sz]at j
  have:=Pe (g:=CM) (D:=200000) c.Y8 v (λx U v I hz=>by
   have C:=iE (f:=M.Zb.sz) U
   simp only[M.Zb.sz,M.Y7.sz]at C
   have h3:0<=B7 x.Y7 (x.Y7.ZC==3)/\B7 x.Y7 (x.Y7.ZC==3)<=200000:=by unfold B7;split;(omega);·rw[AO qc qc];omega
   unfold CM
   rw[AO qc qc]
   omega) I qc
  omega) qc qc
 unfold tA
 omega
theorem IU{b:M.aK}(j:bkI b):0<=Bd b/\Bd b<=3000000000000000:=by
 have C:=j.2.2.2.2.1.2
 have I:=j.2.2.2.2.2.1.2
 have U:=Iu (s:=b.Y1) (by have:=j.2.2.2.1.2;omega)
 simp only[M.bG.sz,M.YY.sz]at C
 have h2:=Oo (d:=b.bG.Zf) qc λs J=>by have:=iE (f:=M.aA.sz) J;simp only[M.aA.sz]at this;omega
 simp only[M.aD.sz,M.Ze.sz,M.aA.sz,M.aF.sz]at I
 have h3:=Fx (s:=b.aD.Zf) qc
 unfold Bd
 rw[AO (n:=nR b.bG.Zf+_) qc qc,AO (n:=40*_) qc qc,AO (n:=tA b.Y1+_) qc qc,AO (n:=_+sO b.aD.Zf) qc qc,AO qc qc]
 omega
def LB:List M.aK->Int
 |[]=>0
 |b::l=>Bd b+LB l
theorem Lj:∀{l:List M.aK},(∀b∈l,bkI b)->l.length<=9->0<=LB l/\LB l<=3000000000000000*(l.length:Int)
 |[],_,_=>by simp[LB]
 |b::l,h,j=>by have I:=IU (h b qe);simp only[qJ]at j⊢;have J:=Lj (l:=l) (λy C=>h y (by simp[C])) qc;simp only[LB];omega
theorem LY:∀{l:List M.aK} {v:Int},(∀b∈l,bkI b)->l.length<=9->0<=v->v<=1000000000000000000->l.foldl (λv b=>i64.wrap (v+Bd b)) v=v+LB l\/v+LB l>1000000000000000000
 |[],v,_,_,_,_=>.inl (by simp[LB])
 |b::l,v,h,C,I,hz=>by have J:=IU (h b qe);simp only[qJ]at C;have U:=Lj (l:=l) (λy j=>h y (by simp[j])) qc;rw[List.foldl_cons,AO qc qc];simp only[LB];by_cases hv:v+Bd b<=1000000000000000000;(have:=LY (l:=l) (v:=v+Bd b) (λy j=>h y (by simp[j])) qc qc hv;rcases this with h|h;(exact .inl (by rw[h];omega));·exact .inr qc);·exact .inr qc
theorem JP{s:M.aH}(h:∀b∈s.Y0,bkI b)(j:s.Y0.length<=9):Mz s=LB s.Y0:=by have C:=Lj h j;rcases LY (v:=0) h j qc qc with h2|h2;(unfold Mz;rw[h2];omega);·omega
theorem Oz(l:List M.fS)(n:Int):∀(xs:List M.aK) (q:List ByteArray×List M.aK),xs.foldl (nEv l n) q=(q.1++(xs.filter λb=>fQ b l n).map Ci,q.2++xs.filter λb=> !fQ b l n)
 |[],q=>by simp
 |x::xs,q=>by rw[List.foldl_cons,Oz l n xs];unfold nEv;cases h:fQ x l n<;>simp[h]
theorem JH{f:M.aK->Bool}:∀{l:List M.aK},(∀b∈l,bkI b)->LB (l.filter f)<=LB l
 |[],_=>Int.le_refl _
 |b::l,h=>by
  have C:=IU (h b qe)
  have I:=JH (f:=f) (l:=l) λy j=>h y (by simp[j])
  rw[List.filter_cons]
  split
  ·simp only[LB];omega
  ·simp only[LB];omega
theorem GI{α:Type}(f:α->Bool):∀(l:List α),(l.filter f).length+(l.filter λb=> !f b).length=l.length
 |[]=>rfl
 |x::l=>by have:=GI f l;cases h:f x<;>simp[h]<;>omega
theorem Oi{α:Type}(f:α->Bool){l:List α}{k:Nat}(J:k<l.length)(I:f l[k]=true):∃U:((l.take k).filter f).length<(l.filter f).length,(l.filter f)[((l.take k).filter f).length]=l[k]:=by
 have e:l.filter f=(l.take k).filter f++(l[k]::(l.drop (k+1)).filter f):=by
  have j:l=l.take k++(l[k]::l.drop (k+1)):=by rw[<-qW J,List.take_append_drop]
  have C:l.filter f=(l.take k++(l[k]::l.drop (k+1))).filter f:=by rw[<-j]
  rw[C,List.filter_append,List.filter_cons,if_pos I]
 refine⟨by rw[e];simp,?_⟩
 have:(l.filter f)[((l.take k).filter f).length]? =some l[k]:=by rw[e];simp
 exact(List.getElem?_eq_some_iff.1 this).2
theorem Kv{p0:List Int}(hl:p0.length<=1048576)(hb:∀x∈p0,0<=x/\x<=255){f:(M.aH×(List M.fS)×Int)->Option Bool}(hf:f=λJ=>(rT J.1 J.2.1 J.2.2).bind λae=>(if((i64.wrap ((List.length ae.1.Y0:Int)+(List.length ae.2:Int))) !=(List.length J.1.Y0:Int))=true then some true else(jB ae.1).bind λaf=>(jB J.1).bind λah=>some (decide (af>ah))).bind λai=>if ai=true then some false else eN J ae fuel 0 0):(lD p0).bind f=some true:=by
 subst hf
 obtain⟨⟨t,pages,now⟩,e,C,hP⟩:=MR hl hb
 rw[e,qA]
 dsimp only at C hP⊢
 have hz:=C.sz qc
 have U:pages.length<=maxLen:=ml qc
 have htl:=C.1
 rw[OK (C.ok qc) U qc,qA,Oz]
 simp only[List.nil_append]
 have hy:stN 4 (⟨t.Y0.filter λb=> !fQ b pages now⟩:M.aH):=⟨Nat.le_trans (List.length_filter_le _ _) htl,λb hb=>C.2 b (List.mem_filter.1 hb).1⟩
 have hlen:=GI (λb=>fQ b pages now) t.Y0
 refine jn (v:=false) ?_ ?_
 ·rw[qT,wrap_small qc qc,if_neg qd,Bm (hy.ok qc),qA,Bm (C.ok qc),qA,JP hy.2 (by have:=hy.1;omega),JP C.2 qc];have:=JH (f:=λb=> !fQ b pages now) C.2;congr 1;exact decide_eq_false qh
 rw[if_neg qe]
 have key:∀(m k:Nat),t.Y0.length-k<m->k<=t.Y0.length->eN (t,pages,now) ((⟨t.Y0.filter λb=> !fQ b pages now⟩:M.aH),(t.Y0.filter λb=>fQ b pages now).map Ci) m ((((t.Y0.take k).filter λb=>fQ b pages now).length:Nat):Int) (k:Int)=some true:=by
  intro m
  induction m with
  |zero=>intro k h _;omega
  |succ m ih=>
   intro k hn hk
   simp only[eN]
   rcases Nat.lt_or_ge k t.Y0.length with h6|h6
   ·have I:=C.2 _ (qG h6)
    have j:=ih (k+1) qc qc
    have hpre:=GI (λb=>fQ b pages now) (t.Y0.take k)
    rw[qU]at hpre
    have htake:t.Y0.take (k+1)=t.Y0.take k++[t.Y0[k]]:=by rw[List.take_add_one,qF h6];rfl
    rw[if_pos (aY h6),aN h6,qA,AH U,qA]
    cases hev:fQ t.Y0[k] pages now with
    |true=>
     rw[if_pos rfl]
     obtain⟨hj,ej⟩:=Oi (λb=>fQ b pages now) h6 hev
     rw[htake,List.filter_append]at j
     simp only[List.filter_cons,hev,List.filter_nil,if_true,qE,qJ,qK]at j
     refine jn (v:=false) ?_ ?_
     ·rw[if_neg (by simp only[qT];simp;omega),aN (by rw[qT];exact hj),qA,List.getElem_map,ej];have hs:=I.1;have ht:=I.2.1;rw[show cat t.Y0[k].Zh (⟨#[47]⟩:ByteArray)=some (t.Y0[k].Zh++(⟨#[47]⟩:ByteArray))from by unfold cat;rw[if_pos (by show t.Y0[k].Zh.size+1<=_;omega)],qA,show cat (t.Y0[k].Zh++(⟨#[47]⟩:ByteArray)) t.Y0[k].Zw=some (Ci t.Y0[k])from by unfold cat Ci;rw[if_pos (by rw[ByteArray.size_append];show t.Y0[k].Zh.size+1+_<=_;omega)],qA];unfold fQ at hev;simp only[qM,Bool.not_eq_true',beq_iff_eq]at hev;obtain⟨_,_,hper,hw⟩:=hev;rw[if_neg (by unfold Ci;simp),if_neg (by rw[hper];simp),hw];rfl
     ·rw[if_neg qe,bN qc,bN qc];exact j
    |false=>
     rw[if_neg qe]
     obtain⟨hj,ej⟩:=Oi (λb=> !fQ b pages now) h6 (by rw[hev];rfl)
     rw[htake,List.filter_append]at j
     simp only[List.filter_cons,hev,List.filter_nil,qX,qD,if_false]at j
     have ed:(k:Int)-((((t.Y0.take k).filter λb=>fQ b pages now).length:Nat):Int)=((((t.Y0.take k).filter λb=> !fQ b pages now).length:Nat):Int):=by omega
     refine jn (v:=false) ?_ ?_
     ·rw[ed,wrap_small qc qc,if_neg qd,aN hj,qA,ej,wU I.ok I.ok,qA,AB];rfl
     ·rw[if_neg qe,bN qc];exact j
   ·have:k=t.Y0.length:=by omega
    subst this
    rw[if_neg qe,List.take_length,qT]
    simp
 have:=key fuel 0 (jZ qc) qc
 simpa using this
set_option maxHeartbeats 4000000 in
theorem Td(p0:List Int)(hb:∀b∈p0,0<=b/\b<=255):tJ p0=some true:=by
 unfold tJ CH
 rw[qA]
 by_cases hl:(p0.length:Int)>1048576
 ·rw[if_pos (by simpa using hl)]
 rw[if_neg (by simpa using hl)]
 have J:p0.length<=1048576:=by omega
 obtain⟨⟨s,b⟩,e4,hS,U⟩:=QI J hb
 rw[e4,qA]
 dsimp only at hS U⊢
 have hz:=hS.sz qc
 have hzb:=U.sz
 have C:=hS.ok (show 4<=1000 by omega)
 rw[FL C U.ok qc qc,qA,BN C U.ok qc qc,qA,if_neg qe]
 have hR:=RM C U.ok qc
 refine jn (v:=false) ?_ ?_
 ·cases h2:(Ja s b).2 with
  |true=>rfl
  |false=>
   rw[if_pos qe,RX h2,CU C,qA,Iq]
   rfl
 rw[if_neg qe]
 have htl:=hS.1
 have hok:∀c∈(Ja s b).1.Y0,c.ok:=hR.Y0.2
 have key:∀(n k:Nat),s.Y0.length-k<n->k<=s.Y0.length->iL p0 (s,b) (Ja s b) n (k:Int)=some true:=by
  intro n
  induction n with
  |zero=>intro k h _;omega
  |succ n ih=>
   intro k hn hk
   simp only[iL]
   rcases Nat.lt_or_ge k s.Y0.length with h6|h6
   ·rw[if_pos (aY h6),qA]
    cases h2:(Ja s b).2 with
    |false=>rw[if_neg qe];exact Kv J hb rfl
    |true=>
     obtain⟨y1,y2⟩:=Rf h2
     rw[if_pos rfl,aN h6,qA,Bk hR,qA]
     obtain⟨j,hj,ej,hne⟩:=QD y2 (qG h6)
     have hc:=hS.2 _ (qG h6)
     refine jn (v:=false) ?_ ?_
     ·rw[y1]
      dsimp only
      rw[ej,if_neg qe,if_neg qd,aN hj,qA]
      cases e1:(s.Y0[k].Zh.toList==b.Zh.toList)with
      |false=>
       have I:nAt s.Y0[k].Zh s.Y0[k].Zw b=false:=by unfold nAt;rw[Bool.beq_comm,e1];rfl
       rw[if_pos qe,hne I,wU hc.ok hc.ok,qA,AB]
       rfl
      |true=>
       rw[if_neg qe]
       cases e2:(s.Y0[k].Zw.toList==b.Zw.toList)with
       |false=>
        have I:nAt s.Y0[k].Zh s.Y0[k].Zw b=false:=by unfold nAt;rw[Bool.beq_comm (a:=b.Zw.toList),e2,Bool.and_false]
        rw[if_pos qe,hne I,wU hc.ok hc.ok,qA,AB]
        rfl
       |true=>rw[if_neg qe]
     ·rw[if_neg qe,bN qc];exact ih (k+1) qc qc
   ·rw[if_neg qd,qA,if_neg qe];exact Kv J hb rfl
 exact key fuel 0 (jZ qc) qc
end Go.Proofs.YtipmihbgjolaaaaGreat.gen
