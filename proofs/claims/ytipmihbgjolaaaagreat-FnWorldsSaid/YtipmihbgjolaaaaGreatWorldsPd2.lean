/-
  Helper text. No conditions.
-/
import Derived.Test.YtipmihbgjolaaaaGreatWorldsPd1
set_option linter.unusedVariables false
set_option linter.unusedSimpArgs false
namespace Go.Proofs.YtipmihbgjolaaaaGreat.gen
open Go Go.Sh
open Go.IntKind (i64)
def L9 (x y:M.aAO):Bool:=(x.Name.toList==y.Name.toList)&&((x.aAB==y.aAB)&&(eqL CH x.aAo y.aAo&&(x.aAt==y.aAt)))
theorem FB {a b:M.aAO} (ha:a.ok):lP a b=some (L9 a b):=by simp only [lP,Iq ha.aAo.1,qA,aY,zA,uV,L9]
def Nf (x y:M.World):Bool:=(x.Now==y.Now)&&((x.aAi==y.aAi)&&((x.aAK==y.aAK)&&(GK x.aJ y.aJ&&(eqL Ls x.aAX y.aAX&&((x.aAg==y.aAg)&&(eqL HZ x.aAW.aAW y.aAW.aAW&&(eqL Hn x.aAa.aAx y.aAa.aAx&&(eqL L9 x.aAe y.aAe&&eqL DI x.aAY y.aAY))))))))
theorem A4 {a b:M.World} (ha:a.ok):nD a b=some (Nf a b):=by simp only [nD,C6 ha.aJ,Gn (f:=Ls) ha.aAX.1 (λx hx y hy=>Gf (ha.aAX.2 x hx)),Kr ha.aAW.aAW.1,Ki ha.aAa.aAx.1,Gu (f:=L9) ha.aAe.1 (λx hx y hy=>FB (ha.aAe.2 x hx)),Ea (f:=DI) ha.aAY.1 (λx hx y hy=>Dv (ha.aAY.2 x hx)),qA,aY,zA,uV,Nf]
theorem D4 {l:List Int} (hl:l.length<=1048576):rZ l=some ([(List.length l:Int)]++l.map i64.wrap):=by unfold rZ;have:=P0 (b:=8) (xs:=l) (f:=i64.wrap) (L:=gD l) (λn k hk r => ?_) (λn r => ?_) fuel 0 ([(List.length l:Int)]) qi qb qc;(simpa using this);(simp only [gD];rw [if_pos (bB hk),aM hk,qA,bM qb]);·simp only [gD];rw [if_neg qk]
theorem Nu (x:Int):Be x 2147483647=some (O3 x):=by
 have e:aZ 2147483647 1 1000000000000=some true:=by decide
 unfold Be
 rw [e,qA,if_neg qd,if_neg qd,QV]
theorem LS {l:List Int} (hl:l.length<=maxLen):AH l=some (N3 l):=by have hm:=le_max hl;unfold AH N3;refine ED (L:=sC l) (E:=some) hl (λn v k hk => ?_) (λn v => ?_) 11;(simp only [sC];rw [if_pos (bB hk),aM hk,qA,Nu,qA,bM qb];rfl);·simp only [sC];rw [if_neg qk]
theorem JP {α R:Type} {l:List α} {f:α->Bool} {L:Nat->Int->Option R} {S:Nat->Option R} (hl:l.length<=maxLen)
  (h1 : ∀n (k:Nat) (hk:k<l.length),L (n+1) (k:Int)=if f l[k]=true then L n ((k+1:Nat):Int) else S k) (h2 : ∀n,L (n+1) (l.length:Int)=S l.length):L fuel 0=S (l.takeWhile f).length:=by
 have hm:=le_max hl
 have key : ∀(n k:Nat),l.length-k<n->k<=l.length->L n (k:Int)=S (k+((l.drop k).takeWhile f).length):=by
  intro n
  induction n with
  | zero=>intro k h _;omega
  | succ n ih =>
   intro k hn hk
   rcases Nat.lt_or_ge k l.length with h | h
   ·rw [h1 n k h,qV h,List.takeWhile_cons];by_cases hf:f l[k]=true;(rw [if_pos hf,if_pos hf,ih (k+1) qb h,qJ];congr 1;omega);·rw [if_neg hf,if_neg hf];simp
   ·have:k=l.length:=by omega
    subst this
    rw [h2 n]
    simp
 have:=key fuel 0 qi qb
 simpa using this
def Ui (s:M.aJ) (b:M.aO):Nat:=(s.aAG.takeWhile (λx=>BI x b)).length
theorem Qb (s:M.aJ) (b:M.aO):Ui s b<=s.aAG.length:=(List.takeWhile_prefix _).length_le
def Gt (s:M.aJ) (b:M.aO):List M.aO:=if oF (nAt b.aAO b.Top) s.aAG>=0 then s.aAG.set (oF (nAt b.aAO b.Top) s.aAG).toNat b else s.aAG.take (Ui s b)++([b]++s.aAG.drop (Ui s b))
def Q5 (s:M.aJ) (l:List M.aO):M.aJ×Bool:=if uX s=true then (if uX (⟨l⟩:M.aJ)=true then ((⟨l⟩:M.aJ),true) else (s,false)) else (s,false)
def Vg (s:M.aJ) (b:M.aO):M.aJ×Bool:=Q5 s (Gt s b)
theorem HU {s:M.aJ} {b x:M.aO} (h:x∈Gt s b):x=b\/x∈s.aAG:=by unfold Gt at h;split at h;(rcases List.mem_or_eq_of_mem_set h with h | h;(exact .inr h);·exact .inl h);·simp only [qP,List.mem_cons,qO,or_false] at h;rcases h with h | h | h;(exact .inr (List.mem_of_mem_take h));(exact .inl h);·exact .inr (List.mem_of_mem_drop h)
theorem Kc (s:M.aJ) (b:M.aO):(Gt s b).length<=s.aAG.length+1:=by have:=Qb s b;unfold Gt;split;(simp);·simp only [qE,qT,qJ,qK,qU];omega
theorem HV {α:Type} {f:α->Nat} {x:α} : ∀ {l:List α} {i:Nat},gO f (l.set i x)<=gO f l+f x
 | [],_=>by simp [gO]
 | y::l,0=>by simp only [List.set_cons_zero,gO];omega
 | y::l,i+1=>by have:=HV (f:=f) (x:=x) (l:=l) (i:=i);simp only [List.set_cons_succ,gO];omega
theorem xZ {α:Type} {f:α->Nat} : ∀(l r:List α),gO f (l++r)=gO f l+gO f r
 | [],r=>by simp [gO]
 | y::l,r=>by simp only [List.cons_append,gO,xZ l r];omega
theorem S8 {s:M.aJ} (hz:M.aJ.sz s<=1048576) : ∀x∈s.aAG,M.aO.sz x<=1048576:=λx hx=>by have:=sM (f:=M.aO.sz) hx;simp only [M.aJ.sz] at hz;omega
theorem Ri {s:M.aJ} {b:M.aO} (hs:s.ok) (hb:b.ok) (hz:M.aJ.sz s<=1048576):M.aJ.ok (⟨Gt s b⟩:M.aJ):=
 ⟨⟨by show (Gt s b).length<=maxLen;have:=Kc s b;simp only [M.aJ.sz] at hz;unfold maxLen;omega,λx hx=>by rcases HU hx with rfl | h;(exact hb);·exact hs.aAG.2 x h⟩⟩
theorem Qp {s:M.aJ} {b:M.aO} (hz:M.aJ.sz s<=1048576) (zb:M.aAA.sz b.cR.aAU<=1048576) : ∀x∈Gt s b,M.aAA.sz x.cR.aAU<=1048576:=λx hx=>by rcases HU hx with rfl | h;(exact zb);·exact Eg (S8 hz x h)
theorem Mp {s:M.aJ} {l:List M.aO} (hs:s.ok) (hz:M.aJ.sz s<=1048576) (hl:M.aJ.ok (⟨l⟩:M.aJ)) (zl : ∀x∈l,M.aAA.sz x.cR.aAU<=1048576) :
  ((bZ s).bind λae=>(if (!ae)=true then ((some s).bind λaf=>(some (af,false))) else ((bZ (⟨l⟩:M.aJ)).bind λah=>(if (!ah)=true then ((some s).bind λaa=>(some (aa,false))) else (some ((⟨l⟩:M.aJ),true))))))=some (Q5 s l):=by
 rw [Gz hs hz,qA,zE hl zl]
 unfold Q5
 cases uX s
 ·simp
 ·cases uX (⟨l⟩:M.aJ)<;>simp
def tS (s:M.aJ) (b:M.aO) (k:Nat):Option (M.aJ×Bool):=(xE s.aAG (k:Int)).bind λ_=>((app 328 ([]:List M.aO) (List.take (k:Int).toNat s.aAG)).bind λ_=>((mG b).bind λaa=>((app 328 (List.take (k:Int).toNat s.aAG) ([aa])).bind λ_=>((app 328 ((List.take (k:Int).toNat s.aAG)++[aa]) (List.drop (k:Int).toNat s.aAG)).bind λ_=>((bZ s).bind λaf=>(if (!af)=true then ((fM s).bind λah=>(some (ah,false))) else ((bZ (⟨(((List.take (k:Int).toNat s.aAG)++[aa])++(List.drop (k:Int).toNat s.aAG))⟩:M.aJ)).bind λai=>(if (!ai)=true then ((fM s).bind λae=>(some (ae,false))) else (some ((⟨(((List.take (k:Int).toNat s.aAG)++[aa])++(List.drop (k:Int).toNat s.aAG))⟩:M.aJ),true))))))))))
theorem EZ {s:M.aJ} {b:M.aO} (hs:s.ok) (hb:b.ok) (hz:M.aJ.sz s<=1048576) (zc:M.aO.sz b<=1073741824) (zb:M.aAA.sz b.cR.aAU<=1048576):nJ s b=some (Vg s b):=by
 have hm:=le_max hs.aAG.1
 have hlen:s.aAG.length<=1048576:=by simp only [M.aJ.sz] at hz;omega
 have ok:=Ri hs hb hz
 have all:=Qp (s:=s) hz zb
 have hle:=Qb s b
 unfold nJ Vg
 rw [Df s qb,qA,Bg hs,qA]
 by_cases h:oF (nAt b.aAO b.Top) s.aAG>=0
 ·obtain ⟨j,hj,hlt⟩:=lE (show ¬oF (nAt b.aAO b.Top) s.aAG<0 by omega)
  have e:Gt s b=s.aAG.set (oF (nAt b.aAO b.Top) s.aAG).toNat b:=by unfold Gt;rw [if_pos h]
  rw [if_pos (by simpa using h),Bb b qb,qA]
  rw [e] at ok all ⊢
  rw [hj] at ok all ⊢
  rw [aM hlt,qA]
  exact Mp hs hz ok all
 ·have e:Gt s b=s.aAG.take (Ui s b)++([b]++s.aAG.drop (Ui s b)):=by unfold Gt;rw [if_neg h]
  rw [if_neg (by simpa using h),JP (l:=s.aAG) (f:=λx=>BI x b) (L:=jC s b s) (S:=tS s b) hs.aAG.1 (λn k hk => ?_) (λn => ?_)]
  ·show tS s b (Ui s b)=_;unfold tS;rw [AJ hle,qA,qH,IY qc qb,qA,Bb b qb,qA,fQ qu,qA,fQ qo,qA,qS,<-e];rw [Df s qb];exact Mp hs hz ok all
  ·simp only [jC];rw [if_pos (bB hk),aM hk,qA,Dm,qA,bM qb];rfl
  ·simp only [jC];rw [if_neg qk];rfl
theorem Gs {s:M.aJ} {b:M.aO} (hs:s.ok) (hb:b.ok) (hz:M.aJ.sz s<=1048576) (zb:M.aO.sz b<=1048576):nJ s b=some (Vg s b):=EZ hs hb hz qb (Eg zb)
theorem Jc {α:Type} {l:List α} {k:Nat} (h:k<=l.length):Ak l (k:Int)=some (l.drop k):=by unfold Ak;rw [if_pos ⟨qb,by simpa using h⟩];simp
theorem I4 : ∀ {a b c:List UInt8},Op.bytesLess a b=true->Op.bytesLess b c=true->Op.bytesLess a c=true
 | [],[],_,h,_=>by cases h
 | _::_,[],_,h,_=>by cases h
 | _,_::_,[],_,h=>by cases h
 | [],_::_,_::_,_,_=>rfl
 | x::a,y::b,z::c,h1,h2=>by
  have e1:Op.bytesLess (x::a) (y::b)=(decide (x<y)||((x==y)&&Op.bytesLess a b)):=rfl
  have e2:Op.bytesLess (y::b) (z::c)=(decide (y<z)||((y==z)&&Op.bytesLess b c)):=rfl
  have e3:Op.bytesLess (x::a) (z::c)=(decide (x<z)||((x==z)&&Op.bytesLess a c)):=rfl
  rw [e1,Bool.or_eq_true,qM,qL,UInt8.lt_iff_toNat_lt] at h1
  rw [e2,Bool.or_eq_true,qM,qL,UInt8.lt_iff_toNat_lt] at h2
  rw [e3,Bool.or_eq_true,qM,qL,UInt8.lt_iff_toNat_lt]
  rcases h1 with h1 | ⟨h1,h1'⟩<;>rcases h2 with h2 | ⟨h2,h2'⟩
  ·exact .inl qb
  ·exact .inl (by rw [<-eq_of_beq h2];exact h1)
  ·exact .inl (by rw [eq_of_beq h1];exact h2)
  ·exact .inr ⟨by rw [eq_of_beq h1];exact h2,I4 h1' h2'⟩
theorem Ei {α:Type} {f:α->Bool} : ∀ {l:List α} {k:Nat},(∀(j:Nat) (hj:j<l.length),j<k->f l[j]=true)->(∀(hk:k<l.length),f l[k]=false)->k<=l.length->(l.takeWhile f).length=k
 | [],k,_,_,h=>by simp at h;simp [h]
 | x::l,0,_,h,_=>by have:=h qd;simp only [List.getElem_cons_zero] at this;rw [List.takeWhile_cons,if_neg (by rw [this];simp)];rfl
 | x::l,k+1,h1,h2,h3=>by have:=h1 0 qd qb;simp only [List.getElem_cons_zero] at this;rw [List.takeWhile_cons,if_pos this,qJ,Ei (k:=k) (λj hj hjk => ?_) (λhk => ?_) (by simpa using h3)];(have:=h1 (j+1) qc qb;simpa using this);·have:=h2 qc;simpa using this
theorem FM {α:Type} {f:α->Bool} : ∀ {l:List α} (j:Nat) (hj:j<l.length),j<(l.takeWhile f).length->f l[j]=true
 | [],j,hj,_=>by simp at hj
 | x::l,j,hj,h=>by
  rw [List.takeWhile_cons] at h
  split at h
  ·rename_i hx
   cases j with
   | zero=>exact hx
   | succ j=>exact FM j (by simpa using hj) (by simpa using h)
  ·simp at h
theorem FZ {α:Type} {f:α->Bool} : ∀ {l:List α} (hk:(l.takeWhile f).length<l.length),f (l[(l.takeWhile f).length])=false
 | [],hk=>by simp at hk
 | x::l,hk=>by
  cases hx:f x with
  | false=>simp [List.takeWhile_cons,hx]
  | true =>
   have hk':(l.takeWhile f).length<l.length:=by rw [List.takeWhile_cons,if_pos hx] at hk;simpa using hk
   have:=FZ hk'
   simpa [List.takeWhile_cons,hx] using this
theorem Bx {α:Type} {f:α->Bool} {l:List α} {k:Nat} (h:oF f l=(k:Int)) : ∃hk:k<l.length,f l[k]=true:=by
 unfold oF at h
 cases e:l.findIdx? f with
 | none=>rw [e] at h;simp only at h;omega
 | some i =>
  rw [e] at h
  simp only at h
  have:i=k:=by omega
  subst this
  obtain ⟨h1,h2,_⟩:=List.findIdx?_eq_some_iff_getElem.1 e
  exact ⟨h1,h2⟩
theorem IJ {α:Type} {f:α->Bool} {l:List α} (h:oF f l<0) : ∀x∈l,f x=false:=by
 have h2:=GM f l
 rw [decide_eq_false qb] at h2
 intro x hx
 cases hf:f x with
 | false=>rfl
 | true =>
  have:l.any f=true:=List.any_eq_true.2 ⟨x,hx,hf⟩
  rw [<-h2] at this
  cases this
theorem Pu {r:M.aC} (h:bR r=true) (k:Nat) (hk:k+1<r.aAF.length):Op.bytesLess r.aAF[k].Name.toList r.aAF[k+1].Name.toList=true:=by unfold bR at h;rw [qM,qQ] at h;have:=h.1 (k+1) (List.mem_range.2 hk);unfold BF at this;rw [qF hk,Nat.add_sub_cancel,qF (show k<r.aAF.length by omega)] at this;simp only [Option.any_some,qM] at this;simpa using this.2
theorem SN {r:M.aC} (h:bR r=true) : ∀(d i:Nat) (hj:i+d+1<r.aAF.length),Op.bytesLess r.aAF[i].Name.toList r.aAF[i+d+1].Name.toList=true
 | 0,i,hj=>Pu h i hj
 | d+1,i,hj=>I4 (SN h d i qb) (Pu h (i+d+1) hj)
def M1 (a:ByteArray) (x:M.Field):Bool:=Op.bytesLess x.Name.toList a.toList
def KX (l:List M.Field) (a:ByteArray):Nat:=(l.takeWhile (M1 a)).length
theorem Rz (l:List M.Field) (a:ByteArray):KX l a<=l.length:=(List.takeWhile_prefix _).length_le
theorem Lp {r:M.aC} {a:ByteArray} (h:bR r=true) {k:Nat} (hk:k<r.aAF.length) (hf:nB a r.aAF[k]=true):KX r.aAF a=k:=by
 have e:r.aAF[k].Name.toList=a.toList:=eq_of_beq hf
 refine Ei (λj hj hjk => ?_) (λ_ => ?_) qb
 ·unfold M1
  rw [<-e]
  have:=SN h (k-j-1) j qb
  have e2:j+(k-j-1)+1=k:=by omega
  simp only [e2] at this
  exact this
 ·unfold M1;rw [e];exact Hw _
def L0 (r:M.aC) (a:ByteArray) (n:Int):List M.Field:=if oF (nB a) r.aAF<0 then r.aAF.take (KX r.aAF a)++([(⟨a,n⟩:M.Field)]++r.aAF.drop (KX r.aAF a))
 else (match r.aAF[(oF (nB a) r.aAF).toNat]? with | some x=>r.aAF.set (oF (nB a) r.aAF).toNat (⟨x.Name,n⟩:M.Field) | none=>r.aAF)
def Ji (r:M.aC) (l:List M.Field):M.aC×Bool:=if bR r=true then (if bR (⟨l⟩:M.aC)=true then ((⟨l⟩:M.aC),true) else (r,false)) else (r,false)
def FE (r:M.aC) (a:ByteArray) (n:Int):M.aC×Bool:=Ji r (L0 r a n)
theorem CY {r:M.aC} (h:bR r=false) (l:List M.Field):Ji r l=(r,false):=by unfold Ji;rw [h,if_neg qd]
theorem Sv {r:M.aC} {a:ByteArray} {n:Int} (k:Nat) (hr:r.ok) (hl:r.aAF.length<=1073741824) (ha:a.size<=maxLen) (hn:inI n):M.aC.ok (⟨r.aAF.take k++([(⟨a,n⟩:M.Field)]++r.aAF.drop k)⟩:M.aC):=
 ⟨⟨by show (r.aAF.take k++([(⟨a,n⟩:M.Field)]++r.aAF.drop k)).length<=maxLen;unfold maxLen;simp only [qE,qT,qU,qJ,qK];omega,λy hy=>by have hy':y∈r.aAF.take k++([(⟨a,n⟩:M.Field)]++r.aAF.drop k):=hy;simp only [qP,List.mem_cons,qO,or_false] at hy';rcases hy' with h | rfl | h;(exact hr.aAF.2 y (List.mem_of_mem_take h));(exact ⟨ha,hn⟩);·exact hr.aAF.2 y (List.mem_of_mem_drop h)⟩⟩
theorem Px {r:M.aC} {n:Int} {k:Nat} (hk:k<r.aAF.length) (hr:r.ok) (hn:inI n):M.aC.ok (⟨r.aAF.set k (⟨r.aAF[k].Name,n⟩:M.Field)⟩:M.aC):=
 ⟨⟨by show (r.aAF.set k _).length<=maxLen;rw [qN];exact hr.aAF.1,λy hy=>by have hy':y∈r.aAF.set k (⟨r.aAF[k].Name,n⟩:M.Field):=hy;rcases List.mem_or_eq_of_mem_set hy' with h | rfl;(exact hr.aAF.2 y h);·exact ⟨(hr.aAF.2 _ (qG hk)).Name,hn⟩⟩⟩
theorem Iz {r:M.aC} {l:List M.Field} (hr:r.ok) (hz:M.aC.sz r<=1073741824) (hl:M.aC.ok (⟨l⟩:M.aC)) :
  ((bF r).bind λx=>(if (!x)=true then ((bU r).bind λy=>(some (y,false))) else ((bF (⟨l⟩:M.aC)).bind λz=>(if (!z)=true then ((bU r).bind λy=>(some (y,false))) else (some ((⟨l⟩:M.aC),true))))))=some (Ji r l):=by
 rw [mU hr,qA,yL r hz,mU hl]
 unfold Ji
 cases bR r
 ·simp
 ·cases bR (⟨l⟩:M.aC)<;>simp
def tFA (r:M.aC) (a:ByteArray) (n:Int) (k:Nat):Option (M.aC×Bool):=(idx r.aAF (k:Int)).bind λaa=>((bF r).bind λae=>(if (!ae)=true then ((bU r).bind λaf=>(some (af,false))) else ((bF (⟨(List.set r.aAF (k:Int).toNat (⟨aa.Name,n⟩:M.Field))⟩:M.aC)).bind λah=>(if (!ah)=true then ((bU r).bind λai=>(some (ai,false))) else (some ((⟨(List.set r.aAF (k:Int).toNat (⟨aa.Name,n⟩:M.Field))⟩:M.aC),true))))))
def tFB (r:M.aC) (a:ByteArray) (n:Int) (k:Nat):Option (M.aC×Bool):=(xE r.aAF (k:Int)).bind λ_=>((app 24 ([]:List M.Field) (List.take (k:Int).toNat r.aAF)).bind λ_=>((app 24 (List.take (k:Int).toNat r.aAF) ([(⟨a,n⟩:M.Field)])).bind λ_=>((Ak r.aAF (k:Int)).bind λ_=>((app 24 ((List.take (k:Int).toNat r.aAF)++[(⟨a,n⟩:M.Field)]) (List.drop (k:Int).toNat r.aAF)).bind λ_=>((bF r).bind λaa=>(if (!aa)=true then ((bU r).bind λae=>(some (ae,false))) else ((bF (⟨(((List.take (k:Int).toNat r.aAF)++[(⟨a,n⟩:M.Field)])++(List.drop (k:Int).toNat r.aAF))⟩:M.aC)).bind λaf=>(if (!af)=true then ((bU r).bind λah=>(some (ah,false))) else (some ((⟨(((List.take (k:Int).toNat r.aAF)++[(⟨a,n⟩:M.Field)])++(List.drop (k:Int).toNat r.aAF))⟩:M.aC),true))))))))))
def tFS (r:M.aC) (a:ByteArray) (n:Int) (k:Nat):Option (M.aC×Bool):=match r.aAF[k]? with | some x=>if (x.Name.toList==a.toList)=true then tFA r a n k else tFB r a n k | none=>tFB r a n k
theorem SL {r:M.aC} {a:ByteArray} {n:Int} {k:Nat} (hk:k<=r.aAF.length) (hr:r.ok) (hz:M.aC.sz r<=1073741824) (ha:a.size<=maxLen) (hn:inI n):tFB r a n k=some (Ji r (r.aAF.take k++([(⟨a,n⟩:M.Field)]++r.aAF.drop k))):=by
 have hl:r.aAF.length<=1073741824:=by simp only [M.aC.sz] at hz;omega
 unfold tFB
 rw [AJ hk,qA,qH,IY (by rw [qT];omega) qb,qA,fQ qu,qA,Jc hk,qA,fQ qo,qA,qS]
 exact Iz hr hz (Sv k hr hl ha hn)
theorem yE {r:M.aC} {a:ByteArray} {n:Int} (hr:r.ok) (hz:M.aC.sz r<=1073741824) (ha:a.size<=maxLen) (hn:inI n):gK r a n=some (FE r a n):=by
 have hl:r.aAF.length<=1073741824:=by simp only [M.aC.sz] at hz;omega
 have hp:=Rz r.aAF a
 unfold gK
 rw [yL r hz,qA,JP (l:=r.aAF) (f:=M1 a) (L:=kA r a n r) (S:=tFS r a n) hr.aAF.1 (λm k hk => ?_) (λm => ?_)]
 ·show tFS r a n (KX r.aAF a)=_
  unfold tFS FE
  rcases Nat.lt_or_ge (KX r.aAF a) r.aAF.length with h | h
  ·rw [qF h]
   simp only
   by_cases hf:(r.aAF[KX r.aAF a].Name.toList==a.toList)=true
   ·rw [if_pos hf]
    unfold tFA
    rw [aM h,qA,qH,Iz hr hz (Px h hr hn)]
    cases hR:bR r with
    | false=>rw [CY hR,CY hR]
    | true =>
     have hnot : ¬oF (nB a) r.aAF<0:=λh0=>by have:=IJ h0 _ (qG h);rw [show nB a r.aAF[KX r.aAF a]=true from hf] at this;cases this
     obtain ⟨k,e,hk⟩:=lE hnot
     obtain ⟨_,hfk⟩:=Bx e
     have hpk:=Lp hR hk hfk
     unfold L0
     rw [if_neg hnot,e,qH,qF hk]
     simp only [hpk]
   ·rw [if_neg hf,SL hp hr hz ha hn]
    cases hR:bR r with
    | false=>rw [CY hR,CY hR]
    | true =>
     have hneg:oF (nB a) r.aAF<0:=Classical.byContradiction λhnot=>by obtain ⟨k,e,hk⟩:=lE hnot;obtain ⟨_,hfk⟩:=Bx e;have hpk:=Lp hR hk hfk;apply hf;simp only [hpk];exact hfk
     unfold L0
     rw [if_pos hneg]
  ·rw [qX h]
   simp only
   rw [SL hp hr hz ha hn]
   cases hR:bR r with
   | false=>rw [CY hR,CY hR]
   | true =>
    have hneg:oF (nB a) r.aAF<0:=Classical.byContradiction λhnot=>by obtain ⟨k,e,hk⟩:=lE hnot;obtain ⟨_,hfk⟩:=Bx e;have hpk:=Lp hR hk hfk;omega
    unfold L0
    rw [if_pos hneg]
 ·simp only [kA];rw [if_pos (bB hk),aM hk,qA,bM qb];unfold tFS;rw [qF hk];simp only;unfold tFA;rw [aM hk];rfl
 ·simp only [kA];rw [if_neg qk];unfold tFS;rw [qX (Nat.le_refl _)];rfl
def uY (k:M.Key) (x:M.aAQ):Bool:=(x.Key.aAV==k.aAV)&&((x.Key.N==k.N)&&(x.Key.aAf.toList==k.aAf.toList))
theorem wA {s:M.aA} {k:M.Key} (hs:s.ok):kK s k=some (oF (uY k) s.aAD):=by have hm:=le_max hs.aAD.1;unfold kK;rw [findAll (L:=kR s k) (f:=uY k) (A:=λi=>some (i:Int)) (E:=some (-1)) hs.aAD.1 (λm j hj => ?_) (λm => ?_),tK];(simp only [kR];rw [if_pos (bB hj),aM hj,qA,bM qb];rfl);·simp only [kR];rw [if_neg qk]
theorem Q4 {x y:M.Key} (hx:Ao x=true) (hy:Ao y=true) (h : ¬cQ x y<0) (hne:((x.aAV==y.aAV)&&((x.N==y.N)&&(x.aAf.toList==y.aAf.toList)))=false):cQ y x<0:=by
 unfold cQ at *
 rw [if_pos ⟨hx,hy⟩] at h
 rw [if_pos ⟨hy,hx⟩]
 by_cases hk:x.aAV=y.aAV
 ·rw [if_pos hk] at h
  rw [if_pos hk.symm]
  by_cases hn:x.N=y.N
  ·rw [if_pos hn] at h
   rw [if_pos hn.symm]
   have hb:(x.aAf.toList==y.aAf.toList)=false:=by simpa [hk,hn] using hne
   have hl:Op.bytesLess x.aAf.toList y.aAf.toList=false:=by
    cases e:Op.bytesLess x.aAf.toList y.aAf.toList with
    | false=>rfl
    | true=>rw [e,if_pos rfl] at h;omega
   have ht:=Aw x.aAf.toList y.aAf.toList
   rw [hl,Bool.beq_comm,hb,Bool.or_false] at ht
   have h2:Op.bytesLess y.aAf.toList x.aAf.toList=true:=by
    cases e:Op.bytesLess y.aAf.toList x.aAf.toList with
    | true=>rfl
    | false=>rw [e] at ht;cases ht
   rw [if_pos h2]
   omega
  ·rw [if_neg hn] at h;rw [if_neg (λe=>hn e.symm)];by_cases hlt:x.N<y.N;(rw [if_pos hlt] at h;omega);·rw [if_pos qb];omega
 ·rw [if_neg hk] at h;rw [if_neg (λe=>hk e.symm)];by_cases hlt:x.aAV<y.aAV;(rw [if_pos hlt] at h;omega);·rw [if_pos qb];omega
theorem Ke {l:List M.aAQ} (h1 : ∀(k:Nat) (x:M.aAQ),l[k]? = some x->Ao x.Key=true/\bR x.aC=true) (h2 : ∀(k:Nat) (x y:M.aAQ),l[k]? = some x->l[k+1]? = some y->cQ x.Key y.Key<0):(List.range l.length).all (zK l)=true:=by
 rw [qQ]
 intro k hk
 have hk:=List.mem_range.1 hk
 unfold zK
 obtain ⟨a1,a2⟩:=h1 k _ (qF hk)
 cases k with
 | zero=>rw [qF hk];simp [a1,a2]
 | succ k =>
  have hk':k<l.length:=by omega
  have b:=h2 k _ _ (qF hk') (qF hk)
  rw [qF hk,Nat.add_sub_cancel,qF hk']
  simp [a1,a2,b]
theorem Eo {l:List M.aAQ} (h:(List.range l.length).all (zK l)=true):(∀(k:Nat) (x:M.aAQ),l[k]? = some x->Ao x.Key=true/\bR x.aC=true)/\(∀(k:Nat) (x y:M.aAQ),l[k]? = some x->l[k+1]? = some y->cQ x.Key y.Key<0):=by rw [qQ] at h;refine ⟨λk x hx => ?_,λk x y hx hy => ?_⟩;(have hk:k<l.length:=(List.getElem?_eq_some_iff.1 hx).1;have:=h k (List.mem_range.2 hk);unfold zK at this;rw [hx] at this;simp only [Option.any_some,qM] at this;exact this.1);·have hk:k+1<l.length:=(List.getElem?_eq_some_iff.1 hy).1;have:=h (k+1) (List.mem_range.2 hk);unfold zK at this;rw [hy,Nat.add_sub_cancel,hx] at this;simp only [Option.any_some,qM] at this;simpa using this.2
theorem PC {α:Type} {l:List α} {p:Nat} {x:α} (hp:p<=l.length) (k:Nat):(l.take p++([x]++l.drop p))[k]? = if k<p then l[k]? else if k=p then some x else l[k-1]? := by
 have hl:(l.take p).length=p:=by rw [qT];omega
 rw [List.getElem?_append,hl]
 by_cases h1:k<p
 ·rw [if_pos h1,if_pos h1,List.getElem?_take_of_lt h1]
 ·rw [if_neg h1,if_neg h1];by_cases h2:k=p;(subst h2;simp);·rw [if_neg h2];obtain ⟨d,rfl⟩ : ∃d,k=p+1+d:=⟨k-p-1,qb⟩;rw [show p+1+d-p=d+1 by omega,List.singleton_append,List.getElem?_cons_succ,List.getElem?_drop,show p+1+d-1=p+d by omega]
def FO (k:M.Key) (x:M.aAQ):Bool:=decide (cQ x.Key k<0)
def AP (l:List M.aAQ) (k:M.Key):Nat:=(l.takeWhile (FO k)).length
theorem JB (l:List M.aAQ) (k:M.Key):AP l k<=l.length:=(List.takeWhile_prefix _).length_le
def Ex (s:M.aA) (k:M.Key):Int:=if ((k.aAV==1)&&(decide (k.N>s.aAd)&&decide (k.N<=1000000)))=true then k.N else s.aAd
def Kp (s:M.aA) (k:M.Key) (r:M.aC):M.aA:=(⟨s.Name,s.aAD.take (AP s.aAD k)++([(⟨k,r⟩:M.aAQ)]++s.aAD.drop (AP s.aAD k)),Ex s k⟩:M.aA)
def LU (s:M.aA) (i:Nat) (r:M.aC):M.aA:=(⟨s.Name,(match s.aAD[i]? with | some x=>s.aAD.set i (⟨x.Key,r⟩:M.aAQ) | none=>s.aAD),s.aAd⟩:M.aA)
def Aj (s:M.aA) (k:M.Key) (r:M.aC):M.aA×Bool:=if gE s=true then (if Ao k=true then (if oF (uY k) s.aAD<0 then (if s.aAD.length<16 then (Kp s k r,true) else (s,false)) else (LU s (oF (uY k) s.aAD).toNat r,true)) else (s,false)) else (s,false)
theorem tQ {s:M.aA} (h:gE s=true):(List.range s.aAD.length).all (zK s.aAD)=true/\kI s.Name=true/\s.aAD.length<=16/\0<=s.aAd/\s.aAd<=1000000:=by unfold gE inR at h;simp only [qM,qL] at h;exact ⟨h.1,h.2.1,h.2.2.1,h.2.2.2.1,h.2.2.2.2⟩
theorem RG {s:M.aA} (h1:(List.range s.aAD.length).all (zK s.aAD)=true) (h2:kI s.Name=true) (h3:s.aAD.length<=16) (h4:0<=s.aAd) (h5:s.aAd<=1000000):gE s=true:=by unfold gE inR;simp [h1,h2,h3,h4,h5]
theorem QU {s:M.aA} {k:M.Key} (h:gE s=true):0<=Ex s k/\Ex s k<=1000000:=by obtain ⟨_,_,_,h4,h5⟩:=tQ h;unfold Ex;split;(rename_i hc;simp only [qM,qL] at hc;omega);·exact ⟨h4,h5⟩
theorem Qk {s:M.aA} {i:Nat} {r:M.aC} (h:gE s=true) (hi:i<s.aAD.length):gE (LU s i r)=bR r:=by
 obtain ⟨h1,h2,h3,h4,h5⟩:=tQ h
 obtain ⟨a1,a2⟩:=Eo h1
 have e:LU s i r=(⟨s.Name,s.aAD.set i (⟨s.aAD[i].Key,r⟩:M.aAQ),s.aAd⟩:M.aA):=by unfold LU;rw [qF hi]
 rw [e]
 have key : ∀(k:Nat) (x:M.aAQ),(s.aAD.set i (⟨s.aAD[i].Key,r⟩:M.aAQ))[k]? = some x -> ∃y,s.aAD[k]? = some y/\x.Key=y.Key/\(k≠i->x=y)/\(k=i->x.aC=r):=by intro k x hx;rw [List.getElem?_set] at hx;by_cases hk:i=k;(subst hk;rw [if_pos rfl,if_pos hi] at hx;cases hx;exact ⟨_,qF hi,rfl,λhh=>absurd rfl hh,λ_=>rfl⟩);·rw [if_neg hk] at hx;exact ⟨x,hx,rfl,λ_=>rfl,λhh=>absurd hh.symm hk⟩
 cases hr:bR r with
 | true =>
  refine RG (Ke (λk x hx => ?_) (λk x y hx hy => ?_)) h2 (by show (s.aAD.set i _).length<=16;rw [qN];exact h3) h4 h5
  ·obtain ⟨y,hy,e1,e2,e3⟩:=key k x hx;obtain ⟨b1,b2⟩:=a1 k y hy;refine ⟨by rw [e1];exact b1,?_⟩;by_cases hk:k=i;(rw [e3 hk];exact hr);·rw [e2 hk];exact b2
  ·obtain ⟨x',hx',e1,_⟩:=key k x hx;obtain ⟨y',hy',e2,_⟩:=key (k+1) y hy;rw [e1,e2];exact a2 k x' y' hx' hy'
 | false =>
  cases hq:gE (⟨s.Name,s.aAD.set i (⟨s.aAD[i].Key,r⟩:M.aAQ),s.aAd⟩:M.aA) with
  | false=>rfl
  | true =>
   have:=(Eo (tQ hq).1).1 i _ (by show (s.aAD.set i _)[i]? = _;rw [List.getElem?_set,if_pos rfl,if_pos hi])
   simp only at this
   rw [hr] at this
   cases this.2
theorem OR {s:M.aA} {k:M.Key} {r:M.aC} (h:gE s=true) (hk:Ao k=true) (hr:bR r=true) (hf:oF (uY k) s.aAD<0) (au:Int) (hau:0<=au/\au<=1000000) :
  gE (⟨s.Name,s.aAD.take (AP s.aAD k)++([(⟨k,r⟩:M.aAQ)]++s.aAD.drop (AP s.aAD k)),au⟩:M.aA)=decide (s.aAD.length<16):=by
 obtain ⟨h1,h2,h3,h4,h5⟩:=tQ h
 obtain ⟨a1,a2⟩:=Eo h1
 have hp:=JB s.aAD k
 have hlen:(s.aAD.take (AP s.aAD k)++([(⟨k,r⟩:M.aAQ)]++s.aAD.drop (AP s.aAD k))).length=s.aAD.length+1:=by simp only [qE,qT,qU,qJ,qK];omega
 have hall:(List.range (s.aAD.take (AP s.aAD k)++([(⟨k,r⟩:M.aAQ)]++s.aAD.drop (AP s.aAD k))).length).all (zK (s.aAD.take (AP s.aAD k)++([(⟨k,r⟩:M.aAQ)]++s.aAD.drop (AP s.aAD k))))=true:=by
  refine Ke (λj x hx => ?_) (λj x y hx hy => ?_)
  ·rw [PC hp] at hx;split at hx;(exact a1 j x hx);·split at hx;(cases hx;exact ⟨hk,hr⟩);·exact a1 _ x hx
  ·rw [PC hp] at hx hy
   by_cases c1:j+1<AP s.aAD k
   ·rw [if_pos qb] at hx;rw [if_pos c1] at hy;exact a2 j x y hx hy
   ·rw [if_neg c1] at hy
    by_cases c2:j+1=AP s.aAD k
    ·rw [if_pos c2] at hy
     rw [if_pos qb] at hx
     cases hy
     have hj:j<s.aAD.length:=by omega
     have:=FM (f:=FO k) (l:=s.aAD) j hj (by show j<AP s.aAD k;omega)
     rw [qF hj] at hx
     cases hx
     unfold FO at this
     simpa using this
    ·rw [if_neg c2] at hy
     by_cases c3:j=AP s.aAD k
     ·rw [if_neg qb,if_pos c3] at hx
      cases hx
      rw [Nat.add_sub_cancel] at hy
      have hj:j<s.aAD.length:=(List.getElem?_eq_some_iff.1 hy).1
      have hj':(s.aAD.takeWhile (FO k)).length<s.aAD.length:=by show AP s.aAD k<_;omega
      have hat:=FZ (f:=FO k) hj'
      have e1:s.aAD[(s.aAD.takeWhile (FO k)).length]=y:=by
       have:s.aAD[AP s.aAD k]? = some y:=by rw [<-c3];exact hy
       exact (List.getElem?_eq_some_iff.1 this).2
      rw [e1] at hat
      unfold FO at hat
      have hne:=IJ hf y (by rw [<-e1];exact qG _)
      unfold uY at hne
      exact Q4 (a1 j y hy).1 hk (by simpa using hat) hne
     ·rw [if_neg qb,if_neg c3] at hx;rw [show j+1-1=(j-1)+1 by omega] at hy;exact a2 (j-1) x y hx hy
 have e1:decide ((s.aAD.take (AP s.aAD k)++([(⟨k,r⟩:M.aAQ)]++s.aAD.drop (AP s.aAD k))).length<=16)=decide (s.aAD.length<16):=decide_eq_decide.2 (by rw [hlen];omega)
 unfold gE inR
 rw [hall,h2,e1,decide_eq_true hau.1,decide_eq_true hau.2]
 simp
theorem PT {s:M.aA} {k:M.Key} {r:M.aC} {au:Int} (p:Nat) (hs:s.ok) (hl:s.aAD.length<=1073741824) (hk:k.ok) (hr:r.ok) (hau:inI au):M.aA.ok (⟨s.Name,s.aAD.take p++([(⟨k,r⟩:M.aAQ)]++s.aAD.drop p),au⟩:M.aA):=
 ⟨hs.Name,⟨by show (s.aAD.take p++([(⟨k,r⟩:M.aAQ)]++s.aAD.drop p)).length<=maxLen;unfold maxLen;simp only [qE,qT,qU,qJ,qK];omega,λy hy=>by have hy':y∈s.aAD.take p++([(⟨k,r⟩:M.aAQ)]++s.aAD.drop p):=hy;simp only [qP,List.mem_cons,qO,or_false] at hy';rcases hy' with h | rfl | h;(exact hs.aAD.2 y (List.mem_of_mem_take h));(exact ⟨hk,hr⟩);·exact hs.aAD.2 y (List.mem_of_mem_drop h)⟩,hau⟩
theorem TE {s:M.aA} {r:M.aC} {i:Nat} (hi:i<s.aAD.length) (hs:s.ok) (hr:r.ok):M.aA.ok (⟨s.Name,s.aAD.set i (⟨s.aAD[i].Key,r⟩:M.aAQ),s.aAd⟩:M.aA):=
 ⟨hs.Name,⟨by show (s.aAD.set i _).length<=maxLen;rw [qN];exact hs.aAD.1,λy hy=>by have hy':y∈s.aAD.set i (⟨s.aAD[i].Key,r⟩:M.aAQ):=hy;rcases List.mem_or_eq_of_mem_set hy' with h | rfl;(exact hs.aAD.2 y h);·exact ⟨(hs.aAD.2 _ (qG hi)).Key,hr⟩⟩,hs.aAd⟩
theorem OF {s:M.aA} {k:M.Key} (hs:s.ok) (hk:k.ok):inI (Ex s k):=by unfold Ex;split;(exact hk.N);·exact hs.aAd
def tPS (s:M.aA) (k:M.Key) (r:M.aC) (j:Nat):Option (M.aA×Bool):=(xE s.aAD (j:Int)).bind λ_=>((app 56 ([]:List M.aAQ) (List.take (j:Int).toNat s.aAD)).bind λ_=>((bU r).bind λaa=>((app 56 (List.take (j:Int).toNat s.aAD) ([(⟨k,aa⟩:M.aAQ)])).bind λ_=>((app 56 ((List.take (j:Int).toNat s.aAD)++[(⟨k,aa⟩:M.aAQ)]) (List.drop (j:Int).toNat s.aAD)).bind λ_=>(if (k.aAV==1)=true then ((aZ k.N (i64.wrap (s.aAd+1)) 1000000).bind λae=>(if ae=true then (some ((⟨s.Name,(((List.take (j:Int).toNat s.aAD)++[(⟨k,aa⟩:M.aAQ)])++(List.drop (j:Int).toNat s.aAD)),k.N⟩:M.aA),true)) else (some ((⟨s.Name,(((List.take (j:Int).toNat s.aAD)++[(⟨k,aa⟩:M.aAQ)])++(List.drop (j:Int).toNat s.aAD)),s.aAd⟩:M.aA),true)))) else (some ((⟨s.Name,(((List.take (j:Int).toNat s.aAD)++[(⟨k,aa⟩:M.aAQ)])++(List.drop (j:Int).toNat s.aAD)),s.aAd⟩:M.aA),true)))))))
theorem uM {s:M.aA} {k:M.Key} {r:M.aC} (hs:s.ok) (hk:k.ok) (hr:r.ok) (hR:bR r=true) (hz:M.aA.sz s<=1073741824) (hzr:M.aC.sz r<=1073741824):dO s k r=some (Aj s k r):=by
 have hl:s.aAD.length<=1073741824:=by simp only [M.aA.sz] at hz;omega
 have hp:=JB s.aAD k
 unfold dO Aj
 rw [uU hs,jT hk,mU hr,hR,mK s hz,wA hs,yL r hzr]
 simp only [qA]
 cases hS:gE s with
 | false=>simp
 | true =>
  cases hK:Ao k with
  | false=>simp
  | true =>
   simp only [qB,qD,if_false,if_true]
   by_cases h:oF (uY k) s.aAD<0
   ·rw [if_neg qc,if_pos h]
    by_cases aa:s.aAD.length<16
    ·rw [if_neg qc,if_pos aa,JP (l:=s.aAD) (f:=FO k) (L:=lX s k r s) (S:=tPS s k r) hs.aAD.1 (λm j hj => ?_) (λm => ?_)]
     ·show tPS s k r (AP s.aAD k)=_
      obtain ⟨_,_,_,ha4,ha5⟩:=tQ hS
      have ew:i64.wrap (s.aAd+1)=s.aAd+1:=bI qb qb
      have ei:inR k.N (s.aAd+1) 1000000=(decide (k.N>s.aAd)&&decide (k.N<=1000000)):=by unfold inR;congr 1
      unfold tPS
      rw [AJ hp,qA,qH,IY (by rw [qT];omega) qb,qA,yL r hzr,qA,fQ qu,qA,fQ qo,qA,qS,bX,qA,ew,ei]
      unfold Kp Ex
      cases (k.aAV==1)<;>cases (decide (k.N>s.aAd)&&decide (k.N<=1000000))<;>rfl
     ·have hj':=hs.aAD.2 _ (qG hj);simp only [lX];rw [if_pos (bB hj),aM hj,qA,rU hj'.Key hk,qA,bM qb];rfl
     ·simp only [lX];rw [if_neg qk];rfl
    ·rw [if_pos qc,if_neg aa]
   ·obtain ⟨i,e,hi⟩:=lE h;rw [if_pos (by simpa using h),if_neg h,e,aM hi,qA,qH];unfold LU;rw [qF hi]
def iS (s:M.aA) (k:M.Key):M.aC:=if oF (uY k) s.aAD<0 then (⟨([]:List M.Field)⟩:M.aC) else (match s.aAD[(oF (uY k) s.aAD).toNat]? with | some x=>x.aC | none=>(⟨([]:List M.Field)⟩:M.aC))
def IL (s:M.aA) (w:M.bA):M.aA×Bool:=if (FE (iS s w.Key) w.Field w.N).2=true then Aj s w.Key (FE (iS s w.Key) w.Field w.N).1 else (s,false)
theorem D3:M.aC.ok (⟨([]:List M.Field)⟩:M.aC):=⟨⟨by simp [maxLen],qd⟩⟩
theorem DV {s:M.aA} {k:M.Key} (hs:s.ok):(iS s k).ok:=by unfold iS;split;(exact D3);·split;(rename_i x hx;exact (hs.aAD.2 x (List.mem_of_getElem? hx)).aC);·exact D3
theorem J8 (s:M.aA) (k:M.Key):M.aC.sz (iS s k)<=M.aA.sz s:=by
 unfold iS
 split
 ·simp [M.aC.sz,gO]
 ·split
  ·rename_i x hx
   have h1:=sM (f:=M.aAQ.sz) (List.mem_of_getElem? hx)
   have h2:M.aC.sz x.aC<=M.aAQ.sz x:=by simp only [M.aAQ.sz];omega
   simp only [M.aA.sz]
   omega
  ·simp [M.aC.sz,gO]
theorem QK {r:M.aC} {a:ByteArray} {n:Int} (hr:r.ok) (hl:r.aAF.length<=1073741824) (ha:a.size<=maxLen) (hn:inI n):M.aC.ok (⟨L0 r a n⟩:M.aC):=by unfold L0;by_cases h:oF (nB a) r.aAF<0;(rw [if_pos h];exact Sv _ hr hl ha hn);·rw [if_neg h];obtain ⟨k,e,hk⟩:=lE h;rw [e,qH,qF hk];exact Px hk hr hn
theorem Jl {r:M.aC} {a:ByteArray} {n:Int} (hr:r.ok) (hl:r.aAF.length<=1073741824) (ha:a.size<=maxLen) (hn:inI n):(FE r a n).1.ok:=by unfold FE Ji;split;(split;(exact QK hr hl ha hn);·exact hr);·exact hr
theorem CB {r:M.aC} {a:ByteArray} {n:Int} (h:(FE r a n).2=true):bR (FE r a n).1=true:=by unfold FE Ji at h ⊢;by_cases h1:bR r=true;(rw [if_pos h1] at h ⊢;by_cases h2:bR (⟨L0 r a n⟩:M.aC)=true;(rw [if_pos h2];exact h2);·rw [if_neg h2] at h;cases h);·rw [if_neg h1] at h;cases h
theorem Dg {r:M.aC} (h:bR r=true):M.aC.sz r<=100:=by obtain ⟨h1,h2⟩:=tU h;have:=fR (w:=M.Field.sz) (b:=8) (xs:=r.aAF) (λx hx=>by have:=(h2 x hx).1;simp only [M.Field.sz];omega);simp only [M.aC.sz];omega
theorem mV {s:M.aA} (h:gE s=true):M.aA.sz s<=10000:=by
 obtain ⟨h1,h2,h3,_,_⟩:=tQ h
 obtain ⟨a1,_⟩:=Eo h1
 have hn:s.Name.size<=8:=by unfold kI inR at h2;simp only [qM,qL] at h2;omega
 have:=fR (w:=M.aAQ.sz) (b:=112) (xs:=s.aAD) (λx hx=>by obtain ⟨k,hk,rfl⟩:=List.mem_iff_getElem.1 hx;obtain ⟨b1,b2⟩:=a1 k _ (qF hk);have c1:=Cx b1;have c2:=Dg b2;simp only [M.aAQ.sz,M.Key.sz];omega)
 simp only [M.aA.sz]
 omega
theorem Bc {s:M.aA} {k:M.Key} {r:M.aC} (hR:bR r=true) (h:(Aj s k r).2=true):gE (Aj s k r).1=true:=by unfold Aj at h ⊢;by_cases hS:gE s=true;(rw [if_pos hS] at h ⊢;by_cases hK:Ao k=true;(rw [if_pos hK] at h ⊢;by_cases hf:oF (uY k) s.aAD<0;(rw [if_pos hf] at h ⊢;by_cases aa:s.aAD.length<16;(rw [if_pos aa];have:=OR hS hK hR hf _ (QU (k:=k) hS);simp only [aa,decide_true] at this;exact this);·rw [if_neg aa] at h;cases h);·rw [if_neg hf];obtain ⟨i,e,hi⟩:=lE hf;simp only [e,qH];rw [Qk hS hi];exact hR);·rw [if_neg hK] at h;cases h);·rw [if_neg hS] at h;cases h
theorem Js {s:M.aA} {k:M.Key} {r:M.aC} (hs:s.ok) (hl:s.aAD.length<=1073741824) (hk:k.ok) (hr:r.ok):(Aj s k r).1.ok:=by unfold Aj;by_cases hS:gE s=true;(rw [if_pos hS];by_cases hK:Ao k=true;(rw [if_pos hK];by_cases hf:oF (uY k) s.aAD<0;(rw [if_pos hf];split;(exact PT _ hs hl hk hr (OF hs hk));·exact hs);·rw [if_neg hf];obtain ⟨i,e,hi⟩:=lE hf;simp only [e,qH];unfold LU;rw [qF hi];exact TE hi hs hr);·rw [if_neg hK];exact hs);·rw [if_neg hS];exact hs
theorem FG {s:M.aA} {k:M.Key} {r:M.aC} (h:(Aj s k r).2=false):(Aj s k r).1=s:=by unfold Aj at h ⊢;by_cases hS:gE s=true;(rw [if_pos hS] at h ⊢;by_cases hK:Ao k=true;(rw [if_pos hK] at h ⊢;by_cases hf:oF (uY k) s.aAD<0;(rw [if_pos hf] at h ⊢;by_cases aa:s.aAD.length<16;(rw [if_pos aa] at h;cases h);·rw [if_neg aa]);·rw [if_neg hf] at h;cases h);·rw [if_neg hK]);·rw [if_neg hS]
theorem HS {s:M.aA} {w:M.bA} (h:(IL s w).2=false):(IL s w).1=s:=by unfold IL at h ⊢;by_cases h1:(FE (iS s w.Key) w.Field w.N).2=true;(rw [if_pos h1] at h ⊢;exact FG h);·rw [if_neg h1]
theorem GL {s:M.aA} {w:M.bA} (hs:s.ok) (hw:w.ok) (hz:M.aA.sz s<=536870912):(IL s w).1.ok/\M.aA.sz (IL s w).1<=536870912:=by
 have hl:s.aAD.length<=1073741824:=by simp only [M.aA.sz] at hz;omega
 have hzr:=J8 s w.Key
 have hlr:(iS s w.Key).aAF.length<=1073741824:=by simp only [M.aC.sz] at hzr;omega
 cases h2:(IL s w).2 with
 | false=>rw [HS h2];exact ⟨hs,hz⟩
 | true =>
  unfold IL at h2 ⊢
  by_cases h1:(FE (iS s w.Key) w.Field w.N).2=true
  ·rw [if_pos h1] at h2 ⊢;have:=mV (Bc (CB h1) h2);exact ⟨Js hs hl hw.Key (Jl (DV hs) hlr hw.Field hw.N),qb⟩
  ·rw [if_neg h1] at h2;cases h2
theorem xP {s:M.aA} {w:M.bA} (hs:s.ok) (hw:w.ok) (hz:M.aA.sz s<=1073741824):iT s w=some (IL s w):=by
 have hzr:=J8 s w.Key
 have hlr:(iS s w.Key).aAF.length<=1073741824:=by simp only [M.aC.sz] at hzr;omega
 have nT:=yE (r:=iS s w.Key) (a:=w.Field) (n:=w.N) (DV hs) qb hw.Field hw.N
 have hput:(FE (iS s w.Key) w.Field w.N).2=true->dO s w.Key (FE (iS s w.Key) w.Field w.N).1=some (Aj s w.Key (FE (iS s w.Key) w.Field w.N).1):=λh1 =>
  uM hs hw.Key (Jl (DV hs) hlr hw.Field hw.N) (CB h1) hz (Nat.le_trans (Dg (CB h1)) qb)
 have hfin:((some (FE (iS s w.Key) w.Field w.N)).bind λx9=>(if (!x9.2)=true then ((bO s).bind λae=>(some (ae,false))) else ((dO s w.Key x9.1).bind λaa=>(some (aa.1,aa.2)))))=some (IL s w):=by
  rw [qA,mK s hz]
  unfold IL
  cases h1:(FE (iS s w.Key) w.Field w.N).2 with
  | false=>simp
  | true =>
   rw [hput h1]
   simp
 unfold iT
 rw [wA hs,qA]
 by_cases h:oF (uY w.Key) s.aAD<0
 ·have e:iS s w.Key=(⟨([]:List M.Field)⟩:M.aC):=by unfold iS;rw [if_pos h]
  rw [if_neg qc]
  rw [e] at nT hfin
  rw [nT]
  exact hfin
 ·obtain ⟨i,ei,hi⟩:=lE h
  have e:iS s w.Key=s.aAD[i].aC:=by unfold iS;rw [if_neg h,ei,qH,qF hi]
  rw [if_pos (by simpa using h),ei,aM hi,qA]
  rw [e] at nT hfin
  rw [nT]
  exact hfin
def A0 (s:M.aA) (l:List M.bA):M.aA:=l.foldl (λt w=>(IL t w).1) s
theorem Cp {s:M.aA} {l:List M.bA} (hs:s.ok) (hl:l.length<=maxLen) (ho : ∀w∈l,M.bA.ok w) (hz:M.aA.sz s<=536870912):tG s l=some (A0 s l):=by
 have hm:=le_max hl
 unfold tG A0
 rw [mK s qb,qA]
 have:=Mt (xs:=l) (L:=λn k (t:M.aA)=>hZ l n k t.Name t.aAd t.aAD) (step:=λt w=>(IL t w).1) (I:=λ_ t=>t.ok/\M.aA.sz t<=536870912) (E:=some) hl
  (λt k hk hi=>GL hi.1 (ho _ (qG hk)) hi.2) (λn t k hk hi=>by
   simp only [hZ]
   rw [if_pos (bB hk),aM hk,qA,show (⟨t.Name,t.aAD,t.aAd⟩:M.aA)=t from rfl,xP hi.1 (ho _ (qG hk)) qb,qA,bM qb]
   cases h2:(IL t l[k]).2 with
   | true=>rfl
   | false=>rw [HS h2];rfl) (λn t hi=>by
   simp only [hZ]
   rw [if_neg qk]) s ⟨hs,hz⟩
 exact this.1
theorem BC : ∀(j n:Nat),n<2^(7*(j+1))->(uv n).length<=j+1
 | 0,n,h=>by rw [Gj (by simpa using h)];simp
 | j+1,n,h=>by
  by_cases h1:n<128
  ·rw [Gj h1];simp
  ·rw [LP h1,qJ]
   have e:2^(7*(j+1+1))=2^(7*(j+1))*128:=by rw [show 7*(j+1+1)=7*(j+1)+7 from by omega,Nat.pow_add]
   have:=BC j (n/128) (by rw [e] at h;omega)
   omega
theorem ET {n:Nat} (h:n<=1000000000000):(uv n).length<=6:=BC 5 n (Nat.lt_of_le_of_lt h qe)
theorem Nh (n:Nat):1<=(uv n).length:=by by_cases h:n<128;(rw [Gj h];simp);·rw [LP h];simp
theorem Dp : ∀(n:Nat) (x:Int),x∈uv n->0<=x/\x<=255:=by
 intro n
 induction n using Nat.strongRecOn with
 | _ n ih =>
  intro x hx
  by_cases h:n<128
  ·rw [Gj h,List.mem_singleton] at hx;subst hx;omega
  ·rw [LP h,List.mem_cons] at hx;rcases hx with rfl | hx;(omega);·exact ih (n/128) qb x hx
def P1 (b:List Int) (a:Nat):Nat->Nat->Nat->Int×Int×Bool
 | 0,_,_=>(0,0,false)
 | j+1,k,n=>match b[a+k]? with
  | none=>(0,0,false)
  | some x=>if x.toNat<128 then (if (decide (x.toNat=0)&&decide (0<k))||decide (1000000000000<n+x.toNat%128*2^(7*k)) then (0,0,false) else (((n+x.toNat%128*2^(7*k):Nat):Int),((a+k+1:Nat):Int),true)) else P1 b a j (k+1) (n+x.toNat%128*2^(7*k))
def nUv (b:List Int) (p:Int):Int×Int×Bool:=if p<0 then (0,0,false) else P1 b p.toNat 6 0 0
theorem KY {k:Nat} (h:k<6):2^(7*k)<=34359738368:=Nat.pow_le_pow_right (n:=2) qe (show 7*k<=35 by omega)
theorem T8 {k n x:Nat} (hn:n<2^(7*k)):n+x%128*2^(7*k)<2^(7*(k+1)):=by
 have e:2^(7*(k+1))=2^(7*k)*128:=by rw [show 7*(k+1)=7*k+7 from by omega,Nat.pow_add]
 have h1:x%128<=127:=by omega
 have h2:x%128*2^(7*k)<=127*2^(7*k):=Nat.mul_le_mul_right _ h1
 rw [e]
 omega
theorem SF {n x k:Nat} (h:n<2^k):n|||x*2^k=n+x*2^k:=by have:=Nat.two_pow_add_eq_or_of_lt h x;rw [Nat.mul_comm x,Nat.or_comm,<-this,Nat.add_comm]
theorem QH {k x:Nat} (hk:k<6):i64.wrap (((x%128:Nat):Int)*2^(min (i64.wrap (7*(k:Int))).toNat IntKind.i64.bits))=((x%128*2^(7*k):Nat):Int):=by
 have hp:=KY hk
 have h1:x%128<=127:=by omega
 have h2:x%128*2^(7*k)<=127*2^(7*k):=Nat.mul_le_mul_right _ h1
 have e:min (i64.wrap (7*(k:Int))).toNat IntKind.i64.bits=7*k:=by rw [bI qb qb,show IntKind.i64.bits=64 from rfl];omega
 rw [e,show (((x%128:Nat):Int)*2^(7*k))=((x%128*2^(7*k):Nat):Int) from by rw [Int.natCast_mul,Int.natCast_pow];rfl]
 exact bI qb qb
theorem uvS {n k x:Nat} (hk:k<6) (hx:x<=255) (hn:n<2^(7*k)):(i64.wrap (BitVec.ofInt (IntKind.i64.bits) (n:Int)|||BitVec.ofInt (IntKind.i64.bits) (i64.wrap ((i64.wrap (BitVec.ofInt (IntKind.i64.bits) (i64.wrap (x:Int))&&&BitVec.ofInt (IntKind.i64.bits) 127).toNat)*2^(min (i64.wrap (7*(k:Int))).toNat IntKind.i64.bits)))).toNat)=((n+x%128*2^(7*k):Nat):Int):=by
 have hp:=KY hk
 have h1:x%128<=127:=by omega
 have h2:x%128*2^(7*k)<=127*2^(7*k):=Nat.mul_le_mul_right _ h1
 have e:=Jh (n:=x) (m:=127) qb qb
 rw [SA] at e
 rw [bI (n:=(x:Int)) qb qb,show ((127:Int))=((127:Nat):Int) from rfl,e,QH hk,Lu qb qb,SF hn]
theorem Tz {b:List Int} (hb:okB b) {k:Nat} (h:k<b.length) : ∃x:Nat,b[k]=(x:Int)/\x<=255:=by have:=hb.2 _ (qG h);exact ⟨b[k].toNat,qb,qb⟩
theorem rdS {b:List Int} (hb:okB b) (hl:b.length<=1048576) (a:Nat) (ha:(a:Int)<=9223372036854775807) : ∀(j k n m:Nat),j+k=6->n<2^(7*k)->j<m->dL b (a:Int) m (n:Int) (k:Int)=some (P1 b a j k n)
 | _,_,_,0,_,_,h=>by omega
 | 0,k,n,m+1,hk,_,_=>by simp only [dL];rw [if_neg qc];rfl
 | j+1,k,n,m+1,hk,hn,hm=>by
  have h6:k<6:=by omega
  simp only [dL]
  rw [if_pos qc,if_neg qd,bI (n:=(b.length:Int)-(k:Int)) qb qb]
  by_cases hlt:a+k<b.length
  ·obtain ⟨x,ex,hx⟩:=Tz hb hlt;rw [if_neg qc,show ((a:Int)+(k:Int))=((a+k:Nat):Int) from by omega,bI (n:=((a+k:Nat):Int)) qb qb,aM hlt,qA,ex,bM qb,bM qb,if_pos (by rw [bI qb qb];simp;omega)];rw [uvS h6 hx hn,bI (n:=(x:Int)) qb qb];unfold P1;rw [qF hlt,ex];dsimp only;rw [qH];have ih:=rdS hb hl a ha j (k+1) (n+x%128*2^(7*k)) m qb (T8 hn) qb;by_cases h1:x<128;(rw [if_pos qc,if_pos h1];by_cases h2:x=0;(rw [if_pos (by simp [h2])];by_cases h3:0<k;(rw [if_pos qc,if_pos (by simp [h2,h3])]);·rw [if_neg qc];by_cases h4:1000000000000<n+x%128*2^(7*k);(rw [if_pos (by rw [qL];omega),if_pos (by rw [Bool.or_eq_true,qL];exact .inr h4)]);·rw [if_neg (by rw [qL];omega),if_neg (by rw [Bool.or_eq_true,qM,qL,qL,qL];omega)]);·rw [if_neg qc];by_cases h4:1000000000000<n+x%128*2^(7*k);(rw [if_pos (by rw [qL];omega),if_pos (by rw [Bool.or_eq_true,qL];exact .inr h4)]);·rw [if_neg (by rw [qL];omega),if_neg (by rw [Bool.or_eq_true,qM,qL,qL,qL];omega)]);·rw [if_neg qc,if_neg h1];exact ih
  ·rw [if_pos qc];unfold P1;rw [qX qb]
theorem nG {b:List Int} {p:Int} (hb:okB b) (hl:b.length<=1048576) (hp:inI p):eN b p=some (nUv b p):=by
 unfold eN nUv
 by_cases h:p<0
 ·have e : ∀m,dL b p (m+1) 0 0=some (0,0,false):=λm=>by
   simp only [dL]
   rw [if_pos qe,if_pos (by simpa using h)]
  rw [if_pos h]
  exact e 18446744073709551615
 ·rw [if_neg h];obtain ⟨a,rfl⟩:=Int.eq_ofNat_of_zero_le (show 0<=p by omega);exact rdS hb hl a hp.2 6 0 0 fuel rfl qe qi
theorem Om (b:List Int) (a:Nat) : ∀(j k n:Nat),(P1 b a j k n).2.2=false->P1 b a j k n=(0,0,false)
 | 0,_,_,_=>rfl
 | j+1,k,n,h=>by
  unfold P1 at h ⊢
  cases e:b[a+k]? with
  | none=>rfl
  | some x =>
   rw [e] at h
   dsimp only at h ⊢
   split at h
   ·split at h;(rename_i h1 h2;rw [if_pos h1,if_pos h2]);·cases h
   ·rename_i h1;rw [if_neg h1];exact Om b a j (k+1) _ h
theorem UG {b:List Int} {p:Int} (h:(nUv b p).2.2=false):nUv b p=(0,0,false):=by unfold nUv at h ⊢;split;(rfl);·rename_i h1;rw [if_neg h1] at h;exact Om b _ 6 0 0 h
end Go.Proofs.YtipmihbgjolaaaaGreat.gen
