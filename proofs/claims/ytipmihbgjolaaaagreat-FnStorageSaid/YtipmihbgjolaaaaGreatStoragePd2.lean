/-
  Helper text. No conditions.
-/
import Derived.Test.YtipmihbgjolaaaaGreatStoragePd1
set_option linter.unusedVariables false
set_option linter.unusedSimpArgs false
namespace Go.Proofs.YtipmihbgjolaaaaGreat.gen
open Go Go.Sh
theorem Cv{a b:M.YY}(j:a.ok):mG a b=some (Ah a b):=by simp only[mG,Ez (f:=Cd) j.Y5.1 (λx C y I=>AE (j.Y5.2 x C)),FQ j.Za.1,qA,aW,wX,pC,Ah]
theorem B6{a b:M.YY}(I:a.ok):mI a b=some (Ah a b):=by
 have hm:=le_max I.Y5.1
 have hm2:=le_max I.Za.1
 have J:(if((List.length a.Za:Int) !=(List.length b.Za:Int))=true then some false else cW a b fuel 0)=if eqL tB a.Za b.Za=true then some true else some false:=by refine CP (f:=tB) I.Za.1 (λn k C j=> ?_) (λn=> ?_);(simp only[cW];rw[if_pos (aY C),aN C,aN j,qA,qA,bN qc,iG];rfl);·simp only[cW];rw[if_neg ql]
 have h1:∀E,(∀n,cV a b (n+1) (a.Y5.length:Int)=E)->(if((List.length a.Y5:Int) !=(List.length b.Y5:Int))=true then some false else cV a b fuel 0)=if eqL Cd a.Y5 b.Y5=true then E else some false:=by intro E U;refine CP (f:=Cd) I.Y5.1 (λn k C j=> ?_) U;simp only[cV];rw[if_pos (aY C),aN C,aN j,qA,qA,bN qc,AF (I.Y5.2 _ (qG C)),qA,iG]
 unfold mI
 by_cases hu:a.Za.length=b.Za.length
 ·rw[if_neg (show ¬((List.length a.Za:Int) !=(List.length b.Za:Int))=true by simp[hu])]at J⊢;rw[h1 (cW a b fuel 0) (λn=>by simp only[cV];rw[if_neg ql]),J,aW,aW,Bool.and_true,pC,wX];rfl
 ·rw[if_pos (show((List.length a.Za:Int) !=(List.length b.Za:Int))=true by simp;omega)]
  have:eqL tB a.Za b.Za=false:=by
   cases h:eqL tB a.Za b.Za with
   |false=>rfl
   |true=>exact absurd (KP h) hu
  simp[Ah,this]
def KZ(x y:M.bG):Bool:=Ah x.Zf y.Zf&&(eqL xG x.ZD y.ZD&&(x.Zu==y.Zu))
theorem EO{a b:M.bG}(j:a.ok):sD a b=some (KZ a b):=by simp only[sD,Cv j.Zf,A8 j.ZD,qA,aW,wX,pC,KZ]
theorem ES{a b:M.bG}(j:a.ok)(C:b.ok):rZ a b=some (KZ a b):=by simp only[rZ,B6 j.Zf,yB j.ZD C.ZD,qA,aW,wX,pC,KZ]
def E1(x y:M.aF):Bool:=(x.Zg==y.Zg)&&((x.Zr==y.Zr)&&eqL CG x.Y9 y.Y9)
theorem CQ{a b:M.aF}(j:a.ok):nO a b=some (E1 a b):=by simp only[nO,IF j.Y9.1,qA,aW,wX,pC,E1]
theorem CV{a b:M.aF}(C:a.ok):nK a b=some (E1 a b):=by have J:=le_max C.Y9.1;unfold nK;rw[CP (f:=CG) C.Y9.1 (E:=some true) (λn k I j=> ?_) (λn=> ?_),aW,Bool.and_true,pC,pC];(rfl);(simp only[gE];rw[if_pos (aY I),aN I,aN j,qA,qA,bN qc,iG];rfl);·simp only[gE];rw[if_neg ql]
def M6(x y:M.Ze):Bool:=E1 x.aF y.aF&&((x.Zt==y.Zt)&&(x.Zj==y.Zj))
theorem EK{a b:M.Ze}(j:a.ok):sS a b=some (M6 a b):=by simp only[sS,CQ j.aF,qA,aW,wX,pC,M6]
theorem ET{a b:M.Ze}(j:a.ok):rR a b=some (M6 a b):=by simp only[rR,CV j.aF,qA,aW,wX,pC,M6]
def BB(x y:M.aD):Bool:=Cd x.Zf y.Zf&&((x.Zx==y.Zx)&&M6 x.Ze y.Ze)
theorem CR{a b:M.aD}(j:a.ok):nG a b=some (BB a b):=by simp only[nG,AE j.Zf,EK j.Ze,qA,aW,wX,pC,BB]
theorem CW{a b:M.aD}(j:a.ok):nF a b=some (BB a b):=by simp only[nF,AF j.Zf,ET j.Ze,qA,aW,wX,pC,BB]
def TZ(x y:M.YZ):Bool:=(x.Zh.toList==y.Zh.toList)&&((x.Zm==y.Zm)&&((x.Zs==y.Zs)&&(x.Zv==y.Zv)))
def Cr(x y:M.aK):Bool:=(x.Zh.toList==y.Zh.toList)&&((x.Zw.toList==y.Zw.toList)&&(TZ x.YZ y.YZ&&(Ce x.Y1 y.Y1&&(KZ x.bG y.bG&&(BB x.aD y.aD&&((x.Zo==y.Zo)&&(x.Zl==y.Zl)))))))
theorem Dt{a b:M.aK}(j:a.ok):lL a b=some (Cr a b):=by simp only[lL,B2 j.Y1,EO j.bG,CR j.aD,qA,aW,wX,pC,Cr,TZ]
theorem wU{a b:M.aK}(j:a.ok)(C:b.ok):iW a b=some (Cr a b):=by simp only[iW,Cm j.Y1 C.Y1,ES j.bG C.bG,CW j.aD,qA,aW,wX,pC,Cr,TZ]
def IM(x y:M.aH):Bool:=eqL Cr x.Y0 y.Y0
theorem CU{a b:M.aH}(j:a.ok):nL a b=some (IM a b):=by simp only[nL,D2 (f:=Cr) j.Y0.1 (λx C y I=>Dt (j.Y0.2 x C)),qA,aW,wX,pC,IM]
theorem DU{l:List Int}(C:l.length<=1048576):rH l=some ([(List.length l:Int)]++l.map IntKind.i64.wrap):=by unfold rH;have:=Pg (b:=8) (xs:=l) (f:=IntKind.i64.wrap) (L:=fU l) (λn k j r=> ?_) (λn r=> ?_) fuel 0 ([(List.length l:Int)]) qj qc qd;(simpa using this);(simp only[fU];rw[if_pos (aY j),aN j,qA,bN qc]);·simp only[fU];rw[if_neg ql]
theorem MN(x:Int):AW x 2147483647=some (Oa x):=by
 have e:aZ 2147483647 1 1000000000000=some true:=by decide
 unfold AW
 rw[e,qA,if_neg qe,if_neg qe,P8]
theorem K5{l:List Int}(j:l.length<=maxLen):Ak l=some (Nk l):=by have I:=le_max j;unfold Ak Nk;refine C9 (L:=rM l) (E:=some) j (λn v k C=> ?_) (λn v=> ?_) 11;(simp only[rM];rw[if_pos (aY C),aN C,qA,MN,qA,bN qc];rfl);·simp only[rM];rw[if_neg ql]
theorem Hb{α R:Type}{l:List α}{f:α->Bool}{L:Nat->Int->Option R}{S:Nat->Option R}(U:l.length<=maxLen)
  (J:∀n (k:Nat) (I:k<l.length),L (n+1) (k:Int)=if f l[k]=true then L n ((k+1:Nat):Int)else S k)(j:∀n,L (n+1) (l.length:Int)=S l.length):L fuel 0=S (l.takeWhile f).length:=by
 have hm:=le_max U
 have key:∀(n k:Nat),l.length-k<n->k<=l.length->L n (k:Int)=S (k+((l.drop k).takeWhile f).length):=by
  intro n
  induction n with
  |zero=>intro k h _;omega
  |succ n C=>
   intro k hn I
   rcases Nat.lt_or_ge k l.length with h|h
   ·rw[J n k h,qW h,List.takeWhile_cons];by_cases hf:f l[k]=true;(rw[if_pos hf,if_pos hf,C (k+1) qc h,qJ];congr 1;omega);·rw[if_neg hf,if_neg hf];simp
   ·have:k=l.length:=by omega
    subst this
    rw[j n]
    simp
 have:=key fuel 0 qj qc
 simpa using this
def OG(s:M.aH)(b:M.aK):Nat:=(s.Y0.takeWhile (λx=>uF x b)).length
theorem Lf(s:M.aH)(b:M.aK):OG s b<=s.Y0.length:=(List.takeWhile_prefix _).length_le
def yG(s:M.aH)(b:M.aK):List M.aK:=if pU (nAt b.Zh b.Zw) s.Y0>=0 then s.Y0.set (pU (nAt b.Zh b.Zw) s.Y0).toNat b else s.Y0.take (OG s b)++([b]++s.Y0.drop (OG s b))
def Ix(s:M.aH)(l:List M.aK):M.aH×Bool:=if pB s=true then if pB (⟨l⟩:M.aH)=true then((⟨l⟩:M.aH),true)else(s,false)else(s,false)
def Ja(s:M.aH)(b:M.aK):M.aH×Bool:=Ix s (yG s b)
theorem Hm{s:M.aH}{b x:M.aK}(h:x∈yG s b):x=b\/x∈s.Y0:=by unfold yG at h;split at h;(rcases List.mem_or_eq_of_mem_set h with h|h;(exact .inr h);·exact .inl h);·simp only[qP,List.mem_cons,qO,or_false]at h;rcases h with h|h|h;(exact .inr (List.mem_of_mem_take h));(exact .inl h);·exact .inr (List.mem_of_mem_drop h)
theorem JA(s:M.aH)(b:M.aK):(yG s b).length<=s.Y0.length+1:=by have:=Lf s b;unfold yG;split;(simp);·simp only[qE,qU,qJ,qK,qV];omega
theorem Hn{α:Type}{f:α->Nat}{x:α}:∀{l:List α} {i:Nat},jO f (l.set i x)<=jO f l+f x
 |[],_=>by simp[jO]
 |y::l,0=>by simp only[List.set_cons_zero,jO];omega
 |y::l,i+1=>by have:=Hn (f:=f) (x:=x) (l:=l) (i:=i);simp only[List.set_cons_succ,jO];omega
theorem Ae{α:Type}{f:α->Nat}:∀(l r:List α),jO f (l++r)=jO f l+jO f r
 |[],r=>by simp[jO]
 |y::l,r=>by simp only[List.cons_append,jO,Ae l r];omega
theorem RV{s:M.aH}(j:M.aH.sz s<=1048576):∀x∈s.Y0,M.aK.sz x<=1048576:=λx C=>by have:=iE (f:=M.aK.sz) C;simp only[M.aH.sz]at j;omega
theorem IG{s:M.aH}{b:M.aK}(C:s.ok)(j:b.ok)(I:M.aH.sz s<=1048576):M.aH.ok (⟨yG s b⟩:M.aH):=
 ⟨⟨by show(yG s b).length<=maxLen;have:=JA s b;simp only[M.aH.sz]at I;unfold maxLen;omega,λx J=>by rcases Hm J with rfl|h;(exact j);·exact C.Y0.2 x h⟩⟩
theorem Kz{s:M.aH}{b:M.aK}(C:M.aH.sz s<=1048576)(j:M.YY.sz b.bG.Zf<=1048576):∀x∈yG s b,M.YY.sz x.bG.Zf<=1048576:=λx I=>by rcases Hm I with rfl|h;(exact j);·exact Ch (RV C x h)
theorem RM{s:M.aH}{b:M.aK}(j:s.ok)(C:b.ok)(I:M.aH.sz s<=1048576):M.aH.ok (Ja s b).1:=by unfold Ja Ix;split;(split;(exact IG j C I);·exact j);·exact j
theorem LI{s:M.aH}{l:List M.aK}(hs:s.ok)(U:M.aH.sz s<=1048576)(hl:M.aH.ok (⟨l⟩:M.aH))(J:∀x∈l,M.YY.sz x.bG.Zf<=1048576):
  ((cC s).bind λj=>if(!j)=true then(some s).bind λaf=>some (af,false)else(cC (⟨l⟩:M.aH)).bind λC=>if(!C)=true then(some s).bind λI=>some (I,false)else some ((⟨l⟩:M.aH),true))=some (Ix s l):=by
 rw[Gd hs U,qA,AZ hl J]
 unfold Ix
 cases pB s
 ·simp
 ·cases pB (⟨l⟩:M.aH)<;>simp
theorem Mu{s:M.aH}{l:List M.aK}(hs:s.ok)(U:M.aH.sz s<=1048576)(hl:M.aH.ok (⟨l⟩:M.aH))(J:∀x∈l,M.YY.sz x.bG.Zf<=1048576):
  ((cD s).bind λj=>if(!j)=true then(some s).bind λaf=>some (af,false)else(cD (⟨l⟩:M.aH)).bind λC=>if(!C)=true then(some s).bind λI=>some (I,false)else some ((⟨l⟩:M.aH),true))=some (Ix s l):=by
 rw[FZ hs U,qA,A9 hl J]
 unfold Ix
 cases pB s
 ·simp
 ·cases pB (⟨l⟩:M.aH)<;>simp
def tS(s:M.aH)(b:M.aK)(k:Nat):Option (M.aH×Bool):=(yK s.Y0 (k:Int)).bind λ_=>(app 328 ([]:List M.aK) (List.take (k:Int).toNat s.Y0)).bind λ_=>(lX b).bind λj=>(app 328 (List.take (k:Int).toNat s.Y0) ([j])).bind λ_=>(app 328 ((List.take (k:Int).toNat s.Y0)++[j]) (List.drop (k:Int).toNat s.Y0)).bind λ_=>(cC s).bind λU=>if(!U)=true then(eZ s).bind λJ=>some (J,false)else(cC (⟨((List.take (k:Int).toNat s.Y0)++[j])++(List.drop (k:Int).toNat s.Y0)⟩:M.aH)).bind λC=>if(!C)=true then(eZ s).bind λI=>some (I,false)else some ((⟨((List.take (k:Int).toNat s.Y0)++[j])++(List.drop (k:Int).toNat s.Y0)⟩:M.aH),true)
def tI(s:M.aH)(b:M.aK)(k:Nat):Option (M.aH×Bool):=(fB b).bind λj=>(Ko 328 s.Y0 (k:Int) ([j])).bind λaj=>(cD s).bind λI=>if(!I)=true then(bY s).bind λU=>some (U,false)else(cD (⟨List.take (k:Int).toNat s.Y0++([j]++List.drop (k:Int).toNat s.Y0)⟩:M.aH)).bind λJ=>if(!J)=true then(bY s).bind λC=>some (C,false)else some ((⟨List.take (k:Int).toNat s.Y0++([j]++List.drop (k:Int).toNat s.Y0)⟩:M.aH),true)
theorem EB{s:M.aH}{b:M.aK}(C:s.ok)(hb:b.ok)(I:M.aH.sz s<=1048576)(zc:M.aK.sz b<=1073741824)(zb:M.YY.sz b.bG.Zf<=1048576):kS s b=some (Ja s b):=by
 have hm:=le_max C.Y0.1
 have hlen:s.Y0.length<=1048576:=by simp only[M.aH.sz]at I;omega
 have ok:=IG C hb I
 have all:=Kz (s:=s) I zb
 have hle:=Lf s b
 unfold kS Ja
 rw[C0 s qc,qA,Ep C,qA]
 by_cases h:pU (nAt b.Zh b.Zw) s.Y0>=0
 ·obtain⟨j,hj,J⟩:=kI (show ¬pU (nAt b.Zh b.Zw) s.Y0<0 by omega)
  have e:yG s b=s.Y0.set (pU (nAt b.Zh b.Zw) s.Y0).toNat b:=by unfold yG;rw[if_pos h]
  rw[if_pos (by simpa using h),AT b qc,qA]
  rw[e]at ok all⊢
  rw[hj]at ok all⊢
  rw[aN J,qA]
  exact LI C I ok all
 ·have e:yG s b=s.Y0.take (OG s b)++([b]++s.Y0.drop (OG s b)):=by unfold yG;rw[if_neg h]
  rw[if_neg (by simpa using h),Hb (l:=s.Y0) (f:=λx=>uF x b) (L:=iV s b s) (S:=tS s b) C.Y0.1 (λn k U=> ?_) (λn=> ?_)]
  ·show tS s b (OG s b)=_;unfold tS;rw[Bu hle,qA,qH,Hh qd qc,qA,AT b qc,qA,eJ qv,qA,eJ qp,qA,qS,<-e];rw[C0 s qc];exact LI C I ok all
  ·simp only[iV];rw[if_pos (aY U),aN U,qA,C6,qA,bN qc];rfl
  ·simp only[iV];rw[if_neg ql];rfl
theorem BN{s:M.aH}{b:M.aK}(C:s.ok)(j:b.ok)(J:M.aH.sz s<=1048576)(I:M.aK.sz b<=1048576):kS s b=some (Ja s b):=EB C j J qc (Ch I)
theorem E7{s:M.aH}{b:M.aK}(C:s.ok)(hb:b.ok)(I:M.aH.sz s<=1048576)(zc:M.aK.sz b<=1073741824)(zb:M.YY.sz b.bG.Zf<=1048576):pI s b=some (Ja s b):=by
 have hm:=le_max C.Y0.1
 have hlen:s.Y0.length<=1048576:=by simp only[M.aH.sz]at I;omega
 have ok:=IG C hb I
 have all:=Kz (s:=s) I zb
 have hle:=Lf s b
 unfold pI Ja
 rw[AK s qc,qA,Bk C,qA]
 by_cases h:pU (nAt b.Zh b.Zw) s.Y0>=0
 ·obtain⟨j,hj,J⟩:=kI (show ¬pU (nAt b.Zh b.Zw) s.Y0<0 by omega)
  have e:yG s b=s.Y0.set (pU (nAt b.Zh b.Zw) s.Y0).toNat b:=by unfold yG;rw[if_pos h]
  rw[if_pos (by simpa using h),vO b qc,qA]
  rw[e]at ok all⊢
  rw[hj]at ok all⊢
  rw[aN J,qA]
  exact Mu C I ok all
 ·have e:yG s b=s.Y0.take (OG s b)++([b]++s.Y0.drop (OG s b)):=by unfold yG;rw[if_neg h]
  rw[if_neg (by simpa using h),Hb (l:=s.Y0) (f:=λx=>uF x b) (L:=iT s b s) (S:=tI s b) C.Y0.1 (λn k U=> ?_) (λn=> ?_)]
  ·show tI s b (OG s b)=_;unfold tI;rw[vO b qc,qA,LL (by simp only[qH,qJ,qK];omega),qA,qH,<-e];rw[AK s qc];exact Mu C I ok all
  ·simp only[iT];rw[if_pos (aY U),aN U,qA,Am,qA,bN qc];rfl
  ·simp only[iT];rw[if_neg ql];rfl
theorem FL{s:M.aH}{b:M.aK}(C:s.ok)(j:b.ok)(J:M.aH.sz s<=1048576)(I:M.aK.sz b<=1048576):pI s b=some (Ja s b):=E7 C j J qc (Ch I)
theorem Ir{α:Type}{l:List α}{k:Nat}(h:k<=l.length):zN l (k:Int)=some (l.drop k):=by unfold zN;rw[if_pos ⟨qc,by simpa using h⟩];simp
theorem CL:∀{a b c:List UInt8},Op.bytesLess a b=true->Op.bytesLess b c=true->Op.bytesLess a c=true
 |[],[],_,h,_=>by cases h
 |_::_,[],_,h,_=>by cases h
 |_,_::_,[],_,h=>by cases h
 |[],_::_,_::_,_,_=>rfl
 |x::a,y::b,z::c,C,j=>by
  have e1:Op.bytesLess (x::a) (y::b)=(decide (x<y)||((x==y)&&Op.bytesLess a b)):=rfl
  have e2:Op.bytesLess (y::b) (z::c)=(decide (y<z)||((y==z)&&Op.bytesLess b c)):=rfl
  have e3:Op.bytesLess (x::a) (z::c)=(decide (x<z)||((x==z)&&Op.bytesLess a c)):=rfl
  rw[e1,Bool.or_eq_true,qM,qL,UInt8.lt_iff_toNat_lt]at C
  rw[e2,Bool.or_eq_true,qM,qL,UInt8.lt_iff_toNat_lt]at j
  rw[e3,Bool.or_eq_true,qM,qL,UInt8.lt_iff_toNat_lt]
  rcases C with C|⟨C,h1'⟩<;>rcases j with j|⟨j,I⟩
  ·exact .inl qc
  ·exact .inl (by rw[<-eq_of_beq j];exact C)
  ·exact .inl (by rw[eq_of_beq C];exact j)
  ·exact .inr ⟨by rw[eq_of_beq C];exact j,CL h1' I⟩
theorem D3{α:Type}{f:α->Bool}:∀{l:List α} {k:Nat},(∀(j:Nat) (hj:j<l.length),j<k->f l[j]=true)->(∀(U:k<l.length),f l[k]=false)->k<=l.length->(l.takeWhile f).length=k
 |[],k,_,_,h=>by simp at h;simp[h]
 |x::l,0,_,h,_=>by have:=h qe;simp only[List.getElem_cons_zero]at this;rw[List.takeWhile_cons,if_neg (by rw[this];simp)];rfl
 |x::l,k+1,C,I,J=>by have:=C 0 qe qc;simp only[List.getElem_cons_zero]at this;rw[List.takeWhile_cons,if_pos this,qJ,D3 (k:=k) (λj hj hjk=> ?_) (λU=> ?_) (by simpa using J)];(have:=C (j+1) qd qc;simpa using this);·have:=I qd;simpa using this
theorem Fs{α:Type}{f:α->Bool}:∀{l:List α} (j:Nat) (C:j<l.length),j<(l.takeWhile f).length->f l[j]=true
 |[],j,C,_=>by simp at C
 |x::l,j,C,h=>by
  rw[List.takeWhile_cons]at h
  split at h
  ·rename_i I
   cases j with
   |zero=>exact I
   |succ j=>exact Fs j (by simpa using C) (by simpa using h)
  ·simp at h
theorem FF{α:Type}{f:α->Bool}:∀{l:List α} (j:(l.takeWhile f).length<l.length),f (l[(l.takeWhile f).length])=false
 |[],j=>by simp at j
 |x::l,j=>by
  cases hx:f x with
  |false=>simp[List.takeWhile_cons,hx]
  |true=>
   have C:(l.takeWhile f).length<l.length:=by rw[List.takeWhile_cons,if_pos hx]at j;simpa using j
   have:=FF C
   simpa[List.takeWhile_cons,hx]using this
theorem yJ{α:Type}{f:α->Bool}{l:List α}{k:Nat}(h:pU f l=(k:Int)):∃I:k<l.length,f l[k]=true:=by
 unfold pU at h
 cases e:l.findIdx? f with
 |none=>rw[e]at h;simp only at h;omega
 |some i=>
  rw[e]at h
  simp only at h
  have:i=k:=by omega
  subst this
  obtain⟨C,j,_⟩:=List.findIdx?_eq_some_iff_getElem.1 e
  exact⟨C,j⟩
theorem EF{α:Type}{f:α->Bool}{l:List α}(h:pU f l<0):∀x∈l,f x=false:=by
 have j:=Gq f l
 rw[decide_eq_false qc]at j
 intro x C
 cases hf:f x with
 |false=>rfl
 |true=>
  have:l.any f=true:=List.any_eq_true.2 ⟨x,C,hf⟩
  rw[<-j]at this
  cases this
theorem OF{r:M.aC}(h:bO r=true)(k:Nat)(j:k+1<r.Y4.length):Op.bytesLess r.Y4[k].Name.toList r.Y4[k+1].Name.toList=true:=by unfold bO at h;rw[qM,qQ]at h;have:=h.1 (k+1) (List.mem_range.2 j);unfold Bs at this;rw[qF j,Nat.add_sub_cancel,qF (show k<r.Y4.length by omega)]at this;simp only[Option.any_some,qM]at this;simpa using this.2
theorem RE{r:M.aC}(h:bO r=true):∀(d i:Nat) (j:i+d+1<r.Y4.length),Op.bytesLess r.Y4[i].Name.toList r.Y4[i+d+1].Name.toList=true
 |0,i,j=>OF h i j
 |d+1,i,j=>CL (RE h d i qc) (OF h (i+d+1) j)
def Ml(a:ByteArray)(x:M.Field):Bool:=Op.bytesLess x.Name.toList a.toList
def Ki(l:List M.Field)(a:ByteArray):Nat:=(l.takeWhile (Ml a)).length
theorem QG(l:List M.Field)(a:ByteArray):Ki l a<=l.length:=(List.takeWhile_prefix _).length_le
theorem KM{r:M.aC}{a:ByteArray}(h:bO r=true){k:Nat}(U:k<r.Y4.length)(C:mP a r.Y4[k]=true):Ki r.Y4 a=k:=by
 have e:r.Y4[k].Name.toList=a.toList:=eq_of_beq C
 refine D3 (λj J I=> ?_) (λ_=> ?_) qc
 ·unfold Ml
  rw[<-e]
  have:=RE h (k-j-1) j qc
  have e2:j+(k-j-1)+1=k:=by omega
  simp only[e2]at this
  exact this
 ·unfold Ml;rw[e];exact yH _
def Ld(r:M.aC)(a:ByteArray)(n:Int):List M.Field:=if pU (mP a) r.Y4<0 then r.Y4.take (Ki r.Y4 a)++([(⟨a,n⟩:M.Field)]++r.Y4.drop (Ki r.Y4 a))
 else match r.Y4[(pU (mP a) r.Y4).toNat]? with|some x=>r.Y4.set (pU (mP a) r.Y4).toNat (⟨x.Name,n⟩:M.Field)|none=>r.Y4
def IB(r:M.aC)(l:List M.Field):M.aC×Bool:=if bO r=true then if bO (⟨l⟩:M.aC)=true then((⟨l⟩:M.aC),true)else(r,false)else(r,false)
def Fg(r:M.aC)(a:ByteArray)(n:Int):M.aC×Bool:=IB r (Ld r a n)
theorem CJ{r:M.aC}(h:bO r=false)(l:List M.Field):IB r l=(r,false):=by unfold IB;rw[h,if_neg qe]
theorem Rm{r:M.aC}{a:ByteArray}{n:Int}(k:Nat)(C:r.ok)(hl:r.Y4.length<=1073741824)(I:a.size<=maxLen)(J:inI n):M.aC.ok (⟨r.Y4.take k++([(⟨a,n⟩:M.Field)]++r.Y4.drop k)⟩:M.aC):=
 ⟨⟨by show(r.Y4.take k++([(⟨a,n⟩:M.Field)]++r.Y4.drop k)).length<=maxLen;unfold maxLen;simp only[qE,qU,qV,qJ,qK];omega,λy U=>by have j:y∈r.Y4.take k++([(⟨a,n⟩:M.Field)]++r.Y4.drop k):=U;simp only[qP,List.mem_cons,qO,or_false]at j;rcases j with h|rfl|h;(exact C.Y4.2 y (List.mem_of_mem_take h));(exact⟨I,J⟩);·exact C.Y4.2 y (List.mem_of_mem_drop h)⟩⟩
theorem OI{r:M.aC}{n:Int}{k:Nat}(I:k<r.Y4.length)(j:r.ok)(J:inI n):M.aC.ok (⟨r.Y4.set k (⟨r.Y4[k].Name,n⟩:M.Field)⟩:M.aC):=
 ⟨⟨by show(r.Y4.set k _).length<=maxLen;rw[qN];exact j.Y4.1,λy U=>by have C:y∈r.Y4.set k (⟨r.Y4[k].Name,n⟩:M.Field):=U;rcases List.mem_or_eq_of_mem_set C with h|rfl;(exact j.Y4.2 y h);·exact⟨(j.Y4.2 _ (qG I)).Name,J⟩⟩⟩
theorem HS{r:M.aC}{l:List M.Field}(C:r.ok)(I:M.aC.sz r<=1073741824)(j:M.aC.ok (⟨l⟩:M.aC)):
  ((bD r).bind λx=>if(!x)=true then(bQ r).bind λy=>some (y,false)else(bD (⟨l⟩:M.aC)).bind λz=>if(!z)=true then(bQ r).bind λy=>some (y,false)else some ((⟨l⟩:M.aC),true))=some (IB r l):=by
 rw[mK C,qA,xO r I,mK j]
 unfold IB
 cases bO r
 ·simp
 ·cases bO (⟨l⟩:M.aC)<;>simp
def tFA(r:M.aC)(a:ByteArray)(n:Int)(k:Nat):Option (M.aC×Bool):=(idx r.Y4 (k:Int)).bind λj=>(bD r).bind λI=>if(!I)=true then(bQ r).bind λU=>some (U,false)else(bD (⟨List.set r.Y4 (k:Int).toNat (⟨j.Name,n⟩:M.Field)⟩:M.aC)).bind λJ=>if(!J)=true then(bQ r).bind λC=>some (C,false)else some ((⟨List.set r.Y4 (k:Int).toNat (⟨j.Name,n⟩:M.Field)⟩:M.aC),true)
def tFB(r:M.aC)(a:ByteArray)(n:Int)(k:Nat):Option (M.aC×Bool):=(yK r.Y4 (k:Int)).bind λ_=>(app 24 ([]:List M.Field) (List.take (k:Int).toNat r.Y4)).bind λ_=>(app 24 (List.take (k:Int).toNat r.Y4) ([(⟨a,n⟩:M.Field)])).bind λ_=>(zN r.Y4 (k:Int)).bind λ_=>(app 24 ((List.take (k:Int).toNat r.Y4)++[(⟨a,n⟩:M.Field)]) (List.drop (k:Int).toNat r.Y4)).bind λ_=>(bD r).bind λj=>if(!j)=true then(bQ r).bind λJ=>some (J,false)else(bD (⟨((List.take (k:Int).toNat r.Y4)++[(⟨a,n⟩:M.Field)])++(List.drop (k:Int).toNat r.Y4)⟩:M.aC)).bind λI=>if(!I)=true then(bQ r).bind λC=>some (C,false)else some ((⟨((List.take (k:Int).toNat r.Y4)++[(⟨a,n⟩:M.Field)])++(List.drop (k:Int).toNat r.Y4)⟩:M.aC),true)
def tFS(r:M.aC)(a:ByteArray)(n:Int)(k:Nat):Option (M.aC×Bool):=match r.Y4[k]? with|some x=>if(x.Name.toList==a.toList)=true then tFA r a n k else tFB r a n k|none=>tFB r a n k
theorem RA{r:M.aC}{a:ByteArray}{n:Int}{k:Nat}(j:k<=r.Y4.length)(C:r.ok)(I:M.aC.sz r<=1073741824)(J:a.size<=maxLen)(hn:inI n):tFB r a n k=some (IB r (r.Y4.take k++([(⟨a,n⟩:M.Field)]++r.Y4.drop k))):=by
 have U:r.Y4.length<=1073741824:=by simp only[M.aC.sz]at I;omega
 unfold tFB
 rw[Bu j,qA,qH,Hh (by rw[qU];omega) qc,qA,eJ qv,qA,Ir j,qA,eJ qp,qA,qS]
 exact HS C I (Rm k C U J hn)
theorem xJ{r:M.aC}{a:ByteArray}{n:Int}(J:r.ok)(U:M.aC.sz r<=1073741824)(ha:a.size<=maxLen)(hn:inI n):fY r a n=some (Fg r a n):=by
 have hl:r.Y4.length<=1073741824:=by simp only[M.aC.sz]at U;omega
 have hp:=QG r.Y4 a
 unfold fY
 rw[xO r U,qA,Hb (l:=r.Y4) (f:=Ml a) (L:=jX r a n r) (S:=tFS r a n) J.Y4.1 (λm k C=> ?_) (λm=> ?_)]
 ·show tFS r a n (Ki r.Y4 a)=_
  unfold tFS Fg
  rcases Nat.lt_or_ge (Ki r.Y4 a) r.Y4.length with h|h
  ·rw[qF h]
   simp only
   by_cases hf:(r.Y4[Ki r.Y4 a].Name.toList==a.toList)=true
   ·rw[if_pos hf]
    unfold tFA
    rw[aN h,qA,qH,HS J U (OI h J hn)]
    cases hR:bO r with
    |false=>rw[CJ hR,CJ hR]
    |true=>
     have hnot:¬pU (mP a) r.Y4<0:=λh0=>by have:=EF h0 _ (qG h);rw[show mP a r.Y4[Ki r.Y4 a]=true from hf]at this;cases this
     obtain⟨k,e,C⟩:=kI hnot
     obtain⟨_,j⟩:=yJ e
     have I:=KM hR C j
     unfold Ld
     rw[if_neg hnot,e,qH,qF C]
     simp only[I]
   ·rw[if_neg hf,RA hp J U ha hn]
    cases hR:bO r with
    |false=>rw[CJ hR,CJ hR]
    |true=>
     have hneg:pU (mP a) r.Y4<0:=Classical.byContradiction λhnot=>by obtain⟨k,e,C⟩:=kI hnot;obtain⟨_,j⟩:=yJ e;have I:=KM hR C j;apply hf;simp only[I];exact j
     unfold Ld
     rw[if_pos hneg]
  ·rw[qY h]
   simp only
   rw[RA hp J U ha hn]
   cases hR:bO r with
   |false=>rw[CJ hR,CJ hR]
   |true=>
    have hneg:pU (mP a) r.Y4<0:=Classical.byContradiction λhnot=>by obtain⟨k,e,C⟩:=kI hnot;obtain⟨_,j⟩:=yJ e;have I:=KM hR C j;omega
    unfold Ld
    rw[if_pos hneg]
 ·simp only[jX];rw[if_pos (aY C),aN C,qA,bN qc];unfold tFS;rw[qF C];simp only;unfold tFA;rw[aN C];rfl
 ·simp only[jX];rw[if_neg ql];unfold tFS;rw[qY (Nat.le_refl _)];rfl
def uH(k:M.Key)(x:M.Zd):Bool:=(x.Key.Zi==k.Zi)&&((x.Key.N==k.N)&&(x.Key.Zp.toList==k.Zp.toList))
theorem uZ{s:M.aA}{k:M.Key}(I:s.ok):kF s k=some (pU (uH k) s.Y3):=by have J:=le_max I.Y3.1;unfold kF;rw[findAll (L:=kP s k) (f:=uH k) (A:=λi=>some (i:Int)) (E:=some (-1)) I.Y3.1 (λm j C=> ?_) (λm=> ?_),uU];(simp only[kP];rw[if_pos (aY C),aN C,qA,bN qc];rfl);·simp only[kP];rw[if_neg ql]
theorem Qf{x y:M.Key}(I:zQ x=true)(J:zQ y=true)(h:¬cG x y<0)(j:((x.Zi==y.Zi)&&((x.N==y.N)&&(x.Zp.toList==y.Zp.toList)))=false):cG y x<0:=by
 unfold cG at*
 rw[if_pos ⟨I,J⟩]at h
 rw[if_pos ⟨J,I⟩]
 by_cases hk:x.Zi=y.Zi
 ·rw[if_pos hk]at h
  rw[if_pos hk.symm]
  by_cases hn:x.N=y.N
  ·rw[if_pos hn]at h
   rw[if_pos hn.symm]
   have hb:(x.Zp.toList==y.Zp.toList)=false:=by simpa[hk,hn]using j
   have hl:Op.bytesLess x.Zp.toList y.Zp.toList=false:=by
    cases e:Op.bytesLess x.Zp.toList y.Zp.toList with
    |false=>rfl
    |true=>rw[e,if_pos rfl]at h;omega
   have C:=zY x.Zp.toList y.Zp.toList
   rw[hl,Bool.beq_comm,hb,Bool.or_false]at C
   have U:Op.bytesLess y.Zp.toList x.Zp.toList=true:=by
    cases e:Op.bytesLess y.Zp.toList x.Zp.toList with
    |true=>rfl
    |false=>rw[e]at C;cases C
   rw[if_pos U]
   omega
  ·rw[if_neg hn]at h;rw[if_neg (λe=>hn e.symm)];by_cases hlt:x.N<y.N;(rw[if_pos hlt]at h;omega);·rw[if_pos qc];omega
 ·rw[if_neg hk]at h;rw[if_neg (λe=>hk e.symm)];by_cases hlt:x.Zi<y.Zi;(rw[if_pos hlt]at h;omega);·rw[if_pos qc];omega
theorem JD{l:List M.Zd}(h1:∀(k:Nat) (x:M.Zd),l[k]? =some x->zQ x.Key=true/\bO x.aC=true)(U:∀(k:Nat) (x y:M.Zd),l[k]? =some x->l[k+1]? =some y->cG x.Key y.Key<0):(List.range l.length).all (yI l)=true:=by
 rw[qQ]
 intro k j
 have j:=List.mem_range.1 j
 unfold yI
 obtain⟨J,I⟩:=h1 k _ (qF j)
 cases k with
 |zero=>rw[qF j];simp[J,I]
 |succ k=>
  have C:k<l.length:=by omega
  have b:=U k _ _ (qF C) (qF j)
  rw[qF j,Nat.add_sub_cancel,qF C]
  simp[J,I,b]
theorem D8{l:List M.Zd}(h:(List.range l.length).all (yI l)=true):(∀(k:Nat) (x:M.Zd),l[k]? =some x->zQ x.Key=true/\bO x.aC=true)/\(∀(k:Nat) (x y:M.Zd),l[k]? =some x->l[k+1]? =some y->cG x.Key y.Key<0):=by rw[qQ]at h;refine⟨λk x j=> ?_,λk x y j I=> ?_⟩;(have C:k<l.length:=(List.getElem?_eq_some_iff.1 j).1;have:=h k (List.mem_range.2 C);unfold yI at this;rw[j]at this;simp only[Option.any_some,qM]at this;exact this.1);·have C:k+1<l.length:=(List.getElem?_eq_some_iff.1 I).1;have:=h (k+1) (List.mem_range.2 C);unfold yI at this;rw[I,Nat.add_sub_cancel,j]at this;simp only[Option.any_some,qM]at this;simpa using this.2
theorem OP{α:Type}{l:List α}{p:Nat}{x:α}(C:p<=l.length)(k:Nat):(l.take p++([x]++l.drop p))[k]? =if k<p then l[k]? else if k=p then some x else l[k-1]? :=by
 have j:(l.take p).length=p:=by rw[qU];omega
 rw[List.getElem?_append,j]
 by_cases h1:k<p
 ·rw[if_pos h1,if_pos h1,List.getElem?_take_of_lt h1]
 ·rw[if_neg h1,if_neg h1];by_cases h2:k=p;(subst h2;simp);·rw[if_neg h2];obtain⟨d,rfl⟩:∃d,k=p+1+d:=⟨k-p-1,qc⟩;rw[show p+1+d-p=d+1 by omega,List.singleton_append,List.getElem?_cons_succ,List.getElem?_drop,show p+1+d-1=p+d by omega]
def Fu(k:M.Key)(x:M.Zd):Bool:=decide (cG x.Key k<0)
def Au(l:List M.Zd)(k:M.Key):Nat:=(l.takeWhile (Fu k)).length
theorem IY(l:List M.Zd)(k:M.Key):Au l k<=l.length:=(List.takeWhile_prefix _).length_le
def Ef(s:M.aA)(k:M.Key):Int:=if((k.Zi==1)&&(decide (k.N>s.Zn)&&decide (k.N<=1000000)))=true then k.N else s.Zn
def JO(s:M.aA)(k:M.Key)(r:M.aC):M.aA:=(⟨s.Name,s.Y3.take (Au s.Y3 k)++([(⟨k,r⟩:M.Zd)]++s.Y3.drop (Au s.Y3 k)),Ef s k⟩:M.aA)
def K6(s:M.aA)(i:Nat)(r:M.aC):M.aA:=(⟨s.Name,match s.Y3[i]? with|some x=>s.Y3.set i (⟨x.Key,r⟩:M.Zd)|none=>s.Y3,s.Zn⟩:M.aA)
def zM(s:M.aA)(k:M.Key)(r:M.aC):M.aA×Bool:=if gC s=true then if zQ k=true then if pU (uH k) s.Y3<0 then if s.Y3.length<16 then(JO s k r,true)else(s,false)else(K6 s (pU (uH k) s.Y3).toNat r,true)else(s,false)else(s,false)
theorem sY{s:M.aA}(h:gC s=true):(List.range s.Y3.length).all (yI s.Y3)=true/\nS s.Name=true/\s.Y3.length<=16/\0<=s.Zn/\s.Zn<=1000000:=by unfold gC inR at h;simp only[qM,qL]at h;exact⟨h.1,h.2.1,h.2.2.1,h.2.2.2.1,h.2.2.2.2⟩
theorem QL{s:M.aA}(J:(List.range s.Y3.length).all (yI s.Y3)=true)(j:nS s.Name=true)(I:s.Y3.length<=16)(U:0<=s.Zn)(C:s.Zn<=1000000):gC s=true:=by unfold gC inR;simp[J,j,I,U,C]
theorem P7{s:M.aA}{k:M.Key}(h:gC s=true):0<=Ef s k/\Ef s k<=1000000:=by obtain⟨_,_,_,I,j⟩:=sY h;unfold Ef;split;(rename_i C;simp only[qM,qL]at C;omega);·exact⟨I,j⟩
theorem PA{s:M.aA}{i:Nat}{r:M.aC}(h:gC s=true)(C:i<s.Y3.length):gC (K6 s i r)=bO r:=by
 obtain⟨h1,h2,h3,h4,h5⟩:=sY h
 obtain⟨a1,a2⟩:=D8 h1
 have e:K6 s i r=(⟨s.Name,s.Y3.set i (⟨s.Y3[i].Key,r⟩:M.Zd),s.Zn⟩:M.aA):=by unfold K6;rw[qF C]
 rw[e]
 have key:∀(k:Nat) (x:M.Zd),(s.Y3.set i (⟨s.Y3[i].Key,r⟩:M.Zd))[k]? =some x->∃y,s.Y3[k]? =some y/\x.Key=y.Key/\(k≠i->x=y)/\(k=i->x.aC=r):=by intro k x j;rw[List.getElem?_set]at j;by_cases hk:i=k;(subst hk;rw[if_pos rfl,if_pos C]at j;cases j;exact⟨_,qF C,rfl,λI=>absurd rfl I,λ_=>rfl⟩);·rw[if_neg hk]at j;exact⟨x,j,rfl,λ_=>rfl,λI=>absurd I.symm hk⟩
 cases hr:bO r with
 |true=>
  refine QL (JD (λk x j=> ?_) (λk x y j J=> ?_)) h2 (by show(s.Y3.set i _).length<=16;rw[qN];exact h3) h4 h5
  ·obtain⟨y,J,e1,e2,e3⟩:=key k x j;obtain⟨b1,b2⟩:=a1 k y J;refine⟨by rw[e1];exact b1,?_⟩;by_cases hk:k=i;(rw[e3 hk];exact hr);·rw[e2 hk];exact b2
  ·obtain⟨x',U,e1,_⟩:=key k x j;obtain⟨y',hy',e2,_⟩:=key (k+1) y J;rw[e1,e2];exact a2 k x' y' U hy'
 |false=>
  cases hq:gC (⟨s.Name,s.Y3.set i (⟨s.Y3[i].Key,r⟩:M.Zd),s.Zn⟩:M.aA)with
  |false=>rfl
  |true=>
   have:=(D8 (sY hq).1).1 i _ (by show(s.Y3.set i _)[i]? =_;rw[List.getElem?_set,if_pos rfl,if_pos C])
   simp only at this
   rw[hr]at this
   cases this.2
theorem NY{s:M.aA}{k:M.Key}{r:M.aC}(h:gC s=true)(hk:zQ k=true)(hr:bO r=true)(hf:pU (uH k) s.Y3<0)(au:Int)(U:0<=au/\au<=1000000):
  gC (⟨s.Name,s.Y3.take (Au s.Y3 k)++([(⟨k,r⟩:M.Zd)]++s.Y3.drop (Au s.Y3 k)),au⟩:M.aA)=decide (s.Y3.length<16):=by
 obtain⟨h1,h2,h3,h4,h5⟩:=sY h
 obtain⟨a1,a2⟩:=D8 h1
 have hp:=IY s.Y3 k
 have hlen:(s.Y3.take (Au s.Y3 k)++([(⟨k,r⟩:M.Zd)]++s.Y3.drop (Au s.Y3 k))).length=s.Y3.length+1:=by simp only[qE,qU,qV,qJ,qK];omega
 have hall:(List.range (s.Y3.take (Au s.Y3 k)++([(⟨k,r⟩:M.Zd)]++s.Y3.drop (Au s.Y3 k))).length).all (yI (s.Y3.take (Au s.Y3 k)++([(⟨k,r⟩:M.Zd)]++s.Y3.drop (Au s.Y3 k))))=true:=by
  refine JD (λj x C=> ?_) (λj x y C I=> ?_)
  ·rw[OP hp]at C;split at C;(exact a1 j x C);·split at C;(cases C;exact⟨hk,hr⟩);·exact a1 _ x C
  ·rw[OP hp]at C I
   by_cases c1:j+1<Au s.Y3 k
   ·rw[if_pos qc]at C;rw[if_pos c1]at I;exact a2 j x y C I
   ·rw[if_neg c1]at I
    by_cases c2:j+1=Au s.Y3 k
    ·rw[if_pos c2]at I
     rw[if_pos qc]at C
     cases I
     have hj:j<s.Y3.length:=by omega
     have:=Fs (f:=Fu k) (l:=s.Y3) j hj (by show j<Au s.Y3 k;omega)
     rw[qF hj]at C
     cases C
     unfold Fu at this
     simpa using this
    ·rw[if_neg c2]at I
     by_cases c3:j=Au s.Y3 k
     ·rw[if_neg qc,if_pos c3]at C
      cases C
      rw[Nat.add_sub_cancel]at I
      have hj:j<s.Y3.length:=(List.getElem?_eq_some_iff.1 I).1
      have hj':(s.Y3.takeWhile (Fu k)).length<s.Y3.length:=by show Au s.Y3 k<_;omega
      have J:=FF (f:=Fu k) hj'
      have e1:s.Y3[(s.Y3.takeWhile (Fu k)).length]=y:=by
       have:s.Y3[Au s.Y3 k]? =some y:=by rw[<-c3];exact I
       exact(List.getElem?_eq_some_iff.1 this).2
      rw[e1]at J
      unfold Fu at J
      have hne:=EF hf y (by rw[<-e1];exact qG _)
      unfold uH at hne
      exact Qf (a1 j y I).1 hk (by simpa using J) hne
     ·rw[if_neg qc,if_neg c3]at C;rw[show j+1-1=(j-1)+1 by omega]at I;exact a2 (j-1) x y C I
 have e1:decide ((s.Y3.take (Au s.Y3 k)++([(⟨k,r⟩:M.Zd)]++s.Y3.drop (Au s.Y3 k))).length<=16)=decide (s.Y3.length<16):=decide_eq_decide.2 (by rw[hlen];omega)
 unfold gC inR
 rw[hall,h2,e1,decide_eq_true U.1,decide_eq_true U.2]
 simp
theorem O3{s:M.aA}{k:M.Key}{r:M.aC}{J:Int}(p:Nat)(I:s.ok)(hl:s.Y3.length<=1073741824)(U:k.ok)(hr:r.ok)(C:inI J):M.aA.ok (⟨s.Name,s.Y3.take p++([(⟨k,r⟩:M.Zd)]++s.Y3.drop p),J⟩:M.aA):=
 ⟨I.Name,⟨by show(s.Y3.take p++([(⟨k,r⟩:M.Zd)]++s.Y3.drop p)).length<=maxLen;unfold maxLen;simp only[qE,qU,qV,qJ,qK];omega,λy hy=>by have j:y∈s.Y3.take p++([(⟨k,r⟩:M.Zd)]++s.Y3.drop p):=hy;simp only[qP,List.mem_cons,qO,or_false]at j;rcases j with h|rfl|h;(exact I.Y3.2 y (List.mem_of_mem_take h));(exact⟨U,hr⟩);·exact I.Y3.2 y (List.mem_of_mem_drop h)⟩,C⟩
theorem Sv{s:M.aA}{r:M.aC}{i:Nat}(I:i<s.Y3.length)(j:s.ok)(J:r.ok):M.aA.ok (⟨s.Name,s.Y3.set i (⟨s.Y3[i].Key,r⟩:M.Zd),s.Zn⟩:M.aA):=
 ⟨j.Name,⟨by show(s.Y3.set i _).length<=maxLen;rw[qN];exact j.Y3.1,λy U=>by have C:y∈s.Y3.set i (⟨s.Y3[i].Key,r⟩:M.Zd):=U;rcases List.mem_or_eq_of_mem_set C with h|rfl;(exact j.Y3.2 y h);·exact⟨(j.Y3.2 _ (qG I)).Key,J⟩⟩,j.Zn⟩
theorem NN{s:M.aA}{k:M.Key}(C:s.ok)(j:k.ok):inI (Ef s k):=by unfold Ef;split;(exact j.N);·exact C.Zn
def tPS(s:M.aA)(k:M.Key)(r:M.aC)(j:Nat):Option (M.aA×Bool):=(yK s.Y3 (j:Int)).bind λ_=>(app 56 ([]:List M.Zd) (List.take (j:Int).toNat s.Y3)).bind λ_=>(bQ r).bind λC=>(app 56 (List.take (j:Int).toNat s.Y3) ([(⟨k,C⟩:M.Zd)])).bind λ_=>(app 56 ((List.take (j:Int).toNat s.Y3)++[(⟨k,C⟩:M.Zd)]) (List.drop (j:Int).toNat s.Y3)).bind λ_=>if(k.Zi==1)=true then(aZ k.N (IntKind.i64.wrap (s.Zn+1)) 1000000).bind λI=>if I=true then some ((⟨s.Name,((List.take (j:Int).toNat s.Y3)++[(⟨k,C⟩:M.Zd)])++(List.drop (j:Int).toNat s.Y3),k.N⟩:M.aA),true)else some ((⟨s.Name,((List.take (j:Int).toNat s.Y3)++[(⟨k,C⟩:M.Zd)])++(List.drop (j:Int).toNat s.Y3),s.Zn⟩:M.aA),true)else some ((⟨s.Name,((List.take (j:Int).toNat s.Y3)++[(⟨k,C⟩:M.Zd)])++(List.drop (j:Int).toNat s.Y3),s.Zn⟩:M.aA),true)
theorem tV{s:M.aA}{k:M.Key}{r:M.aC}(I:s.ok)(hk:k.ok)(hr:r.ok)(hR:bO r=true)(hz:M.aA.sz s<=1073741824)(C:M.aC.sz r<=1073741824):dI s k r=some (zM s k r):=by
 have hl:s.Y3.length<=1073741824:=by simp only[M.aA.sz]at hz;omega
 have hp:=IY s.Y3 k
 unfold dI zM
 rw[uE I,jN hk,mK hr,hR,mA s hz,uZ I,xO r C]
 simp only[qA]
 cases hS:gC s with
 |false=>simp
 |true=>
  cases hK:zQ k with
  |false=>simp
  |true=>
   simp only[qB,qD,if_false,if_true]
   by_cases h:pU (uH k) s.Y3<0
   ·rw[if_neg qd,if_pos h]
    by_cases aa:s.Y3.length<16
    ·rw[if_neg qd,if_pos aa,Hb (l:=s.Y3) (f:=Fu k) (L:=lQ s k r s) (S:=tPS s k r) I.Y3.1 (λm j U=> ?_) (λm=> ?_)]
     ·show tPS s k r (Au s.Y3 k)=_
      obtain⟨_,_,_,ha4,ha5⟩:=sY hS
      have ew:IntKind.i64.wrap (s.Zn+1)=s.Zn+1:=bT qc qc
      have ei:inR k.N (s.Zn+1) 1000000=(decide (k.N>s.Zn)&&decide (k.N<=1000000)):=by unfold inR;congr 1
      unfold tPS
      rw[Bu hp,qA,qH,Hh (by rw[qU];omega) qc,qA,xO r C,qA,eJ qv,qA,eJ qp,qA,qS,dB,qA,ew,ei]
      unfold JO Ef
      cases (k.Zi==1)<;>cases (decide (k.N>s.Zn)&&decide (k.N<=1000000))<;>rfl
     ·have J:=I.Y3.2 _ (qG U);simp only[lQ];rw[if_pos (aY U),aN U,qA,rE J.Key hk,qA,bN qc];rfl
     ·simp only[lQ];rw[if_neg ql];rfl
    ·rw[if_pos qd,if_neg aa]
   ·obtain⟨i,e,hi⟩:=kI h;rw[if_pos (by simpa using h),if_neg h,e,aN hi,qA,qH];unfold K6;rw[qF hi]
def iI(s:M.aA)(k:M.Key):M.aC:=if pU (uH k) s.Y3<0 then(⟨([]:List M.Field)⟩:M.aC)else match s.Y3[(pU (uH k) s.Y3).toNat]? with|some x=>x.aC|none=>(⟨([]:List M.Field)⟩:M.aC)
def H5(s:M.aA)(w:M.aV):M.aA×Bool:=if(Fg (iI s w.Key) w.Field w.N).2=true then zM s w.Key (Fg (iI s w.Key) w.Field w.N).1 else(s,false)
theorem DT:M.aC.ok (⟨([]:List M.Field)⟩:M.aC):=⟨⟨by simp[maxLen],qe⟩⟩
theorem DN{s:M.aA}{k:M.Key}(j:s.ok):(iI s k).ok:=by unfold iI;split;(exact DT);·split;(rename_i x C;exact(j.Y3.2 x (List.mem_of_getElem? C)).aC);·exact DT
theorem Jw(s:M.aA)(k:M.Key):M.aC.sz (iI s k)<=M.aA.sz s:=by
 unfold iI
 split
 ·simp[M.aC.sz,jO]
 ·split
  ·rename_i x j
   have I:=iE (f:=M.Zd.sz) (List.mem_of_getElem? j)
   have C:M.aC.sz x.aC<=M.Zd.sz x:=by simp only[M.Zd.sz];omega
   simp only[M.aA.sz]
   omega
  ·simp[M.aC.sz,jO]
theorem PY{r:M.aC}{a:ByteArray}{n:Int}(I:r.ok)(U:r.Y4.length<=1073741824)(J:a.size<=maxLen)(C:inI n):M.aC.ok (⟨Ld r a n⟩:M.aC):=by unfold Ld;by_cases h:pU (mP a) r.Y4<0;(rw[if_pos h];exact Rm _ I U J C);·rw[if_neg h];obtain⟨k,e,j⟩:=kI h;rw[e,qH,qF j];exact OI j I C
theorem IE{r:M.aC}{a:ByteArray}{n:Int}(j:r.ok)(J:r.Y4.length<=1073741824)(I:a.size<=maxLen)(C:inI n):(Fg r a n).1.ok:=by unfold Fg IB;split;(split;(exact PY j J I C);·exact j);·exact j
theorem Ck{r:M.aC}{a:ByteArray}{n:Int}(h:(Fg r a n).2=true):bO (Fg r a n).1=true:=by unfold Fg IB at h⊢;by_cases h1:bO r=true;(rw[if_pos h1]at h⊢;by_cases h2:bO (⟨Ld r a n⟩:M.aC)=true;(rw[if_pos h2];exact h2);·rw[if_neg h2]at h;cases h);·rw[if_neg h1]at h;cases h
theorem C1{r:M.aC}(h:bO r=true):M.aC.sz r<=100:=by obtain⟨I,j⟩:=rA h;have:=jW (w:=M.Field.sz) (b:=8) (xs:=r.Y4) (λx C=>by have:=(j x C).1;simp only[M.Field.sz];omega);simp only[M.aC.sz];omega
theorem nQ{s:M.aA}(h:gC s=true):M.aA.sz s<=10000:=by
 obtain⟨U,j,h3,_,_⟩:=sY h
 obtain⟨a1,_⟩:=D8 U
 have hn:s.Name.size<=8:=by unfold nS inR at j;simp only[qM,qL]at j;omega
 have:=jW (w:=M.Zd.sz) (b:=112) (xs:=s.Y3) (λx hx=>by obtain⟨k,J,rfl⟩:=List.mem_iff_getElem.1 hx;obtain⟨C,I⟩:=a1 k _ (qF J);have c1:=Bc C;have c2:=C1 I;simp only[M.Zd.sz,M.Key.sz];omega)
 simp only[M.aA.sz]
 omega
theorem AV{s:M.aA}{k:M.Key}{r:M.aC}(j:bO r=true)(h:(zM s k r).2=true):gC (zM s k r).1=true:=by unfold zM at h⊢;by_cases hS:gC s=true;(rw[if_pos hS]at h⊢;by_cases hK:zQ k=true;(rw[if_pos hK]at h⊢;by_cases hf:pU (uH k) s.Y3<0;(rw[if_pos hf]at h⊢;by_cases aa:s.Y3.length<16;(rw[if_pos aa];have:=NY hS hK j hf _ (P7 (k:=k) hS);simp only[aa,decide_true]at this;exact this);·rw[if_neg aa]at h;cases h);·rw[if_neg hf];obtain⟨i,e,C⟩:=kI hf;simp only[e,qH];rw[PA hS C];exact j);·rw[if_neg hK]at h;cases h);·rw[if_neg hS]at h;cases h
theorem IN{s:M.aA}{k:M.Key}{r:M.aC}(j:s.ok)(U:s.Y3.length<=1073741824)(C:k.ok)(J:r.ok):(zM s k r).1.ok:=by unfold zM;by_cases hS:gC s=true;(rw[if_pos hS];by_cases hK:zQ k=true;(rw[if_pos hK];by_cases hf:pU (uH k) s.Y3<0;(rw[if_pos hf];split;(exact O3 _ j U C J (NN j C));·exact j);·rw[if_neg hf];obtain⟨i,e,I⟩:=kI hf;simp only[e,qH];unfold K6;rw[qF I];exact Sv I j J);·rw[if_neg hK];exact j);·rw[if_neg hS];exact j
theorem Fh{s:M.aA}{k:M.Key}{r:M.aC}(h:(zM s k r).2=false):(zM s k r).1=s:=by unfold zM at h⊢;by_cases hS:gC s=true;(rw[if_pos hS]at h⊢;by_cases hK:zQ k=true;(rw[if_pos hK]at h⊢;by_cases hf:pU (uH k) s.Y3<0;(rw[if_pos hf]at h⊢;by_cases aa:s.Y3.length<16;(rw[if_pos aa]at h;cases h);·rw[if_neg aa]);·rw[if_neg hf]at h;cases h);·rw[if_neg hK]);·rw[if_neg hS]
theorem Hj{s:M.aA}{w:M.aV}(h:(H5 s w).2=false):(H5 s w).1=s:=by unfold H5 at h⊢;by_cases h1:(Fg (iI s w.Key) w.Field w.N).2=true;(rw[if_pos h1]at h⊢;exact Fh h);·rw[if_neg h1]
theorem Gp{s:M.aA}{w:M.aV}(J:s.ok)(j:w.ok)(U:M.aA.sz s<=536870912):(H5 s w).1.ok/\M.aA.sz (H5 s w).1<=536870912:=by
 have hl:s.Y3.length<=1073741824:=by simp only[M.aA.sz]at U;omega
 have C:=Jw s w.Key
 have I:(iI s w.Key).Y4.length<=1073741824:=by simp only[M.aC.sz]at C;omega
 cases h2:(H5 s w).2 with
 |false=>rw[Hj h2];exact⟨J,U⟩
 |true=>
  unfold H5 at h2⊢
  by_cases h1:(Fg (iI s w.Key) w.Field w.N).2=true
  ·rw[if_pos h1]at h2⊢;have:=nQ (AV (Ck h1) h2);exact⟨IN J hl j.Key (IE (DN J) I j.Field j.N),qc⟩
  ·rw[if_neg h1]at h2;cases h2
theorem wT{s:M.aA}{w:M.aV}(I:s.ok)(j:w.ok)(hz:M.aA.sz s<=1073741824):iJ s w=some (H5 s w):=by
 have J:=Jw s w.Key
 have U:(iI s w.Key).Y4.length<=1073741824:=by simp only[M.aC.sz]at J;omega
 have nP:=xJ (r:=iI s w.Key) (a:=w.Field) (n:=w.N) (DN I) qc j.Field j.N
 have hput:(Fg (iI s w.Key) w.Field w.N).2=true->dI s w.Key (Fg (iI s w.Key) w.Field w.N).1=some (zM s w.Key (Fg (iI s w.Key) w.Field w.N).1):=λC=>
  tV I j.Key (IE (DN I) U j.Field j.N) (Ck C) hz (Nat.le_trans (C1 (Ck C)) qc)
 have hfin:((some (Fg (iI s w.Key) w.Field w.N)).bind λx9=>if(!x9.2)=true then(bL s).bind λae=>some (ae,false)else(dI s w.Key x9.1).bind λaa=>some (aa.1,aa.2))=some (H5 s w):=by
  rw[qA,mA s hz]
  unfold H5
  cases C:(Fg (iI s w.Key) w.Field w.N).2 with
  |false=>simp
  |true=>
   rw[hput C]
   simp
 unfold iJ
 rw[uZ I,qA]
 by_cases h:pU (uH w.Key) s.Y3<0
 ·have e:iI s w.Key=(⟨([]:List M.Field)⟩:M.aC):=by unfold iI;rw[if_pos h]
  rw[if_neg qd]
  rw[e]at nP hfin
  rw[nP]
  exact hfin
 ·obtain⟨i,ei,hi⟩:=kI h
  have e:iI s w.Key=s.Y3[i].aC:=by unfold iI;rw[if_neg h,ei,qH,qF hi]
  rw[if_pos (by simpa using h),ei,aN hi,qA]
  rw[e]at nP hfin
  rw[nP]
  exact hfin
def AI(s:M.aA)(l:List M.aV):M.aA:=l.foldl (λt w=>(H5 t w).1) s
theorem B8{s:M.aA}{l:List M.aV}(hs:s.ok)(U:l.length<=maxLen)(J:∀w∈l,M.aV.ok w)(hz:M.aA.sz s<=536870912):sK s l=some (AI s l):=by
 have hm:=le_max U
 unfold sK AI
 rw[mA s qc,qA]
 have:=JC (xs:=l) (L:=λn k (t:M.aA)=>gU l n k t.Name t.Zn t.Y3) (step:=λt w=>(H5 t w).1) (I:=λ_ t=>t.ok/\M.aA.sz t<=536870912) (E:=some) U
  (λt k j C=>Gp C.1 (J _ (qG j)) C.2) (λn t k j C=>by
   simp only[gU]
   rw[if_pos (aY j),aN j,qA,show(⟨t.Name,t.Y3,t.Zn⟩:M.aA)=t from rfl,wT C.1 (J _ (qG j)) qc,qA,bN qc]
   cases h2:(H5 t l[k]).2 with
   |true=>rfl
   |false=>rw[Hj h2];rfl) (λn t C=>by
   simp only[gU]
   rw[if_neg ql]) s ⟨hs,hz⟩
 exact this.1
end Go.Proofs.YtipmihbgjolaaaaGreat.gen
