/-
  Helper text. No conditions.
-/
import Derived.Test.YtbpbocchokbggaaGreatUpdatesPd1
set_option linter.all false
namespace Go.Proofs.YtbpbocchokbggaaGreat.gen
open Go Go.Sh
open Go.IntKind (i64)
theorem J4{p:M.aD->M.aD->Option Bool}{f:M.aD->M.aD->Bool}{xs ys:List M.aD}(C:xs.length<=maxLen)(I:∀x∈xs,∀y∈ys,p x y=some (f x y)):nS xs ys p=some (eqL f xs ys):=by
 have J:=le_max C
 unfold nS
 rw[FO (f:=f) C (E:=some true) (λn k hk j=>by
  simp only[fJ]
  rw[if_pos (aW hk),aJ hk,aJ j,qA,qA,bF jB]
  rw[I _ (qG hk) _ (qG j),qA,gM]) (λn=>by
  simp only[fJ]
  rw[if_neg jK]),bA,Bool.and_true]
theorem Jk{p:M.aI3->M.aI3->Option Bool}{f:M.aI3->M.aI3->Bool}{xs ys:List M.aI3}(C:xs.length<=maxLen)(I:∀x∈xs,∀y∈ys,p x y=some (f x y)):lR xs ys p=some (eqL f xs ys):=by
 have J:=le_max C
 unfold lR
 rw[FO (f:=f) C (E:=some true) (λn k hk j=>by
  simp only[eO]
  rw[if_pos (aW hk),aJ hk,aJ j,qA,qA,bF jB]
  rw[I _ (qG hk) _ (qG j),qA,gM]) (λn=>by
  simp only[eO]
  rw[if_neg jK]),bA,Bool.and_true]
theorem Lm{p:M.bG->M.bG->Option Bool}{f:M.bG->M.bG->Bool}{xs ys:List M.bG}(C:xs.length<=maxLen)(I:∀x∈xs,∀y∈ys,p x y=some (f x y)):oA xs ys p=some (eqL f xs ys):=by
 have J:=le_max C
 unfold oA
 rw[FO (f:=f) C (E:=some true) (λn k hk j=>by
  simp only[gE]
  rw[if_pos (aW hk),aJ hk,aJ j,qA,qA,bF jB]
  rw[I _ (qG hk) _ (qG j),qA,gM]) (λn=>by
  simp only[gE]
  rw[if_neg jK]),bA,Bool.and_true]
theorem Lr{p:M.aI7->M.aI7->Option Bool}{f:M.aI7->M.aI7->Bool}{xs ys:List M.aI7}(C:xs.length<=maxLen)(I:∀x∈xs,∀y∈ys,p x y=some (f x y)):oQ xs ys p=some (eqL f xs ys):=by
 have J:=le_max C
 unfold oQ
 rw[FO (f:=f) C (E:=some true) (λn k hk j=>by
  simp only[gD]
  rw[if_pos (aW hk),aJ hk,aJ j,qA,qA,bF jB]
  rw[I _ (qG hk) _ (qG j),qA,gM]) (λn=>by
  simp only[gD]
  rw[if_neg jK]),bA,Bool.and_true]
theorem Je{p:M.aJC->M.aJC->Option Bool}{f:M.aJC->M.aJC->Bool}{xs ys:List M.aJC}(C:xs.length<=maxLen)(I:∀x∈xs,∀y∈ys,p x y=some (f x y)):lU xs ys p=some (eqL f xs ys):=by
 have J:=le_max C
 unfold lU
 rw[FO (f:=f) C (E:=some true) (λn k hk j=>by
  simp only[eN]
  rw[if_pos (aW hk),aJ hk,aJ j,qA,qA,bF jB]
  rw[I _ (qG hk) _ (qG j),qA,gM]) (λn=>by
  simp only[eN]
  rw[if_neg jK]),bA,Bool.and_true]
theorem JS{a b:List Int}(j:okB a)(hb:okB b):zK a b=some (eqL Cx a b):=by unfold zK;rw[F6 j.2,F6 hb.2,qA,qA,Re j.2 hb.2];rfl
theorem Fl{a b:List Int}(j:okB a):uW a b=some (eqL Cx a b):=by unfold uW;rw[QH j.1,qA]
def GZ(x y:M.aI8):Bool:=(x.aJq==y.aJq)&&((x.aJn==y.aJn)&&((x.aI0==y.aI0)&&((x.aJu==y.aJu)&&eqL Cx x.aJr y.aJr)))
theorem GH{a b:M.aI8}(j:a.ok):sH a b=some (GZ a b):=by simp only[sH,Fl j.aJr,qA,bA,C2,AU,GZ];ac_rfl
def JP(x y:M.aJE):Bool:=(x.aI7.toList==y.aI7.toList)&&((x.aJk.toList==y.aJk.toList)&&GZ x.aI8 y.aI8)
def Qe(x y:M.aI5):Bool:=(x.aI0==y.aI0)&&eqL JP x.aJB y.aJB
def Jf(x y:M.aC):Bool:=eqL Qe x.aI1 y.aI1
theorem JL{a b:M.aJE}(j:a.ok):sQ a b=some (JP a b):=by simp only[sQ,GH j.aI8,qA,bA,C2,AU,JP]
theorem Jg{a b:M.aI5}(j:a.ok):tC a b=some (Qe a b):=by simp only[tC,Jb (f:=JP) j.aJB.1 (λx C y I=>JL (j.aJB.2 x C)),qA,bA,C2,AU,Qe]
theorem GG{a b:M.aC}(j:a.ok):rZ a b=some (Jf a b):=by simp only[rZ,Kk (f:=Qe) j.aI1.1 (λx C y I=>Jg (j.aI1.2 x C)),qA,bA,C2,AU,Jf]
def OB(x y:M.aE):Bool:=eqL LX x.aI9 y.aI9
theorem IC{a b:M.aE}(j:a.ok):vU a b=some (OB a b):=by simp only[vU,Pk j.aI9.1,qA,OB]
def aCF(x y:M.Key):Bool:=(x.aJS==y.aJS)&&((x.N==y.N)&&(x.aJb.toList==y.aJb.toList))
def Uu(x y:M.aJN):Bool:=aCF x.Key y.Key&&OB x.aE y.aE
def Jd(x y:M.aD):Bool:=(x.Name.toList==y.Name.toList)&&((x.aJa==y.aJa)&&eqL Uu x.aI6 y.aI6)
theorem Kt{a b:M.aJN}(j:a.ok):vD a b=some (Uu a b):=by simp only[vD,IC j.aE,qA,bA,C2,AU,Uu,aCF]
theorem CN{a b:M.aD}(j:a.ok):iE a b=some (Jd a b):=by simp only[iE,Lo (f:=Uu) j.aI6.1 (λx C y I=>Kt (j.aI6.2 x C)),qA,bA,C2,AU,Jd]
def GM(x y:M.aI2):Bool:=(x.Name.toList==y.Name.toList)&&((x.aI0==y.aI0)&&(eqL Jd x.aJF y.aJF&&eqL Ew x.aJO y.aJO))
theorem Hf{a b:M.aI2}(j:a.ok):sG a b=some (GM a b):=by simp only[sG,J4 (f:=Jd) j.aJF.1 (λx C y I=>CN (j.aJF.2 x C)),La j.aJO.1,qA,bA,C2,AU,GM]
def VV(x y:M.bR):Bool:=GM x.aJQ y.aJQ&&(eqL Cx x.Log y.Log&&(x.aJi==y.aJi))
theorem Kf{a b:M.bR}(j:a.ok):zF a b=some (VV a b):=by simp only[zF,Hf j.aJQ,Fl j.Log,qA,bA,C2,AU,VV]
def MK(x y:M.aK):Bool:=(x.aJA==y.aJA)&&((x.aJd==y.aJd)&&eqL EI x.aJM y.aJM)
theorem HE{a b:M.aK}(j:a.ok):uI a b=some (MK a b):=by simp only[uI,I5 j.aJM.1,qA,bA,C2,AU,MK]
def Yi(x y:M.aJR):Bool:=MK x.aK y.aK&&((x.aJh==y.aJh)&&(x.aJY==y.aJY))
theorem Kc{a b:M.aJR}(j:a.ok):zU a b=some (Yi a b):=by simp only[zU,HE j.aK,qA,bA,C2,AU,Yi]
def Jx(x y:M.aG):Bool:=Jd x.aJQ y.aJQ&&((x.aJm==y.aJm)&&Yi x.aJR y.aJR)
theorem HF{a b:M.aG}(j:a.ok):tX a b=some (Jx a b):=by simp only[tX,CN j.aJQ,Kc j.aJR,qA,bA,C2,AU,Jx]
def aDL(x y:M.aIz):Bool:=(x.aI7.toList==y.aI7.toList)&&((x.aJP==y.aJP)&&((x.aJT==y.aJT)&&(x.aJX==y.aJX)))
def Ky(x y:M.aI3):Bool:=(x.aI7.toList==y.aI7.toList)&&((x.Top.toList==y.Top.toList)&&(aDL x.aIz y.aIz&&(Jf x.aI1 y.aI1&&(VV x.bR y.bR&&(Jx x.aG y.aG&&((x.aJc==y.aJc)&&(x.aJZ==y.aJZ)))))))
theorem Iq{a b:M.aI3}(j:a.ok):rG a b=some (Ky a b):=by simp only[rG,GG j.aI1,Kf j.bR,HF j.aG,qA,bA,C2,AU,Ky,aDL]
def LM(x y:M.aA):Bool:=eqL Ky x.aI4 y.aI4
theorem HL{a b:M.aA}(j:a.ok):uE a b=some (LM a b):=by simp only[uE,Jk (f:=Ky) j.aI4.1 (λx C y I=>Iq (j.aI4.2 x C)),qA,bA,C2,AU,LM]
def LG(x y:M.aJH):Bool:=eqL JN x.aJj y.aJj&&((x.Pc==y.Pc)&&(eqL PG x.aJt y.aJt&&((x.aJp==y.aJp)&&((x.aJy==y.aJy)&&(x.aJ0==y.aJ0)))))
theorem HD{a b:M.aJH}(j:a.ok):tW a b=some (LG a b):=by simp only[tW,Py j.aJj.1,Ro j.aJt.1,qA,bA,C2,AU,LG]
def Rf(x y:M.bG):Bool:=(x.Id==y.Id)&&((x.aI7.toList==y.aI7.toList)&&((x.Top.toList==y.Top.toList)&&((x.aI0==y.aI0)&&(eqL Gz x.aV y.aV&&LG x.aJH y.aJH))))
theorem Ld{a b:M.bG}(j:a.ok):gS a b=some (Rf a b):=by simp only[gS,Np j.aV.1,HD j.aJH,qA,bA,C2,AU,Rf]
def IA(x y:M.aJC):Bool:=Jd x.aD y.aD&&(eqL Fo x.aP y.aP&&eqL EI x.aJU y.aJU)
theorem Ig{a b:M.aJC}(j:a.ok):rP a b=some (IA a b):=by simp only[rP,CN j.aD,MG j.aP.1,I5 j.aJU.1,qA,bA,C2,AU,IA]
def R7(x y:M.aI7):Bool:=(x.Name.toList==y.Name.toList)&&((x.aI0==y.aI0)&&(eqL Ha x.aJW y.aJW&&(x.aJf==y.aJf)))
theorem KB{a b:M.aI7}(j:a.ok):rA a b=some (R7 a b):=by simp only[rA,NG j.aJW.1,qA,bA,C2,AU,R7]
def Tp(x y:M.World):Bool:=(x.Now==y.Now)&&((x.aJV==y.aJV)&&((x.aJA==y.aJA)&&(LM x.aA y.aA&&(eqL Rf x.aJI y.aJI&&((x.aJG==y.aJG)&&(eqL Nb x.aJJ.aJJ y.aJJ.aJJ&&(eqL Mr x.aJD.aJe y.aJD.aJe&&(eqL R7 x.aJL y.aJL&&eqL IA x.aJK y.aJK))))))))
theorem EO{a b:M.World}(j:a.ok):sY a b=some (Tp a b):=by simp only[sY,HL j.aA,Lm (f:=Rf) j.aJI.1 (λx C y I=>Ld (j.aJI.2 x C)),P4 j.aJJ.aJJ.1,PU j.aJD.aJe.1,Lr (f:=R7) j.aJL.1 (λx C y I=>KB (j.aJL.2 x C)),Je (f:=IA) j.aJK.1 (λx C y I=>Ig (j.aJK.2 x C)),qA,bA,C2,AU,Tp]
theorem EE{l:List Int}(j:l.length<=1048576):tD l=some ([(List.length l:Int)]++l.map i64.wrap):=by unfold tD;have:=RP (b:=8) (xs:=l) (f:=i64.wrap) (L:=iQ l) (λn k hk r=> ?_) (λn r=> ?_) fuel 0 ([(List.length l:Int)]) jI jB jC;(simpa using this);(simp only[iQ];rw[if_pos (aW hk),aJ hk,qA,bF jB]);·simp only[iQ];rw[if_neg jK]
theorem Ji{l:List Int}(j:l.length<=1048576):yD l=some ([(List.length l:Int)]++l.map i64.wrap):=by unfold yD;have:=RP (b:=8) (xs:=l) (f:=i64.wrap) (L:=iX l) (λn k hk r=> ?_) (λn r=> ?_) fuel 0 ([(List.length l:Int)]) jI jB jC;(simpa using this);(simp only[iX];rw[if_pos (aW hk),aJ hk,qA,bF jB]);·simp only[iX];rw[if_neg jK]
theorem TN(x:Int):E9 x 2147483647=some (Q7 x):=by
 have e:aY 2147483647 1 1000000000000=some true:=by decide
 unfold E9
 rw[e,qA,if_neg jD,if_neg jD,Xu]
theorem Ud(x:Int):FC x 2147483647=some (Q7 x):=by
 have e:aZ 2147483647 1 1000000000000=some true:=by decide
 unfold FC
 rw[e,qA,if_neg jD,if_neg jD,YH]
theorem Mz{l:List Int}(j:l.length<=maxLen):C9 l=some (HJ l):=by have C:=le_max j;unfold C9 HJ;refine H3 (L:=yJ l) (E:=some) j (λn v k hk=> ?_) (λn v=> ?_) 11;(simp only[yJ];rw[if_pos (aW hk),aJ hk,qA,TN,qA,bF jB];rfl);·simp only[yJ];rw[if_neg jK]
theorem DH{k:Int}{l:List Int}(j:l.length<=2000000):xD k l=some (HJ (([k]++l)++[k])):=by unfold xD;rw[dS jC,qA,dS jC,qA,Mz (by simp[maxLen];omega),qA]
theorem Rq{l:List Int}(j:l.length<=maxLen):Es l=some (HJ l):=by have C:=le_max j;unfold Es HJ;refine H3 (L:=yO l) (E:=some) j (λn v k hk=> ?_) (λn v=> ?_) 11;(simp only[yO];rw[if_pos (aW hk),aJ hk,qA,Ud,qA,bF jB];rfl);·simp only[yO];rw[if_neg jK]
theorem DP{k:Int}{l:List Int}(j:l.length<=2000000):xF k l=some (HJ (([k]++l)++[k])):=by unfold xF;rw[dS jC,qA,dS jC,qA,Rq (by simp[maxLen];omega),qA]
def DJ(k:Int)(s:ByteArray):Int:=if HJ (([k]++([(List.length (bT s):Int)]++(bT s).map i64.wrap))++[k])=0 then 1 else HJ (([k]++([(List.length (bT s):Int)]++(bT s).map i64.wrap))++[k])
theorem DZ{k:Int}{s:ByteArray}(C:s.size<=1048576):kH k s=some (DJ k s):=by have j:=aO s;unfold kH AR DJ;rw[EE jB,qA,DH jC,qA];have:=OP (([k]++([(List.length (bT s):Int)]++(bT s).map i64.wrap))++[k]);generalize HJ (([k]++([(List.length (bT s):Int)]++(bT s).map i64.wrap))++[k])=h at*;by_cases h0:h=0;(rw[if_neg jC,if_pos h0];rfl);·rw[if_neg h0];by_cases h1:h=1;(rw[if_neg jC,h1];rfl);·rw[if_pos jC];rfl
theorem D7{k:Int}{s:ByteArray}(C:s.size<=1048576):kQ k s=some (DJ k s):=by have j:=aO s;unfold kQ DJ;rw[Ji jB,qA,DP jC,qA];generalize HJ (([k]++([(List.length (bT s):Int)]++(bT s).map i64.wrap))++[k])=h;by_cases h0:h=0;(rw[if_pos (by simp[h0]),if_pos h0]);·rw[if_neg (by simp[h0]),if_neg h0]
theorem Mt{x:Int}(j:0<=x)(h1:x<2147483647):∀(n:Nat) (v:Int) (r:List Int),wY x n v r=bX x n v r
 |0,_,_=>rfl
 |n+1,v,r=>by simp only[wY,bX,aAQ j h1,Mt j h1 n]
theorem aAs(x:Int):∃l,bX x fuel 5 ([]:List Int)=some l/\okB l:=by
 have st:∀n (v:Nat) r,r.length<=7->(∀y∈r,0<=y/\y<=255)->v<=5->∃y:Int,(0<=y/\y<=255)/\bX x (n+1) (v:Int) r=bX x n ((v:Int)-1) (r++[y]):=by intro n v r hr hy hv;refine⟨IntKind.u8.wrap (Int.fdiv x (2^(min (i64.wrap (8*(v:Int))).toNat IntKind.i64.bits))),by rw[wrap_u8];omega,?_⟩;simp only[bX];rw[if_pos jD,if_pos (by rw[bN jB jB];simp;omega),dS jC,qA,bN (n:=(v:Int)-1) jB jB]
 have e7:∀n r,bX x (n+1) (-1) r=some r:=by intro n r;simp only[bX];rw[if_neg jE]
 rw[VU]
 obtain⟨x1,j,e1⟩:=st (18446744073709551609+6) 5 [] jD jD jD
 obtain⟨x2,C,e2⟩:=st (18446744073709551609+5) 4 ([]++[x1]) jD (by simpa using j) jD
 obtain⟨x3,I,e3⟩:=st (18446744073709551609+4) 3 ([]++[x1]++[x2]) jD (by simpa using⟨j,C⟩) jD
 obtain⟨x4,J,e4⟩:=st (18446744073709551609+3) 2 ([]++[x1]++[x2]++[x3]) jD (by simpa using⟨j,C,I⟩) jD
 obtain⟨x5,U,e5⟩:=st (18446744073709551609+2) 1 ([]++[x1]++[x2]++[x3]++[x4]) jD (by simpa using⟨j,C,I,J⟩) jD
 obtain⟨x6,b6,e6⟩:=st (18446744073709551609+1) 0 ([]++[x1]++[x2]++[x3]++[x4]++[x5]) jD (by simpa using⟨j,C,I,J,U⟩) jD
 exact⟨_,e1.trans (e2.trans (e3.trans (e4.trans (e5.trans (e6.trans (e7 _ _)))))),by simp[maxLen],by simpa using⟨j,C,I,J,U,b6⟩⟩
theorem XL{t:M.aI7}{f:ByteArray}{v:Int}(h1:t.Name.size<=1048576)(h2:f.size<=1048576):∃l,Ae t f v=some l/\Aj t f v=some l/\okB l:=by unfold Ae Aj;rw[DZ h1,D7 h1,qA,qA,DZ h2,D7 h2,qA,qA,DH jD,DP jD,qA,qA];have hb:=OP (([i64.wrap (1+v)]++[103,DJ 107 t.Name,DJ 109 f])++[i64.wrap (1+v)]);rw[Mt hb.1 hb.2];obtain⟨l,e,j⟩:=aAs (HJ (([i64.wrap (1+v)]++[103,DJ 107 t.Name,DJ 109 f])++[i64.wrap (1+v)]));exact⟨l,e,e,j⟩
theorem Kx{α R:Type}{l:List α}{f:α->Bool}{L:Nat->Int->Option R}{S:Nat->Option R}(j:l.length<=maxLen)
  (h1:∀n (k:Nat) (hk:k<l.length),L (n+1) (k:Int)=if f l[k]=true then L n ((k+1:Nat):Int)else S k)(h2:∀n,L (n+1) (l.length:Int)=S l.length):L fuel 0=S (l.takeWhile f).length:=by
 have I:=le_max j
 have key:∀(n k:Nat),l.length-k<n->k<=l.length->L n (k:Int)=S (k+((l.drop k).takeWhile f).length):=by
  intro n
  induction n with
  |zero=>intro k h _;omega
  |succ n C=>
   intro k J hk
   rcases Nat.lt_or_ge k l.length with h|h
   ·rw[h1 n k h,qW h,List.takeWhile_cons];by_cases hf:f l[k]=true;(rw[if_pos hf,if_pos hf,C (k+1) jB h,qJ];congr 1;omega);·rw[if_neg hf,if_neg hf];simp
   ·have:k=l.length:=by omega
    subst this
    rw[h2 n]
    simp
 have:=key fuel 0 jI jB
 simpa using this
def UH(s:M.aA)(b:M.aI3):Nat:=(s.aI4.takeWhile (λx=>EW x b)).length
theorem Pj(s:M.aA)(b:M.aI3):UH s b<=s.aI4.length:=(List.takeWhile_prefix _).length_le
def CJ(s:M.aA)(b:M.aI3):List M.aI3:=if iJ (nAt b.aI7 b.Top) s.aI4>=0 then s.aI4.set (iJ (nAt b.aI7 b.Top) s.aI4).toNat b else s.aI4.take (UH s b)++([b]++s.aI4.drop (UH s b))
def K7(s:M.aA)(l:List M.aI3):M.aA×Bool:=if oP s=true then if oP (⟨l⟩:M.aA)=true then((⟨l⟩:M.aA),true)else(s,false)else(s,false)
def E6(s:M.aA)(b:M.aI3):M.aA×Bool:=K7 s (CJ s b)
theorem JI{s:M.aA}{b x:M.aI3}(h:x∈CJ s b):x=b\/x∈s.aI4:=by unfold CJ at h;split at h;(rcases jA h with h|h;(exact .inr h);·exact .inl h);·simp only[qP,qo,qO,or_false]at h;rcases h with h|h|h;(exact .inr (qi h));(exact .inl h);·exact .inr (qt h)
theorem IM(s:M.aA)(b:M.aI3):(CJ s b).length<=s.aI4.length+1:=by have:=Pj s b;unfold CJ;split;(simp);·simp only[qE,qU,qJ,qK,qV];omega
theorem Hh{α:Type}{f:α->Nat}{x:α}:∀{l:List α} {i:Nat},dH f (l.set i x)<=dH f l+f x
 |[],_=>by simp[dH]
 |y::l,0=>by simp only[List.set_cons_zero,dH];omega
 |y::l,i+1=>by have:=Hh (f:=f) (x:=x) (l:=l) (i:=i);simp only[List.set_cons_succ,dH];omega
theorem xM{α:Type}{f:α->Nat}:∀(l r:List α),dH f (l++r)=dH f l+dH f r
 |[],r=>by simp[dH]
 |y::l,r=>by simp only[List.cons_append,dH,xM l r];omega
theorem Tx(s:M.aA)(b:M.aI3):dH M.aI3.sz (CJ s b)<=dH M.aI3.sz s.aI4+M.aI3.sz b:=by unfold CJ;split;(exact Hh);·rw[xM,xM];have:=xM (f:=M.aI3.sz) (s.aI4.take (UH s b)) (s.aI4.drop (UH s b));rw[qm]at this;simp only[dH];omega
theorem Vf{s:M.aA}(C:M.aA.sz s<=1048576):∀x∈s.aI4,M.aI3.sz x<=1048576:=λx j=>by have:=cN (f:=M.aI3.sz) j;simp only[M.aA.sz]at C;omega
theorem OE{s:M.aA}{b:M.aI3}(j:s.ok)(hb:b.ok)(I:M.aA.sz s<=1048576):M.aA.ok (⟨CJ s b⟩:M.aA):=
 ⟨⟨by show(CJ s b).length<=maxLen;have:=IM s b;simp only[M.aA.sz]at I;unfold maxLen;omega,λx C=>by rcases JI C with rfl|h;(exact hb);·exact j.aI4.2 x h⟩⟩
theorem M6{s:M.aA}{b:M.aI3}(C:M.aA.sz s<=1048576)(I:M.aI2.sz b.bR.aJQ<=1048576):∀x∈CJ s b,M.aI2.sz x.bR.aJQ<=1048576:=λx j=>by rcases JI j with rfl|h;(exact I);·exact xV (Vf C x h)
theorem Rc{s:M.aA}{b:M.aI3}(j:s.ok)(hb:b.ok)(C:M.aA.sz s<=1048576):M.aA.ok (E6 s b).1:=by unfold E6 K7;split;(split;(exact OE j hb C);·exact j);·exact j
theorem VL(s:M.aA)(b:M.aI3):M.aA.sz (E6 s b).1<=M.aA.sz s+M.aI3.sz b+1:=by have h1:=IM s b;have h2:=Tx s b;unfold E6 K7;simp only[M.aA.sz];split;(split<;>simp only<;>omega);·simp only;omega
theorem Sq{s:M.aA}{l:List M.aI3}(hs:s.ok)(hz:M.aA.sz s<=1048576)(U:M.aA.ok (⟨l⟩:M.aA))(zl:∀x∈l,M.aI2.sz x.bR.aJQ<=1048576):
  ((cV s).bind λC=>if(!C)=true then(some s).bind λI=>some (I,false)else(cV (⟨l⟩:M.aA)).bind λJ=>if(!J)=true then(some s).bind λj=>some (j,false)else some ((⟨l⟩:M.aA),true))=some (K7 s l):=by
 rw[Ly hs hz,qA,C3 U zl]
 unfold K7
 cases oP s
 ·simp
 ·cases oP (⟨l⟩:M.aA)<;>simp
theorem Tk{s:M.aA}{l:List M.aI3}(hs:s.ok)(hz:M.aA.sz s<=1048576)(U:M.aA.ok (⟨l⟩:M.aA))(zl:∀x∈l,M.aI2.sz x.bR.aJQ<=1048576):
  ((cW s).bind λC=>if(!C)=true then(some s).bind λI=>some (I,false)else(cW (⟨l⟩:M.aA)).bind λJ=>if(!J)=true then(some s).bind λj=>some (j,false)else some ((⟨l⟩:M.aA),true))=some (K7 s l):=by
 rw[Lj hs hz,qA,Dc U zl]
 unfold K7
 cases oP s
 ·simp
 ·cases oP (⟨l⟩:M.aA)<;>simp
def tS(s:M.aA)(b:M.aI3)(k:Nat):Option (M.aA×Bool):=(Bz s.aI4 (k:Int)).bind λ_=>(app 328 ([]:List M.aI3) (List.take (k:Int).toNat s.aI4)).bind λ_=>(gV b).bind λj=>(app 328 (List.take (k:Int).toNat s.aI4) ([j])).bind λ_=>(app 328 ((List.take (k:Int).toNat s.aI4)++[j]) (List.drop (k:Int).toNat s.aI4)).bind λ_=>(cV s).bind λI=>if(!I)=true then(fO s).bind λJ=>some (J,false)else(cV (⟨((List.take (k:Int).toNat s.aI4)++[j])++(List.drop (k:Int).toNat s.aI4)⟩:M.aA)).bind λU=>if(!U)=true then(fO s).bind λC=>some (C,false)else some ((⟨((List.take (k:Int).toNat s.aI4)++[j])++(List.drop (k:Int).toNat s.aI4)⟩:M.aA),true)
def tI(s:M.aA)(b:M.aI3)(k:Nat):Option (M.aA×Bool):=(eE b).bind λj=>(ND 328 s.aI4 (k:Int) ([j])).bind λaj=>(cW s).bind λC=>if(!C)=true then(cQ s).bind λI=>some (I,false)else(cW (⟨List.take (k:Int).toNat s.aI4++([j]++List.drop (k:Int).toNat s.aI4)⟩:M.aA)).bind λJ=>if(!J)=true then(cQ s).bind λU=>some (U,false)else some ((⟨List.take (k:Int).toNat s.aI4++([j]++List.drop (k:Int).toNat s.aI4)⟩:M.aA),true)
theorem C8{s:M.aA}{b:M.aI3}(C:s.ok)(hb:b.ok)(I:M.aA.sz s<=1048576)(zc:M.aI3.sz b<=1073741824)(zb:M.aI2.sz b.bR.aJQ<=1048576):gQ s b=some (E6 s b):=by
 have hm:=le_max C.aI4.1
 have hlen:s.aI4.length<=1048576:=by simp only[M.aA.sz]at I;omega
 have ok:=OE C hb I
 have all:=M6 (s:=s) I zb
 have hle:=Pj s b
 unfold gQ E6
 rw[E1 s jB,qA,uV C,qA]
 by_cases h:iJ (nAt b.aI7 b.Top) s.aI4>=0
 ·obtain⟨j,U,J⟩:=dK (show ¬iJ (nAt b.aI7 b.Top) s.aI4<0 by omega)
  have e:CJ s b=s.aI4.set (iJ (nAt b.aI7 b.Top) s.aI4).toNat b:=by unfold CJ;rw[if_pos h]
  rw[if_pos (by simpa using h),AQ b jB,qA]
  rw[e]at ok all⊢
  rw[U]at ok all⊢
  rw[aJ J,qA]
  exact Sq C I ok all
 ·have e:CJ s b=s.aI4.take (UH s b)++([b]++s.aI4.drop (UH s b)):=by unfold CJ;rw[if_neg h]
  rw[if_neg (by simpa using h),Kx (l:=s.aI4) (f:=λx=>EW x b) (L:=mU s b s) (S:=tS s b) C.aI4.1 (λn k hk=> ?_) (λn=> ?_)]
  ·show tS s b (UH s b)=_;unfold tS;rw[Da hle,qA,qH,Gv jC jB,qA,AQ b jB,qA,dS jU,qA,dS jO,qA,qT,<-e];rw[E1 s jB];exact Sq C I ok all
  ·simp only[mU];rw[if_pos (aW hk),aJ hk,qA,HZ,qA,bF jB];rfl
  ·simp only[mU];rw[if_neg jK];rfl
theorem Lq{s:M.aA}{b:M.aI3}(j:s.ok)(hb:b.ok)(C:M.aA.sz s<=1048576)(I:M.aI3.sz b<=1048576):gQ s b=some (E6 s b):=C8 j hb C jB (xV I)
theorem Kw{s:M.aA}{b:M.aI3}(C:s.ok)(hb:b.ok)(I:M.aA.sz s<=1048576)(zc:M.aI3.sz b<=1073741824)(zb:M.aI2.sz b.bR.aJQ<=1048576):Ap s b=some (E6 s b):=by
 have hm:=le_max C.aI4.1
 have hlen:s.aI4.length<=1048576:=by simp only[M.aA.sz]at I;omega
 have ok:=OE C hb I
 have all:=M6 (s:=s) I zb
 have hle:=Pj s b
 unfold Ap E6
 rw[CW s jB,qA,vH C,qA]
 by_cases h:iJ (nAt b.aI7 b.Top) s.aI4>=0
 ·obtain⟨j,U,J⟩:=dK (show ¬iJ (nAt b.aI7 b.Top) s.aI4<0 by omega)
  have e:CJ s b=s.aI4.set (iJ (nAt b.aI7 b.Top) s.aI4).toNat b:=by unfold CJ;rw[if_pos h]
  rw[if_pos (by simpa using h),zY b jB,qA]
  rw[e]at ok all⊢
  rw[U]at ok all⊢
  rw[aJ J,qA]
  exact Tk C I ok all
 ·have e:CJ s b=s.aI4.take (UH s b)++([b]++s.aI4.drop (UH s b)):=by unfold CJ;rw[if_neg h]
  rw[if_neg (by simpa using h),Kx (l:=s.aI4) (f:=λx=>EW x b) (L:=mR s b s) (S:=tI s b) C.aI4.1 (λn k hk=> ?_) (λn=> ?_)]
  ·show tI s b (UH s b)=_;unfold tI;rw[zY b jB,qA,LF jQ,qA,qH,<-e];rw[CW s jB];exact Tk C I ok all
  ·simp only[mR];rw[if_pos (aW hk),aJ hk,qA,En,qA,bF jB];rfl
  ·simp only[mR];rw[if_neg jK];rfl
theorem JQ{α:Type}{l:List α}{k:Nat}(h:k<=l.length):Dg l (k:Int)=some (l.drop k):=by unfold Dg;rw[if_pos ⟨jB,by simpa using h⟩];simp
theorem Ok:∀{a b c:List UInt8},Op.bytesLess a b=true->Op.bytesLess b c=true->Op.bytesLess a c=true
 |[],[],_,h,_=>by cases h
 |_::_,[],_,h,_=>by cases h
 |_,_::_,[],_,h=>by cases h
 |[],_::_,_::_,_,_=>rfl
 |x::a,y::b,z::c,h1,h2=>by
  have e1:Op.bytesLess (x::a) (y::b)=(decide (x<y)||((x==y)&&Op.bytesLess a b)):=rfl
  have e2:Op.bytesLess (y::b) (z::c)=(decide (y<z)||((y==z)&&Op.bytesLess b c)):=rfl
  have e3:Op.bytesLess (x::a) (z::c)=(decide (x<z)||((x==z)&&Op.bytesLess a c)):=rfl
  rw[e1,Bool.or_eq_true,qM,qL,UInt8.lt_iff_toNat_lt]at h1
  rw[e2,Bool.or_eq_true,qM,qL,UInt8.lt_iff_toNat_lt]at h2
  rw[e3,Bool.or_eq_true,qM,qL,UInt8.lt_iff_toNat_lt]
  rcases h1 with h1|⟨h1,h1'⟩<;>rcases h2 with h2|⟨h2,j⟩
  ·exact .inl jB
  ·exact .inl (by rw[<-eq_of_beq h2];exact h1)
  ·exact .inl (by rw[eq_of_beq h1];exact h2)
  ·exact .inr ⟨by rw[eq_of_beq h1];exact h2,Ok h1' j⟩
theorem Jl{α:Type}{f:α->Bool}:∀{l:List α} {k:Nat},(∀(j:Nat) (C:j<l.length),j<k->f l[j]=true)->(∀(hk:k<l.length),f l[k]=false)->k<=l.length->(l.takeWhile f).length=k
 |[],k,_,_,h=>by simp at h;simp[h]
 |x::l,0,_,h,_=>by have:=h jD;simp only[List.getElem_cons_zero]at this;rw[List.takeWhile_cons,if_neg (by rw[this];simp)];rfl
 |x::l,k+1,h1,h2,h3=>by have:=h1 0 jD jB;simp only[List.getElem_cons_zero]at this;rw[List.takeWhile_cons,if_pos this,qJ,Jl (k:=k) (λj C I=> ?_) (λhk=> ?_) (by simpa using h3)];(have:=h1 (j+1) jC jB;simpa using this);·have:=h2 jC;simpa using this
theorem KM{α:Type}{f:α->Bool}:∀{l:List α} (j:Nat) (C:j<l.length),j<(l.takeWhile f).length->f l[j]=true
 |[],j,C,_=>by simp at C
 |x::l,j,C,h=>by
  rw[List.takeWhile_cons]at h
  split at h
  ·rename_i I
   cases j with
   |zero=>exact I
   |succ j=>exact KM j (by simpa using C) (by simpa using h)
  ·simp at h
theorem KY{α:Type}{f:α->Bool}:∀{l:List α} (hk:(l.takeWhile f).length<l.length),f (l[(l.takeWhile f).length])=false
 |[],hk=>by simp at hk
 |x::l,hk=>by
  cases hx:f x with
  |false=>simp[List.takeWhile_cons,hx]
  |true=>
   have j:(l.takeWhile f).length<l.length:=by rw[List.takeWhile_cons,if_pos hx]at hk;simpa using hk
   have:=KY j
   simpa[List.takeWhile_cons,hx]using this
theorem xI{α:Type}{f:α->Bool}{l:List α}{k:Nat}(h:iJ f l=(k:Int)):∃hk:k<l.length,f l[k]=true:=by
 unfold iJ at h
 cases e:l.findIdx? f with
 |none=>rw[e]at h;simp only at h;omega
 |some i=>
  rw[e]at h
  simp only at h
  have:i=k:=by omega
  subst this
  obtain⟨h1,h2,_⟩:=List.findIdx?_eq_some_iff_getElem.1 e
  exact⟨h1,h2⟩
theorem Hp{α:Type}{f:α->Bool}{l:List α}(h:iJ f l<0):∀x∈l,f x=false:=by
 have h2:=Ht f l
 rw[decide_eq_false jB]at h2
 intro x j
 cases hf:f x with
 |false=>rfl
 |true=>
  have:l.any f=true:=List.any_eq_true.2 ⟨x,j,hf⟩
  rw[<-h2]at this
  cases this
theorem VT{r:M.aE}(h:cJ r=true)(k:Nat)(hk:k+1<r.aI9.length):Op.bytesLess r.aI9[k].Name.toList r.aI9[k+1].Name.toList=true:=by unfold cJ at h;rw[qM,qR]at h;have:=h.1 (k+1) (qS.2 hk);unfold FM at this;rw[qF hk,Nat.add_sub_cancel,qF (show k<r.aI9.length by omega)]at this;simp only[qd,qM]at this;simpa using this.2
theorem Zw{r:M.aE}(h:cJ r=true):∀(d i:Nat) (j:i+d+1<r.aI9.length),Op.bytesLess r.aI9[i].Name.toList r.aI9[i+d+1].Name.toList=true
 |0,i,j=>VT h i j
 |d+1,i,j=>Ok (Zw h d i jB) (VT h (i+d+1) j)
def S9(a:ByteArray)(x:M.Field):Bool:=Op.bytesLess x.Name.toList a.toList
def QI(l:List M.Field)(a:ByteArray):Nat:=(l.takeWhile (S9 a)).length
theorem Yc(l:List M.Field)(a:ByteArray):QI l a<=l.length:=(List.takeWhile_prefix _).length_le
theorem Rb{r:M.aE}{a:ByteArray}(h:cJ r=true){k:Nat}(hk:k<r.aI9.length)(C:sW a r.aI9[k]=true):QI r.aI9 a=k:=by
 have e:r.aI9[k].Name.toList=a.toList:=eq_of_beq C
 refine Jl (λj J I=> ?_) (λ_=> ?_) jB
 ·unfold S9
  rw[<-e]
  have:=Zw h (k-j-1) j jB
  have e2:j+(k-j-1)+1=k:=by omega
  simp only[e2]at this
  exact this
 ·unfold S9;rw[e];exact MF _
def RR(r:M.aE)(a:ByteArray)(n:Int):List M.Field:=if iJ (sW a) r.aI9<0 then r.aI9.take (QI r.aI9 a)++([(⟨a,n⟩:M.Field)]++r.aI9.drop (QI r.aI9 a))
 else match r.aI9[(iJ (sW a) r.aI9).toNat]? with|some x=>r.aI9.set (iJ (sW a) r.aI9).toNat (⟨x.Name,n⟩:M.Field)|none=>r.aI9
def OA(r:M.aE)(l:List M.Field):M.aE×Bool:=if cJ r=true then if cJ (⟨l⟩:M.aE)=true then((⟨l⟩:M.aE),true)else(r,false)else(r,false)
def KD(r:M.aE)(a:ByteArray)(n:Int):M.aE×Bool:=OA r (RR r a n)
theorem Hw{r:M.aE}(h:cJ r=false)(l:List M.Field):OA r l=(r,false):=by unfold OA;rw[h,if_neg jD]
theorem Zd{r:M.aE}{a:ByteArray}{n:Int}(k:Nat)(C:r.ok)(hl:r.aI9.length<=1073741824)(I:a.size<=maxLen)(J:inI n):M.aE.ok (⟨r.aI9.take k++([(⟨a,n⟩:M.Field)]++r.aI9.drop k)⟩:M.aE):=
 ⟨⟨by show(r.aI9.take k++([(⟨a,n⟩:M.Field)]++r.aI9.drop k)).length<=maxLen;unfold maxLen;simp only[qE,qU,qV,qJ,qK];omega,λy U=>by have j:y∈r.aI9.take k++([(⟨a,n⟩:M.Field)]++r.aI9.drop k):=U;simp only[qP,qo,qO,or_false]at j;rcases j with h|rfl|h;(exact C.aI9.2 y (qi h));(exact⟨I,J⟩);·exact C.aI9.2 y (qt h)⟩⟩
theorem VX{r:M.aE}{n:Int}{k:Nat}(hk:k<r.aI9.length)(j:r.ok)(I:inI n):M.aE.ok (⟨r.aI9.set k (⟨r.aI9[k].Name,n⟩:M.Field)⟩:M.aE):=
 ⟨⟨by show(r.aI9.set k _).length<=maxLen;rw[qN];exact j.aI9.1,λy J=>by have C:y∈r.aI9.set k (⟨r.aI9[k].Name,n⟩:M.Field):=J;rcases jA C with h|rfl;(exact j.aI9.2 y h);·exact⟨(j.aI9.2 _ (qG hk)).Name,I⟩⟩⟩
theorem NM{r:M.aE}{l:List M.Field}(C:r.ok)(I:M.aE.sz r<=1073741824)(j:M.aE.ok (⟨l⟩:M.aE)):
  ((bL r).bind λx=>if(!x)=true then(cO r).bind λy=>some (y,false)else(bL (⟨l⟩:M.aE)).bind λz=>if(!z)=true then(cO r).bind λy=>some (y,false)else some ((⟨l⟩:M.aE),true))=some (OA r l):=by
 rw[sM C,qA,CL r I,sM j]
 unfold OA
 cases cJ r
 ·simp
 ·cases cJ (⟨l⟩:M.aE)<;>simp
def tFA(r:M.aE)(a:ByteArray)(n:Int)(k:Nat):Option (M.aE×Bool):=(idx r.aI9 (k:Int)).bind λj=>(bL r).bind λC=>if(!C)=true then(cO r).bind λI=>some (I,false)else(bL (⟨List.set r.aI9 (k:Int).toNat (⟨j.Name,n⟩:M.Field)⟩:M.aE)).bind λJ=>if(!J)=true then(cO r).bind λU=>some (U,false)else some ((⟨List.set r.aI9 (k:Int).toNat (⟨j.Name,n⟩:M.Field)⟩:M.aE),true)
def tFB(r:M.aE)(a:ByteArray)(n:Int)(k:Nat):Option (M.aE×Bool):=(Bz r.aI9 (k:Int)).bind λ_=>(app 24 ([]:List M.Field) (List.take (k:Int).toNat r.aI9)).bind λ_=>(app 24 (List.take (k:Int).toNat r.aI9) ([(⟨a,n⟩:M.Field)])).bind λ_=>(Dg r.aI9 (k:Int)).bind λ_=>(app 24 ((List.take (k:Int).toNat r.aI9)++[(⟨a,n⟩:M.Field)]) (List.drop (k:Int).toNat r.aI9)).bind λ_=>(bL r).bind λj=>if(!j)=true then(cO r).bind λC=>some (C,false)else(bL (⟨((List.take (k:Int).toNat r.aI9)++[(⟨a,n⟩:M.Field)])++(List.drop (k:Int).toNat r.aI9)⟩:M.aE)).bind λI=>if(!I)=true then(cO r).bind λJ=>some (J,false)else some ((⟨((List.take (k:Int).toNat r.aI9)++[(⟨a,n⟩:M.Field)])++(List.drop (k:Int).toNat r.aI9)⟩:M.aE),true)
def tFS(r:M.aE)(a:ByteArray)(n:Int)(k:Nat):Option (M.aE×Bool):=match r.aI9[k]? with|some x=>if(x.Name.toList==a.toList)=true then tFA r a n k else tFB r a n k|none=>tFB r a n k
theorem Zs{r:M.aE}{a:ByteArray}{n:Int}{k:Nat}(hk:k<=r.aI9.length)(j:r.ok)(C:M.aE.sz r<=1073741824)(I:a.size<=maxLen)(U:inI n):tFB r a n k=some (OA r (r.aI9.take k++([(⟨a,n⟩:M.Field)]++r.aI9.drop k))):=by
 have J:r.aI9.length<=1073741824:=by simp only[M.aE.sz]at C;omega
 unfold tFB
 rw[Da hk,qA,qH,Gv (by rw[qU];omega) jB,qA,dS jU,qA,JQ hk,qA,dS jO,qA,qT]
 exact NM j C (Zd k j J I U)
theorem CB{r:M.aE}{a:ByteArray}{n:Int}(I:r.ok)(J:M.aE.sz r<=1073741824)(ha:a.size<=maxLen)(U:inI n):jW r a n=some (KD r a n):=by
 have hl:r.aI9.length<=1073741824:=by simp only[M.aE.sz]at J;omega
 have hp:=Yc r.aI9 a
 unfold jW
 rw[CL r J,qA,Kx (l:=r.aI9) (f:=S9 a) (L:=nZ r a n r) (S:=tFS r a n) I.aI9.1 (λm k hk=> ?_) (λm=> ?_)]
 ·show tFS r a n (QI r.aI9 a)=_
  unfold tFS KD
  rcases Nat.lt_or_ge (QI r.aI9 a) r.aI9.length with h|h
  ·rw[qF h]
   simp only
   by_cases hf:(r.aI9[QI r.aI9 a].Name.toList==a.toList)=true
   ·rw[if_pos hf]
    unfold tFA
    rw[aJ h,qA,qH,NM I J (VX h I U)]
    cases hR:cJ r with
    |false=>rw[Hw hR,Hw hR]
    |true=>
     have hnot:¬iJ (sW a) r.aI9<0:=λh0=>by have:=Hp h0 _ (qG h);rw[show sW a r.aI9[QI r.aI9 a]=true from hf]at this;cases this
     obtain⟨k,e,hk⟩:=dK hnot
     obtain⟨_,j⟩:=xI e
     have C:=Rb hR hk j
     unfold RR
     rw[if_neg hnot,e,qH,qF hk]
     simp only[C]
   ·rw[if_neg hf,Zs hp I J ha U]
    cases hR:cJ r with
    |false=>rw[Hw hR,Hw hR]
    |true=>
     have hneg:iJ (sW a) r.aI9<0:=Classical.byContradiction λhnot=>by obtain⟨k,e,hk⟩:=dK hnot;obtain⟨_,j⟩:=xI e;have C:=Rb hR hk j;apply hf;simp only[C];exact j
     unfold RR
     rw[if_pos hneg]
  ·rw[qY h]
   simp only
   rw[Zs hp I J ha U]
   cases hR:cJ r with
   |false=>rw[Hw hR,Hw hR]
   |true=>
    have hneg:iJ (sW a) r.aI9<0:=Classical.byContradiction λhnot=>by obtain⟨k,e,hk⟩:=dK hnot;obtain⟨_,j⟩:=xI e;have C:=Rb hR hk j;omega
    unfold RR
    rw[if_pos hneg]
 ·simp only[nZ];rw[if_pos (aW hk),aJ hk,qA,bF jB];unfold tFS;rw[qF hk];simp only;unfold tFA;rw[aJ hk];rfl
 ·simp only[nZ];rw[if_neg jK];unfold tFS;rw[qY (qe _)];rfl
def AW(k:M.Key)(x:M.aJN):Bool:=(x.Key.aJS==k.aJS)&&((x.Key.N==k.N)&&(x.Key.aJb.toList==k.aJb.toList))
theorem Bo{s:M.aD}{k:M.Key}(I:s.ok):oL s k=some (iJ (AW k) s.aI6):=by have J:=le_max I.aI6.1;unfold oL;rw[findAll (L:=oY s k) (f:=AW k) (A:=λi=>some (i:Int)) (E:=some (-1)) I.aI6.1 (λm j C=> ?_) (λm=> ?_),uH];(simp only[oY];rw[if_pos (aW C),aJ C,qA,bF jB];rfl);·simp only[oY];rw[if_neg jK]
theorem XC{x y:M.Key}(I:DX x=true)(J:DX y=true)(h:¬dG x y<0)(j:((x.aJS==y.aJS)&&((x.N==y.N)&&(x.aJb.toList==y.aJb.toList)))=false):dG y x<0:=by
 unfold dG at*
 rw[if_pos ⟨I,J⟩]at h
 rw[if_pos ⟨J,I⟩]
 by_cases hk:x.aJS=y.aJS
 ·rw[if_pos hk]at h
  rw[if_pos hk.symm]
  by_cases hn:x.N=y.N
  ·rw[if_pos hn]at h
   rw[if_pos hn.symm]
   have hb:(x.aJb.toList==y.aJb.toList)=false:=by simpa[hk,hn]using j
   have U:Op.bytesLess x.aJb.toList y.aJb.toList=false:=by
    cases e:Op.bytesLess x.aJb.toList y.aJb.toList with
    |false=>rfl
    |true=>rw[e,if_pos rfl]at h;omega
   have C:=Ea x.aJb.toList y.aJb.toList
   rw[U,Bool.beq_comm,hb,Bool.or_false]at C
   have h2:Op.bytesLess y.aJb.toList x.aJb.toList=true:=by
    cases e:Op.bytesLess y.aJb.toList x.aJb.toList with
    |true=>rfl
    |false=>rw[e]at C;cases C
   rw[if_pos h2]
   omega
  ·rw[if_neg hn]at h;rw[if_neg (λe=>hn e.symm)];by_cases hlt:x.N<y.N;(rw[if_pos hlt]at h;omega);·rw[if_pos jB];omega
 ·rw[if_neg hk]at h;rw[if_neg (λe=>hk e.symm)];by_cases hlt:x.aJS<y.aJS;(rw[if_pos hlt]at h;omega);·rw[if_pos jB];omega
theorem PR{l:List M.aJN}(h1:∀(k:Nat) (x:M.aJN),l[k]? =some x->DX x.Key=true/\cJ x.aE=true)(h2:∀(k:Nat) (x y:M.aJN),l[k]? =some x->l[k+1]? =some y->dG x.Key y.Key<0):(List.range l.length).all (Df l)=true:=by
 rw[qR]
 intro k hk
 have hk:=qS.1 hk
 unfold Df
 obtain⟨C,I⟩:=h1 k _ (qF hk)
 cases k with
 |zero=>rw[qF hk];simp[C,I]
 |succ k=>
  have j:k<l.length:=by omega
  have b:=h2 k _ _ (qF j) (qF hk)
  rw[qF hk,Nat.add_sub_cancel,qF j]
  simp[C,I,b]
theorem Jt{l:List M.aJN}(h:(List.range l.length).all (Df l)=true):(∀(k:Nat) (x:M.aJN),l[k]? =some x->DX x.Key=true/\cJ x.aE=true)/\(∀(k:Nat) (x y:M.aJN),l[k]? =some x->l[k+1]? =some y->dG x.Key y.Key<0):=by rw[qR]at h;refine⟨λk x j=> ?_,λk x y j C=> ?_⟩;(have hk:k<l.length:=(qc.1 j).1;have:=h k (qS.2 hk);unfold Df at this;rw[j]at this;simp only[qd,qM]at this;exact this.1);·have hk:k+1<l.length:=(qc.1 C).1;have:=h (k+1) (qS.2 hk);unfold Df at this;rw[C,Nat.add_sub_cancel,j]at this;simp only[qd,qM]at this;simpa using this.2
theorem V4{α:Type}{l:List α}{p:Nat}{x:α}(C:p<=l.length)(k:Nat):(l.take p++([x]++l.drop p))[k]? =if k<p then l[k]? else if k=p then some x else l[k-1]? :=by
 have j:(l.take p).length=p:=by rw[qU];omega
 rw[List.getElem?_append,j]
 by_cases h1:k<p
 ·rw[if_pos h1,if_pos h1,List.getElem?_take_of_lt h1]
 ·rw[if_neg h1,if_neg h1];by_cases h2:k=p;(subst h2;simp);·rw[if_neg h2];obtain⟨d,rfl⟩:∃d,k=p+1+d:=⟨k-p-1,jB⟩;rw[show p+1+d-p=d+1 by omega,List.singleton_append,List.getElem?_cons_succ,List.getElem?_drop,show p+1+d-1=p+d by omega]
def KP(k:M.Key)(x:M.aJN):Bool:=decide (dG x.Key k<0)
def Ez(l:List M.aJN)(k:M.Key):Nat:=(l.takeWhile (KP k)).length
theorem O1(l:List M.aJN)(k:M.Key):Ez l k<=l.length:=(List.takeWhile_prefix _).length_le
def JB(s:M.aD)(k:M.Key):Int:=if((k.aJS==1)&&(decide (k.N>s.aJa)&&decide (k.N<=1000000)))=true then k.N else s.aJa
def P2(s:M.aD)(k:M.Key)(r:M.aE):M.aD:=(⟨s.Name,s.aI6.take (Ez s.aI6 k)++([(⟨k,r⟩:M.aJN)]++s.aI6.drop (Ez s.aI6 k)),JB s k⟩:M.aD)
def RI(s:M.aD)(i:Nat)(r:M.aE):M.aD:=(⟨s.Name,match s.aI6[i]? with|some x=>s.aI6.set i (⟨x.Key,r⟩:M.aJN)|none=>s.aI6,s.aJa⟩:M.aD)
def DN(s:M.aD)(k:M.Key)(r:M.aE):M.aD×Bool:=if iR s=true then if DX k=true then if iJ (AW k) s.aI6<0 then if s.aI6.length<16 then(P2 s k r,true)else(s,false)else(RI s (iJ (AW k) s.aI6).toNat r,true)else(s,false)else(s,false)
theorem Ac{s:M.aD}(h:iR s=true):(List.range s.aI6.length).all (Df s.aI6)=true/\oJ s.Name=true/\s.aI6.length<=16/\0<=s.aJa/\s.aJa<=1000000:=by unfold iR inR at h;simp only[qM,qL]at h;exact⟨h.1,h.2.1,h.2.2.1,h.2.2.2.1,h.2.2.2.2⟩
theorem Yh{s:M.aD}(h1:(List.range s.aI6.length).all (Df s.aI6)=true)(h2:oJ s.Name=true)(h3:s.aI6.length<=16)(h4:0<=s.aJa)(h5:s.aJa<=1000000):iR s=true:=by unfold iR inR;simp[h1,h2,h3,h4,h5]
theorem Xt{s:M.aD}{k:M.Key}(h:iR s=true):0<=JB s k/\JB s k<=1000000:=by obtain⟨_,_,_,h4,h5⟩:=Ac h;unfold JB;split;(rename_i hc;simp only[qM,qL]at hc;omega);·exact⟨h4,h5⟩
theorem WT{s:M.aD}{i:Nat}{r:M.aE}(h:iR s=true)(C:i<s.aI6.length):iR (RI s i r)=cJ r:=by
 obtain⟨h1,h2,h3,h4,h5⟩:=Ac h
 obtain⟨a1,a2⟩:=Jt h1
 have e:RI s i r=(⟨s.Name,s.aI6.set i (⟨s.aI6[i].Key,r⟩:M.aJN),s.aJa⟩:M.aD):=by unfold RI;rw[qF C]
 rw[e]
 have key:∀(k:Nat) (x:M.aJN),(s.aI6.set i (⟨s.aI6[i].Key,r⟩:M.aJN))[k]? =some x->∃y,s.aI6[k]? =some y/\x.Key=y.Key/\(k≠i->x=y)/\(k=i->x.aE=r):=by intro k x j;rw[List.getElem?_set]at j;by_cases hk:i=k;(subst hk;rw[if_pos rfl,if_pos C]at j;cases j;exact⟨_,qF C,rfl,λI=>absurd rfl I,λ_=>rfl⟩);·rw[if_neg hk]at j;exact⟨x,j,rfl,λ_=>rfl,λI=>absurd I.symm hk⟩
 cases hr:cJ r with
 |true=>
  refine Yh (PR (λk x j=> ?_) (λk x y j U=> ?_)) h2 (by show(s.aI6.set i _).length<=16;rw[qN];exact h3) h4 h5
  ·obtain⟨y,U,e1,e2,e3⟩:=key k x j;obtain⟨b1,b2⟩:=a1 k y U;refine⟨by rw[e1];exact b1,?_⟩;by_cases hk:k=i;(rw[e3 hk];exact hr);·rw[e2 hk];exact b2
  ·obtain⟨x',J,e1,_⟩:=key k x j;obtain⟨y',hy',e2,_⟩:=key (k+1) y U;rw[e1,e2];exact a2 k x' y' J hy'
 |false=>
  cases hq:iR (⟨s.Name,s.aI6.set i (⟨s.aI6[i].Key,r⟩:M.aJN),s.aJa⟩:M.aD)with
  |false=>rfl
  |true=>
   have:=(Jt (Ac hq).1).1 i _ (by show(s.aI6.set i _)[i]? =_;rw[List.getElem?_set,if_pos rfl,if_pos C])
   simp only at this
   rw[hr]at this
   cases this.2
theorem Vi{s:M.aD}{k:M.Key}{r:M.aE}(h:iR s=true)(hk:DX k=true)(hr:cJ r=true)(hf:iJ (AW k) s.aI6<0)(au:Int)(U:0<=au/\au<=1000000):
  iR (⟨s.Name,s.aI6.take (Ez s.aI6 k)++([(⟨k,r⟩:M.aJN)]++s.aI6.drop (Ez s.aI6 k)),au⟩:M.aD)=decide (s.aI6.length<16):=by
 obtain⟨h1,h2,h3,h4,h5⟩:=Ac h
 obtain⟨a1,a2⟩:=Jt h1
 have hp:=O1 s.aI6 k
 have hlen:(s.aI6.take (Ez s.aI6 k)++([(⟨k,r⟩:M.aJN)]++s.aI6.drop (Ez s.aI6 k))).length=s.aI6.length+1:=by simp only[qE,qU,qV,qJ,qK];omega
 have hall:(List.range (s.aI6.take (Ez s.aI6 k)++([(⟨k,r⟩:M.aJN)]++s.aI6.drop (Ez s.aI6 k))).length).all (Df (s.aI6.take (Ez s.aI6 k)++([(⟨k,r⟩:M.aJN)]++s.aI6.drop (Ez s.aI6 k))))=true:=by
  refine PR (λj x C=> ?_) (λj x y C I=> ?_)
  ·rw[V4 hp]at C;split at C;(exact a1 j x C);·split at C;(cases C;exact⟨hk,hr⟩);·exact a1 _ x C
  ·rw[V4 hp]at C I
   by_cases c1:j+1<Ez s.aI6 k
   ·rw[if_pos jB]at C;rw[if_pos c1]at I;exact a2 j x y C I
   ·rw[if_neg c1]at I
    by_cases c2:j+1=Ez s.aI6 k
    ·rw[if_pos c2]at I
     rw[if_pos jB]at C
     cases I
     have hj:j<s.aI6.length:=by omega
     have:=KM (f:=KP k) (l:=s.aI6) j hj (by show j<Ez s.aI6 k;omega)
     rw[qF hj]at C
     cases C
     unfold KP at this
     simpa using this
    ·rw[if_neg c2]at I
     by_cases c3:j=Ez s.aI6 k
     ·rw[if_neg jB,if_pos c3]at C
      cases C
      rw[Nat.add_sub_cancel]at I
      have hj:j<s.aI6.length:=(qc.1 I).1
      have hj':(s.aI6.takeWhile (KP k)).length<s.aI6.length:=by show Ez s.aI6 k<_;omega
      have J:=KY (f:=KP k) hj'
      have e1:s.aI6[(s.aI6.takeWhile (KP k)).length]=y:=by
       have:s.aI6[Ez s.aI6 k]? =some y:=by rw[<-c3];exact I
       exact(qc.1 this).2
      rw[e1]at J
      unfold KP at J
      have hne:=Hp hf y (by rw[<-e1];exact qG _)
      unfold AW at hne
      exact XC (a1 j y I).1 hk (by simpa using J) hne
     ·rw[if_neg jB,if_neg c3]at C;rw[show j+1-1=(j-1)+1 by omega]at I;exact a2 (j-1) x y C I
 have e1:decide ((s.aI6.take (Ez s.aI6 k)++([(⟨k,r⟩:M.aJN)]++s.aI6.drop (Ez s.aI6 k))).length<=16)=decide (s.aI6.length<16):=decide_eq_decide.2 (by rw[hlen];omega)
 unfold iR inR
 rw[hall,h2,e1,decide_eq_true U.1,decide_eq_true U.2]
 simp
theorem Wl{s:M.aD}{k:M.Key}{r:M.aE}{J:Int}(p:Nat)(I:s.ok)(hl:s.aI6.length<=1073741824)(hk:k.ok)(U:r.ok)(C:inI J):M.aD.ok (⟨s.Name,s.aI6.take p++([(⟨k,r⟩:M.aJN)]++s.aI6.drop p),J⟩:M.aD):=
 ⟨I.Name,⟨by show(s.aI6.take p++([(⟨k,r⟩:M.aJN)]++s.aI6.drop p)).length<=maxLen;unfold maxLen;simp only[qE,qU,qV,qJ,qK];omega,λy hy=>by have j:y∈s.aI6.take p++([(⟨k,r⟩:M.aJN)]++s.aI6.drop p):=hy;simp only[qP,qo,qO,or_false]at j;rcases j with h|rfl|h;(exact I.aI6.2 y (qi h));(exact⟨hk,U⟩);·exact I.aI6.2 y (qt h)⟩,C⟩
theorem aAS{s:M.aD}{r:M.aE}{i:Nat}(I:i<s.aI6.length)(j:s.ok)(J:r.ok):M.aD.ok (⟨s.Name,s.aI6.set i (⟨s.aI6[i].Key,r⟩:M.aJN),s.aJa⟩:M.aD):=
 ⟨j.Name,⟨by show(s.aI6.set i _).length<=maxLen;rw[qN];exact j.aI6.1,λy U=>by have C:y∈s.aI6.set i (⟨s.aI6[i].Key,r⟩:M.aJN):=U;rcases jA C with h|rfl;(exact j.aI6.2 y h);·exact⟨(j.aI6.2 _ (qG I)).Key,J⟩⟩,j.aJa⟩
theorem U7{s:M.aD}{k:M.Key}(j:s.ok)(hk:k.ok):inI (JB s k):=by unfold JB;split;(exact hk.N);·exact j.aJa
