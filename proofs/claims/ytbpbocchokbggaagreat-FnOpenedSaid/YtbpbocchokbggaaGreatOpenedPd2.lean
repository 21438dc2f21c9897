/-
  Helper text. No conditions.
-/
import Derived.Test.YtbpbocchokbggaaGreatOpenedPd1
set_option linter.all false
namespace Go.Proofs.YtbpbocchokbggaaGreat.gen
open Go Go.Sh
open Go.IntKind (i64)
theorem Ij{p:M.aHO->M.aHO->Option Bool}{f:M.aHO->M.aHO->Bool}{xs ys:List M.aHO}(C:xs.length<=maxLen)(I:∀x∈xs,∀y∈ys,p x y=some (f x y)):lI xs ys p=some (eqL f xs ys):=by
 have J:=le_max C
 unfold lI
 rw[E0 (f:=f) C (E:=some true) (λn k hk j=>by
  simp only[eH]
  rw[if_pos (aY hk),aK hk,aK j,qA,qA,bD jF]
  rw[I _ (qG hk) _ (qG j),qA,fR]) (λn=>by
  simp only[eH]
  rw[if_neg jO]),bA,Bool.and_true]
theorem I8{a b:List Int}(j:okB a)(hb:okB b):yO a b=some (eqL B7 a b):=by unfold yO;rw[Fe j.2,Fe hb.2,qA,qA,Qm j.2 hb.2];rfl
theorem EA{a b:List Int}(j:okB a):uK a b=some (eqL B7 a b):=by unfold uK;rw[PQ j.1,qA]
def Gf(x y:M.aHH):Bool:=(x.aH2==y.aH2)&&((x.aHx==y.aHx)&&((x.aHA==y.aHA)&&((x.aH9==y.aH9)&&eqL B7 x.aH3 y.aH3)))
theorem FT{a b:M.aHH}(j:a.ok):sB a b=some (Gf a b):=by simp only[sB,EA j.aH3,qA,bA,Cz,Ax,Gf];ac_rfl
def I6(x y:M.aHU):Bool:=(x.aHL.toList==y.aHL.toList)&&((x.aHv.toList==y.aHv.toList)&&Gf x.aHH y.aHH)
def Po(x y:M.aHM):Bool:=(x.aHA==y.aHA)&&eqL I6 x.aHS y.aHS
def Ik(x y:M.aF):Bool:=eqL Po x.aHC y.aHC
theorem IZ{a b:M.aHU}(j:a.ok):sK a b=some (I6 a b):=by simp only[sK,FT j.aHH,qA,bA,Cz,Ax,I6]
theorem Il{a b:M.aHM}(j:a.ok):sY a b=some (Po a b):=by simp only[sY,Ih (f:=I6) j.aHS.1 (λx C y I=>IZ (j.aHS.2 x C)),qA,bA,Cz,Ax,Po]
theorem FR{a b:M.aF}(j:a.ok):rU a b=some (Ik a b):=by simp only[rU,JB (f:=Po) j.aHC.1 (λx C y I=>Il (j.aHC.2 x C)),qA,bA,Cz,Ax,Ik]
def NI(x y:M.aD):Bool:=eqL K9 x.aHG y.aHG
theorem HP{a b:M.aD}(j:a.ok):uY a b=some (NI a b):=by simp only[uY,On j.aHG.1,qA,NI]
def aAf(x y:M.Key):Bool:=(x.aHb==y.aHb)&&((x.N==y.N)&&(x.aHi.toList==y.aHi.toList))
def Ti(x y:M.aHV):Bool:=aAf x.Key y.Key&&NI x.aD y.aD
def Ii(x y:M.aC):Bool:=(x.Name.toList==y.Name.toList)&&((x.aHg==y.aHg)&&eqL Ti x.aHF y.aHF)
theorem JL{a b:M.aHV}(j:a.ok):uP a b=some (Ti a b):=by simp only[uP,HP j.aD,qA,bA,Cz,Ax,Ti,aAf]
theorem Cj{a b:M.aC}(j:a.ok):hJ a b=some (Ii a b):=by simp only[hJ,KG (f:=Ti) j.aHF.1 (λx C y I=>JL (j.aHF.2 x C)),qA,bA,Cz,Ax,Ii]
def FZ(x y:M.aHB):Bool:=(x.Name.toList==y.Name.toList)&&((x.aHA==y.aHA)&&(eqL Ii x.aHP y.aHP&&eqL DW x.aHX y.aHX))
theorem Gw{a b:M.aHB}(j:a.ok):sA a b=some (FZ a b):=by simp only[sA,Jk (f:=Ii) j.aHP.1 (λx C y I=>Cj (j.aHP.2 x C)),Ku j.aHX.1,qA,bA,Cz,Ax,FZ]
def UM(x y:M.bP):Bool:=FZ x.aHa y.aHa&&(eqL B7 x.Log y.Log&&(x.aHs==y.aHs))
theorem Jw{a b:M.bP}(j:a.ok):yH a b=some (UM a b):=by simp only[yH,Gw j.aHa,EA j.Log,qA,bA,Cz,Ax,UM]
def L0(x y:M.aJ):Bool:=(x.aHI==y.aHI)&&((x.aHj==y.aHj)&&eqL D9 x.aHW y.aHW)
theorem GR{a b:M.aJ}(j:a.ok):uA a b=some (L0 a b):=by simp only[uA,Ia j.aHW.1,qA,bA,Cz,Ax,L0]
def WW(x y:M.aHY):Bool:=L0 x.aJ y.aJ&&((x.aHr==y.aHr)&&(x.aHe==y.aHe))
theorem Jt{a b:M.aHY}(j:a.ok):yZ a b=some (WW a b):=by simp only[yZ,GR j.aJ,qA,bA,Cz,Ax,WW]
def IG(x y:M.aE):Bool:=Ii x.aHa y.aHa&&((x.aHw==y.aHw)&&WW x.aHY y.aHY)
theorem GS{a b:M.aE}(j:a.ok):tU a b=some (IG a b):=by simp only[tU,Cj j.aHa,Jt j.aHY,qA,bA,Cz,Ax,IG]
def aBh(x y:M.aG9):Bool:=(x.aHL.toList==y.aHL.toList)&&((x.aHf==y.aHf)&&((x.aHm==y.aHm)&&(x.aHp==y.aHp)))
def JP(x y:M.aHD):Bool:=(x.aHL.toList==y.aHL.toList)&&((x.Top.toList==y.Top.toList)&&(aBh x.aG9 y.aG9&&(Ik x.aHC y.aHC&&(UM x.bP y.bP&&(IG x.aE y.aE&&((x.aHk==y.aHk)&&(x.aHh==y.aHh)))))))
theorem HE{a b:M.aHD}(j:a.ok):pY a b=some (JP a b):=by simp only[pY,FR j.aHC,Jw j.bP,GS j.aE,qA,bA,Cz,Ax,JP,aBh]
def K4(x y:M.aA):Bool:=eqL JP x.aHE y.aHE
theorem GV{a b:M.aA}(j:a.ok):tX a b=some (K4 a b):=by simp only[tX,Iq (f:=JP) j.aHE.1 (λx C y I=>HE (j.aHE.2 x C)),qA,bA,Cz,Ax,K4]
def KZ(x y:M.aHJ):Bool:=eqL I4 x.aHt y.aHt&&((x.Pc==y.Pc)&&(eqL OL x.aH1 y.aH1&&((x.aHy==y.aHy)&&((x.aH5==y.aH5)&&(x.aH6==y.aH6)))))
theorem GQ{a b:M.aHJ}(j:a.ok):tT a b=some (KZ a b):=by simp only[tT,OC j.aHt.1,Qu j.aH1.1,qA,bA,Cz,Ax,KZ]
def Qn(x y:M.bC):Bool:=(x.Id==y.Id)&&((x.aHL.toList==y.aHL.toList)&&((x.Top.toList==y.Top.toList)&&((x.aHA==y.aHA)&&(eqL FM x.aT y.aT&&KZ x.aHJ y.aHJ))))
theorem Kw{a b:M.bC}(j:a.ok):gM a b=some (Qn a b):=by simp only[gM,MD j.aT.1,GQ j.aHJ,qA,bA,Cz,Ax,Qn]
def HN(x y:M.aHO):Bool:=Ii x.aC y.aC&&(eqL ED x.aO y.aO&&eqL D9 x.aHd y.aHd)
theorem Hy{a b:M.aHO}(j:a.ok):rG a b=some (HN a b):=by simp only[rG,Cj j.aC,LX j.aO.1,Ia j.aHd.1,qA,bA,Cz,Ax,HN]
def Q3(x y:M.aHL):Bool:=(x.Name.toList==y.Name.toList)&&((x.aHA==y.aHA)&&(eqL Gq x.aHl y.aHl&&(x.aHo==y.aHo)))
theorem JV{a b:M.aHL}(j:a.ok):pT a b=some (Q3 a b):=by simp only[pT,MT j.aHl.1,qA,bA,Cz,Ax,Q3]
def Sj(x y:M.World):Bool:=(x.Now==y.Now)&&((x.aHc==y.aHc)&&((x.aHI==y.aHI)&&(K4 x.aA y.aA&&(eqL Qn x.aHQ y.aHQ&&((x.aHK==y.aHK)&&(eqL Mm x.aHR.aHR y.aHR.aHR&&(eqL LG x.aHN.aHn y.aHN.aHn&&(eqL Q3 x.aHZ y.aHZ&&eqL HN x.aHT y.aHT))))))))
theorem Ef{a b:M.World}(j:a.ok):sS a b=some (Sj a b):=by simp only[sS,GV j.aA,KD (f:=Qn) j.aHQ.1 (λx C y I=>Kw (j.aHQ.2 x C)),Pb j.aHR.aHR.1,OY j.aHN.aHn.1,KM (f:=Q3) j.aHZ.1 (λx C y I=>JV (j.aHZ.2 x C)),Ij (f:=HN) j.aHT.1 (λx C y I=>Hy (j.aHT.2 x C)),qA,bA,Cz,Ax,Sj]
theorem D4{l:List Int}(j:l.length<=1048576):sZ l=some ([(List.length l:Int)]++l.map i64.wrap):=by unfold sZ;have:=QR (b:=8) (xs:=l) (f:=i64.wrap) (L:=iI l) (λn k hk r=> ?_) (λn r=> ?_) fuel 0 ([(List.length l:Int)]) jM jF jG;(simpa using this);(simp only[iI];rw[if_pos (aY hk),aK hk,qA,bD jF]);·simp only[iI];rw[if_neg jO]
theorem Io{l:List Int}(j:l.length<=1048576):xG l=some ([(List.length l:Int)]++l.map i64.wrap):=by unfold xG;have:=QR (b:=8) (xs:=l) (f:=i64.wrap) (L:=iN l) (λn k hk r=> ?_) (λn r=> ?_) fuel 0 ([(List.length l:Int)]) jM jF jG;(simpa using this);(simp only[iN];rw[if_pos (aY hk),aK hk,qA,bD jF]);·simp only[iN];rw[if_neg jO]
theorem SF(x:Int):Es x 2147483647=some (Qg x):=by
 have e:aZ 2147483647 1 1000000000000=some true:=by decide
 unfold Es
 rw[e,qA,if_neg jH,if_neg jH,Wb]
theorem S3(x:Int):EO x 2147483647=some (Qg x):=by
 have e:aV 2147483647 1 1000000000000=some true:=by decide
 unfold EO
 rw[e,qA,if_neg jH,if_neg jH,Xm]
theorem LO{l:List Int}(j:l.length<=maxLen):CD l=some (HH l):=by have C:=le_max j;unfold CD HH;refine Hl (L:=xN l) (E:=some) j (λn v k hk=> ?_) (λn v=> ?_) 11;(simp only[xN];rw[if_pos (aY hk),aK hk,qA,SF,qA,bD jF];rfl);·simp only[xN];rw[if_neg jO]
theorem Fm{k:Int}{l:List Int}(j:l.length<=2000000):wJ k l=some (HH (([k]++l)++[k])):=by unfold wJ;rw[dY jG,qA,dY jG,qA,LO (by simp[maxLen];omega),qA]
theorem Qv{l:List Int}(j:l.length<=maxLen):DU l=some (HH l):=by have C:=le_max j;unfold DU HH;refine Hl (L:=xS l) (E:=some) j (λn v k hk=> ?_) (λn v=> ?_) 11;(simp only[xS];rw[if_pos (aY hk),aK hk,qA,S3,qA,bD jF];rfl);·simp only[xS];rw[if_neg jO]
theorem FA{k:Int}{l:List Int}(j:l.length<=2000000):wL k l=some (HH (([k]++l)++[k])):=by unfold wL;rw[dY jG,qA,dY jG,qA,Qv (by simp[maxLen];omega),qA]
def F5(k:Int)(s:ByteArray):Int:=if HH (([k]++([(List.length (bR s):Int)]++(bR s).map i64.wrap))++[k])=0 then 1 else HH (([k]++([(List.length (bR s):Int)]++(bR s).map i64.wrap))++[k])
theorem H2{k:Int}{s:ByteArray}(C:s.size<=1048576):kB k s=some (F5 k s):=by have j:=aP s;unfold kB DJ F5;rw[D4 jF,qA,Fm jG,qA];have:=QA (([k]++([(List.length (bR s):Int)]++(bR s).map i64.wrap))++[k]);generalize HH (([k]++([(List.length (bR s):Int)]++(bR s).map i64.wrap))++[k])=h at*;by_cases h0:h=0;(rw[if_neg jG,if_pos h0];rfl);·rw[if_neg h0];by_cases h1:h=1;(rw[if_neg jG,h1];rfl);·rw[if_pos jG];rfl
theorem IE{k:Int}{s:ByteArray}(C:s.size<=1048576):kK k s=some (F5 k s):=by have j:=aP s;unfold kK F5;rw[Io jF,qA,FA jG,qA];generalize HH (([k]++([(List.length (bR s):Int)]++(bR s).map i64.wrap))++[k])=h;by_cases h0:h=0;(rw[if_pos (by simp[h0]),if_pos h0]);·rw[if_neg (by simp[h0]),if_neg h0]
theorem Pu{x:Int}(j:0<=x)(h1:x<2147483647):∀(n:Nat) (v:Int) (r:List Int),wF x n v r=fH x n v r
 |0,_,_=>rfl
 |n+1,v,r=>by simp only[wF,fH,YY j h1,Pu j h1 n]
theorem Zo(x:Int):∃l,fH x fuel 5 ([]:List Int)=some l/\okB l:=by
 have st:∀n (v:Nat) r,r.length<=7->(∀y∈r,0<=y/\y<=255)->v<=5->∃y:Int,(0<=y/\y<=255)/\fH x (n+1) (v:Int) r=fH x n ((v:Int)-1) (r++[y]):=by intro n v r hr hy hv;refine⟨IntKind.u8.wrap (Int.fdiv x (2^(min (i64.wrap (8*(v:Int))).toNat IntKind.i64.bits))),by rw[wrap_u8];omega,?_⟩;simp only[fH];rw[if_pos jH,if_pos (by rw[bO jF jF];simp;omega),dY jG,qA,bO (n:=(v:Int)-1) jF jF]
 have e7:∀n r,fH x (n+1) (-1) r=some r:=by intro n r;simp only[fH];rw[if_neg jI]
 rw[WR]
 obtain⟨x1,j,e1⟩:=st (18446744073709551609+6) 5 [] jH jH jH
 obtain⟨x2,C,e2⟩:=st (18446744073709551609+5) 4 ([]++[x1]) jH (by simpa using j) jH
 obtain⟨x3,I,e3⟩:=st (18446744073709551609+4) 3 ([]++[x1]++[x2]) jH (by simpa using⟨j,C⟩) jH
 obtain⟨x4,J,e4⟩:=st (18446744073709551609+3) 2 ([]++[x1]++[x2]++[x3]) jH (by simpa using⟨j,C,I⟩) jH
 obtain⟨x5,U,e5⟩:=st (18446744073709551609+2) 1 ([]++[x1]++[x2]++[x3]++[x4]) jH (by simpa using⟨j,C,I,J⟩) jH
 obtain⟨x6,b6,e6⟩:=st (18446744073709551609+1) 0 ([]++[x1]++[x2]++[x3]++[x4]++[x5]) jH (by simpa using⟨j,C,I,J,U⟩) jH
 exact⟨_,e1.trans (e2.trans (e3.trans (e4.trans (e5.trans (e6.trans (e7 _ _)))))),by simp[maxLen],by simpa using⟨j,C,I,J,U,b6⟩⟩
theorem Wu{t:M.aHL}{f:ByteArray}{v:Int}(h1:t.Name.size<=1048576)(h2:f.size<=1048576):∃l,Cf t f v=some l/\Cn t f v=some l/\okB l:=by unfold Cf Cn;rw[H2 h1,IE h1,qA,qA,H2 h2,IE h2,qA,qA,Fm jH,FA jH,qA,qA];have hb:=QA (([i64.wrap (1+v)]++[103,F5 107 t.Name,F5 109 f])++[i64.wrap (1+v)]);rw[Pu hb.1 hb.2];obtain⟨l,e,j⟩:=Zo (HH (([i64.wrap (1+v)]++[103,F5 107 t.Name,F5 109 f])++[i64.wrap (1+v)]));exact⟨l,e,e,j⟩
theorem Ma{α R:Type}{l:List α}{f:α->Bool}{L:Nat->Int->Option R}{S:Nat->Option R}(j:l.length<=maxLen)
  (h1:∀n (k:Nat) (hk:k<l.length),L (n+1) (k:Int)=if f l[k]=true then L n ((k+1:Nat):Int)else S k)(h2:∀n,L (n+1) (l.length:Int)=S l.length):L fuel 0=S (l.takeWhile f).length:=by
 have I:=le_max j
 have key:∀(n k:Nat),l.length-k<n->k<=l.length->L n (k:Int)=S (k+((l.drop k).takeWhile f).length):=by
  intro n
  induction n with
  |zero=>intro k h _;omega
  |succ n C=>
   intro k J hk
   rcases Nat.lt_or_ge k l.length with h|h
   ·rw[h1 n k h,qX h,List.takeWhile_cons];by_cases hf:f l[k]=true;(rw[if_pos hf,if_pos hf,C (k+1) jF h,qJ];congr 1;omega);·rw[if_neg hf,if_neg hf];simp
   ·have:k=l.length:=by omega
    subst this
    rw[h2 n]
    simp
 have:=key fuel 0 jM jF
 simpa using this
def Tv(s:M.aA)(b:M.aHD):Nat:=(s.aHE.takeWhile (λx=>Ek x b)).length
theorem Om(s:M.aA)(b:M.aHD):Tv s b<=s.aHE.length:=(List.takeWhile_prefix _).length_le
def Cy(s:M.aA)(b:M.aHD):List M.aHD:=if mM (nAt b.aHL b.Top) s.aHE>=0 then s.aHE.set (mM (nAt b.aHL b.Top) s.aHE).toNat b else s.aHE.take (Tv s b)++([b]++s.aHE.drop (Tv s b))
def Kr(s:M.aA)(l:List M.aHD):M.aA×Bool:=if pI s=true then if pI (⟨l⟩:M.aA)=true then((⟨l⟩:M.aA),true)else(s,false)else(s,false)
def JI(s:M.aA)(b:M.aHD):M.aA×Bool:=Kr s (Cy s b)
theorem IV{s:M.aA}{b x:M.aHD}(h:x∈Cy s b):x=b\/x∈s.aHE:=by unfold Cy at h;split at h;(rcases jD h with h|h;(exact .inr h);·exact .inl h);·simp only[qP,qq,qO,or_false]at h;rcases h with h|h|h;(exact .inr (qk h));(exact .inl h);·exact .inr (qv h)
theorem HY(s:M.aA)(b:M.aHD):(Cy s b).length<=s.aHE.length+1:=by have:=Om s b;unfold Cy;split;(simp);·simp only[qE,qV,qJ,qK,qW];omega
theorem IY{α:Type}{f:α->Nat}{x:α}:∀{l:List α} {i:Nat},dG f (l.set i x)<=dG f l+f x
 |[],_=>by simp[dG]
 |y::l,0=>by simp only[List.set_cons_zero,dG];omega
 |y::l,i+1=>by have:=IY (f:=f) (x:=x) (l:=l) (i:=i);simp only[List.set_cons_succ,dG];omega
theorem zT{α:Type}{f:α->Nat}:∀(l r:List α),dG f (l++r)=dG f l+dG f r
 |[],r=>by simp[dG]
 |y::l,r=>by simp only[List.cons_append,dG,zT l r];omega
theorem Ss(s:M.aA)(b:M.aHD):dG M.aHD.sz (Cy s b)<=dG M.aHD.sz s.aHE+M.aHD.sz b:=by unfold Cy;split;(exact IY);·rw[zT,zT];have:=zT (f:=M.aHD.sz) (s.aHE.take (Tv s b)) (s.aHE.drop (Tv s b));rw[qo]at this;simp only[dG];omega
theorem Ub{s:M.aA}(C:M.aA.sz s<=1048576):∀x∈s.aHE,M.aHD.sz x<=1048576:=λx j=>by have:=eU (f:=M.aHD.sz) j;simp only[M.aA.sz]at C;omega
theorem NL{s:M.aA}{b:M.aHD}(j:s.ok)(hb:b.ok)(I:M.aA.sz s<=1048576):M.aA.ok (⟨Cy s b⟩:M.aA):=
 ⟨⟨by show(Cy s b).length<=maxLen;have:=HY s b;simp only[M.aA.sz]at I;unfold maxLen;omega,λx C=>by rcases IV C with rfl|h;(exact hb);·exact j.aHE.2 x h⟩⟩
theorem Mj{s:M.aA}{b:M.aHD}(C:M.aA.sz s<=1048576)(I:M.aHB.sz b.bP.aHa<=1048576):∀x∈Cy s b,M.aHB.sz x.bP.aHa<=1048576:=λx j=>by rcases IV j with rfl|h;(exact I);·exact DP (Ub C x h)
theorem TN{s:M.aA}{b:M.aHD}(j:s.ok)(hb:b.ok)(C:M.aA.sz s<=1048576):M.aA.ok (JI s b).1:=by unfold JI Kr;split;(split;(exact NL j hb C);·exact j);·exact j
theorem YI(s:M.aA)(b:M.aHD):M.aA.sz (JI s b).1<=M.aA.sz s+M.aHD.sz b+1:=by have h1:=HY s b;have h2:=Ss s b;unfold JI Kr;simp only[M.aA.sz];split;(split<;>simp only<;>omega);·simp only;omega
theorem Rj{s:M.aA}{l:List M.aHD}(hs:s.ok)(hz:M.aA.sz s<=1048576)(U:M.aA.ok (⟨l⟩:M.aA))(zl:∀x∈l,M.aHB.sz x.bP.aHa<=1048576):
  ((cN s).bind λC=>if(!C)=true then(some s).bind λI=>some (I,false)else(cN (⟨l⟩:M.aA)).bind λJ=>if(!J)=true then(some s).bind λj=>some (j,false)else some ((⟨l⟩:M.aA),true))=some (Kr s l):=by
 rw[KT hs hz,qA,CA U zl]
 unfold Kr
 cases pI s
 ·simp
 ·cases pI (⟨l⟩:M.aA)<;>simp
theorem Sd{s:M.aA}{l:List M.aHD}(hs:s.ok)(hz:M.aA.sz s<=1048576)(U:M.aA.ok (⟨l⟩:M.aA))(zl:∀x∈l,M.aHB.sz x.bP.aHa<=1048576):
  ((cO s).bind λC=>if(!C)=true then(some s).bind λI=>some (I,false)else(cO (⟨l⟩:M.aA)).bind λJ=>if(!J)=true then(some s).bind λj=>some (j,false)else some ((⟨l⟩:M.aA),true))=some (Kr s l):=by
 rw[KB hs hz,qA,CH U zl]
 unfold Kr
 cases pI s
 ·simp
 ·cases pI (⟨l⟩:M.aA)<;>simp
def tS(s:M.aA)(b:M.aHD)(k:Nat):Option (M.aA×Bool):=(AX s.aHE (k:Int)).bind λ_=>(app 328 ([]:List M.aHD) (List.take (k:Int).toNat s.aHE)).bind λ_=>(nM b).bind λj=>(app 328 (List.take (k:Int).toNat s.aHE) ([j])).bind λ_=>(app 328 ((List.take (k:Int).toNat s.aHE)++[j]) (List.drop (k:Int).toNat s.aHE)).bind λ_=>(cN s).bind λI=>if(!I)=true then(fO s).bind λJ=>some (J,false)else(cN (⟨((List.take (k:Int).toNat s.aHE)++[j])++(List.drop (k:Int).toNat s.aHE)⟩:M.aA)).bind λU=>if(!U)=true then(fO s).bind λC=>some (C,false)else some ((⟨((List.take (k:Int).toNat s.aHE)++[j])++(List.drop (k:Int).toNat s.aHE)⟩:M.aA),true)
def tI(s:M.aA)(b:M.aHD)(k:Nat):Option (M.aA×Bool):=(kC b).bind λj=>(PX 328 s.aHE (k:Int) ([j])).bind λaj=>(cO s).bind λC=>if(!C)=true then(cJ s).bind λI=>some (I,false)else(cO (⟨List.take (k:Int).toNat s.aHE++([j]++List.drop (k:Int).toNat s.aHE)⟩:M.aA)).bind λJ=>if(!J)=true then(cJ s).bind λU=>some (U,false)else some ((⟨List.take (k:Int).toNat s.aHE++([j]++List.drop (k:Int).toNat s.aHE)⟩:M.aA),true)
theorem EC{s:M.aA}{b:M.aHD}(C:s.ok)(hb:b.ok)(I:M.aA.sz s<=1048576)(zc:M.aHD.sz b<=1073741824)(zb:M.aHB.sz b.bP.aHa<=1048576):iS s b=some (JI s b):=by
 have hm:=le_max C.aHE.1
 have hlen:s.aHE.length<=1048576:=by simp only[M.aA.sz]at I;omega
 have ok:=NL C hb I
 have all:=Mj (s:=s) I zb
 have hle:=Om s b
 unfold iS JI
 rw[Em s jF,qA,xX C,qA]
 by_cases h:mM (nAt b.aHL b.Top) s.aHE>=0
 ·obtain⟨j,U,J⟩:=iF (show ¬mM (nAt b.aHL b.Top) s.aHE<0 by omega)
  have e:Cy s b=s.aHE.set (mM (nAt b.aHL b.Top) s.aHE).toNat b:=by unfold Cy;rw[if_pos h]
  rw[if_pos (by simpa using h),C1 b jF,qA]
  rw[e]at ok all⊢
  rw[U]at ok all⊢
  rw[aK J,qA]
  exact Rj C I ok all
 ·have e:Cy s b=s.aHE.take (Tv s b)++([b]++s.aHE.drop (Tv s b)):=by unfold Cy;rw[if_neg h]
  rw[if_neg (by simpa using h),Ma (l:=s.aHE) (f:=λx=>Ek x b) (L:=mF s b s) (S:=tS s b) C.aHE.1 (λn k hk=> ?_) (λn=> ?_)]
  ·show tS s b (Tv s b)=_;unfold tS;rw[CF hle,qA,qH,FG jG jF,qA,C1 b jF,qA,dY jX,qA,dY jS,qA,qT,<-e];rw[Em s jF];exact Rj C I ok all
  ·simp only[mF];rw[if_pos (aY hk),aK hk,qA,Hi,qA,bD jF];rfl
  ·simp only[mF];rw[if_neg jO];rfl
theorem KI{s:M.aA}{b:M.aHD}(j:s.ok)(hb:b.ok)(C:M.aA.sz s<=1048576)(I:M.aHD.sz b<=1048576):iS s b=some (JI s b):=EC j hb C jF (DP I)
theorem JO{s:M.aA}{b:M.aHD}(C:s.ok)(hb:b.ok)(I:M.aA.sz s<=1048576)(zc:M.aHD.sz b<=1073741824)(zb:M.aHB.sz b.bP.aHa<=1048576):tE s b=some (JI s b):=by
 have hm:=le_max C.aHE.1
 have hlen:s.aHE.length<=1048576:=by simp only[M.aA.sz]at I;omega
 have ok:=NL C hb I
 have all:=Mj (s:=s) I zb
 have hle:=Om s b
 unfold tE JI
 rw[Cs s jF,qA,CP C,qA]
 by_cases h:mM (nAt b.aHL b.Top) s.aHE>=0
 ·obtain⟨j,U,J⟩:=iF (show ¬mM (nAt b.aHL b.Top) s.aHE<0 by omega)
  have e:Cy s b=s.aHE.set (mM (nAt b.aHL b.Top) s.aHE).toNat b:=by unfold Cy;rw[if_pos h]
  rw[if_pos (by simpa using h),CQ b jF,qA]
  rw[e]at ok all⊢
  rw[U]at ok all⊢
  rw[aK J,qA]
  exact Sd C I ok all
 ·have e:Cy s b=s.aHE.take (Tv s b)++([b]++s.aHE.drop (Tv s b)):=by unfold Cy;rw[if_neg h]
  rw[if_neg (by simpa using h),Ma (l:=s.aHE) (f:=λx=>Ek x b) (L:=mC s b s) (S:=tI s b) C.aHE.1 (λn k hk=> ?_) (λn=> ?_)]
  ·show tI s b (Tv s b)=_;unfold tI;rw[CQ b jF,qA,Rl (by simp only[qH,qJ,qK];omega),qA,qH,<-e];rw[Cs s jF];exact Sd C I ok all
  ·simp only[mC];rw[if_pos (aY hk),aK hk,qA,DN,qA,bD jF];rfl
  ·simp only[mC];rw[if_neg jO];rfl
theorem Ho{α:Type}{l:List α}{k:Nat}(h:k<=l.length):Bd l (k:Int)=some (l.drop k):=by unfold Bd;rw[if_pos ⟨jF,by simpa using h⟩];simp
theorem Nw:∀{a b c:List UInt8},Op.bytesLess a b=true->Op.bytesLess b c=true->Op.bytesLess a c=true
 |[],[],_,h,_=>by cases h
 |_::_,[],_,h,_=>by cases h
 |_,_::_,[],_,h=>by cases h
 |[],_::_,_::_,_,_=>rfl
 |x::a,y::b,z::c,h1,h2=>by
  have e1:Op.bytesLess (x::a) (y::b)=(decide (x<y)||((x==y)&&Op.bytesLess a b)):=rfl
  have e2:Op.bytesLess (y::b) (z::c)=(decide (y<z)||((y==z)&&Op.bytesLess b c)):=rfl
  have e3:Op.bytesLess (x::a) (z::c)=(decide (x<z)||((x==z)&&Op.bytesLess a c)):=rfl
  rw[e1,Bool.or_eq_true,qM,qL,UInt8.lt_iff_toNat_lt]at h1
  rw[e2,Bool.or_eq_true,qM,qL,UInt8.lt_iff_toNat_lt]at h2
  rw[e3,Bool.or_eq_true,qM,qL,UInt8.lt_iff_toNat_lt]
  rcases h1 with h1|⟨h1,h1'⟩<;>rcases h2 with h2|⟨h2,j⟩
  ·exact .inl jF
  ·exact .inl (by rw[<-eq_of_beq h2];exact h1)
  ·exact .inl (by rw[eq_of_beq h1];exact h2)
  ·exact .inr ⟨by rw[eq_of_beq h1];exact h2,Nw h1' j⟩
theorem Ir{α:Type}{f:α->Bool}:∀{l:List α} {k:Nat},(∀(j:Nat) (C:j<l.length),j<k->f l[j]=true)->(∀(hk:k<l.length),f l[k]=false)->k<=l.length->(l.takeWhile f).length=k
 |[],k,_,_,h=>by simp at h;simp[h]
 |x::l,0,_,h,_=>by have:=h jH;simp only[List.getElem_cons_zero]at this;rw[List.takeWhile_cons,if_neg (by rw[this];simp)];rfl
 |x::l,k+1,h1,h2,h3=>by have:=h1 0 jH jF;simp only[List.getElem_cons_zero]at this;rw[List.takeWhile_cons,if_pos this,qJ,Ir (k:=k) (λj C I=> ?_) (λhk=> ?_) (by simpa using h3)];(have:=h1 (j+1) jG jF;simpa using this);·have:=h2 jG;simpa using this
theorem J6{α:Type}{f:α->Bool}:∀{l:List α} (j:Nat) (C:j<l.length),j<(l.takeWhile f).length->f l[j]=true
 |[],j,C,_=>by simp at C
 |x::l,j,C,h=>by
  rw[List.takeWhile_cons]at h
  split at h
  ·rename_i I
   cases j with
   |zero=>exact I
   |succ j=>exact J6 j (by simpa using C) (by simpa using h)
  ·simp at h
theorem Kj{α:Type}{f:α->Bool}:∀{l:List α} (hk:(l.takeWhile f).length<l.length),f (l[(l.takeWhile f).length])=false
 |[],hk=>by simp at hk
 |x::l,hk=>by
  cases hx:f x with
  |false=>simp[List.takeWhile_cons,hx]
  |true=>
   have j:(l.takeWhile f).length<l.length:=by rw[List.takeWhile_cons,if_pos hx]at hk;simpa using hk
   have:=Kj j
   simpa[List.takeWhile_cons,hx]using this
theorem B1{α:Type}{f:α->Bool}{l:List α}{k:Nat}(h:mM f l=(k:Int)):∃hk:k<l.length,f l[k]=true:=by
 unfold mM at h
 cases e:l.findIdx? f with
 |none=>rw[e]at h;simp only at h;omega
 |some i=>
  rw[e]at h
  simp only at h
  have:i=k:=by omega
  subst this
  obtain⟨h1,h2,_⟩:=List.findIdx?_eq_some_iff_getElem.1 e
  exact⟨h1,h2⟩
theorem Jo{α:Type}{f:α->Bool}{l:List α}(h:mM f l<0):∀x∈l,f x=false:=by
 have h2:=Iv f l
 rw[decide_eq_false jF]at h2
 intro x j
 cases hf:f x with
 |false=>rfl
 |true=>
  have:l.any f=true:=List.any_eq_true.2 ⟨x,j,hf⟩
  rw[<-h2]at this
  cases this
theorem UL{r:M.aD}(h:cC r=true)(k:Nat)(hk:k+1<r.aHG.length):Op.bytesLess r.aHG[k].Name.toList r.aHG[k+1].Name.toList=true:=by unfold cC at h;rw[qM,qR]at h;have:=h.1 (k+1) (qS.2 hk);unfold EY at this;rw[qF hk,Nat.add_sub_cancel,qF (show k<r.aHG.length by omega)]at this;simp only[qf,qM]at this;simpa using this.2
theorem X7{r:M.aD}(h:cC r=true):∀(d i:Nat) (j:i+d+1<r.aHG.length),Op.bytesLess r.aHG[i].Name.toList r.aHG[i+d+1].Name.toList=true
 |0,i,j=>UL h i j
 |d+1,i,j=>Nw (X7 h d i jF) (UL h (i+d+1) j)
def RX(a:ByteArray)(x:M.Field):Bool:=Op.bytesLess x.Name.toList a.toList
def PR(l:List M.Field)(a:ByteArray):Nat:=(l.takeWhile (RX a)).length
theorem WO(l:List M.Field)(a:ByteArray):PR l a<=l.length:=(List.takeWhile_prefix _).length_le
theorem Qk{r:M.aD}{a:ByteArray}(h:cC r=true){k:Nat}(hk:k<r.aHG.length)(C:sP a r.aHG[k]=true):PR r.aHG a=k:=by
 have e:r.aHG[k].Name.toList=a.toList:=eq_of_beq C
 refine Ir (λj J I=> ?_) (λ_=> ?_) jF
 ·unfold RX
  rw[<-e]
  have:=X7 h (k-j-1) j jF
  have e2:j+(k-j-1)+1=k:=by omega
  simp only[e2]at this
  exact this
 ·unfold RX;rw[e];exact LW _
def QT(r:M.aD)(a:ByteArray)(n:Int):List M.Field:=if mM (sP a) r.aHG<0 then r.aHG.take (PR r.aHG a)++([(⟨a,n⟩:M.Field)]++r.aHG.drop (PR r.aHG a))
 else match r.aHG[(mM (sP a) r.aHG).toNat]? with|some x=>r.aHG.set (mM (sP a) r.aHG).toNat (⟨x.Name,n⟩:M.Field)|none=>r.aHG
def NH(r:M.aD)(l:List M.Field):M.aD×Bool:=if cC r=true then if cC (⟨l⟩:M.aD)=true then((⟨l⟩:M.aD),true)else(r,false)else(r,false)
def JX(r:M.aD)(a:ByteArray)(n:Int):M.aD×Bool:=NH r (QT r a n)
theorem GL{r:M.aD}(h:cC r=false)(l:List M.Field):NH r l=(r,false):=by unfold NH;rw[h,if_neg jH]
theorem XL{r:M.aD}{a:ByteArray}{n:Int}(k:Nat)(C:r.ok)(hl:r.aHG.length<=1073741824)(I:a.size<=maxLen)(J:inI n):M.aD.ok (⟨r.aHG.take k++([(⟨a,n⟩:M.Field)]++r.aHG.drop k)⟩:M.aD):=
 ⟨⟨by show(r.aHG.take k++([(⟨a,n⟩:M.Field)]++r.aHG.drop k)).length<=maxLen;unfold maxLen;simp only[qE,qV,qW,qJ,qK];omega,λy U=>by have j:y∈r.aHG.take k++([(⟨a,n⟩:M.Field)]++r.aHG.drop k):=U;simp only[qP,qq,qO,or_false]at j;rcases j with h|rfl|h;(exact C.aHG.2 y (qk h));(exact⟨I,J⟩);·exact C.aHG.2 y (qv h)⟩⟩
theorem UP{r:M.aD}{n:Int}{k:Nat}(hk:k<r.aHG.length)(j:r.ok)(I:inI n):M.aD.ok (⟨r.aHG.set k (⟨r.aHG[k].Name,n⟩:M.Field)⟩:M.aD):=
 ⟨⟨by show(r.aHG.set k _).length<=maxLen;rw[qN];exact j.aHG.1,λy J=>by have C:y∈r.aHG.set k (⟨r.aHG[k].Name,n⟩:M.Field):=J;rcases jD C with h|rfl;(exact j.aHG.2 y h);·exact⟨(j.aHG.2 _ (qG hk)).Name,I⟩⟩⟩
theorem M1{r:M.aD}{l:List M.Field}(C:r.ok)(I:M.aD.sz r<=1073741824)(j:M.aD.ok (⟨l⟩:M.aD)):
  ((bL r).bind λx=>if(!x)=true then(cG r).bind λy=>some (y,false)else(bL (⟨l⟩:M.aD)).bind λz=>if(!z)=true then(cG r).bind λy=>some (y,false)else some ((⟨l⟩:M.aD),true))=some (NH r l):=by
 rw[sG C,qA,Ci r I,sG j]
 unfold NH
 cases cC r
 ·simp
 ·cases cC (⟨l⟩:M.aD)<;>simp
def tFA(r:M.aD)(a:ByteArray)(n:Int)(k:Nat):Option (M.aD×Bool):=(idx r.aHG (k:Int)).bind λj=>(bL r).bind λC=>if(!C)=true then(cG r).bind λI=>some (I,false)else(bL (⟨List.set r.aHG (k:Int).toNat (⟨j.Name,n⟩:M.Field)⟩:M.aD)).bind λJ=>if(!J)=true then(cG r).bind λU=>some (U,false)else some ((⟨List.set r.aHG (k:Int).toNat (⟨j.Name,n⟩:M.Field)⟩:M.aD),true)
def tFB(r:M.aD)(a:ByteArray)(n:Int)(k:Nat):Option (M.aD×Bool):=(AX r.aHG (k:Int)).bind λ_=>(app 24 ([]:List M.Field) (List.take (k:Int).toNat r.aHG)).bind λ_=>(app 24 (List.take (k:Int).toNat r.aHG) ([(⟨a,n⟩:M.Field)])).bind λ_=>(Bd r.aHG (k:Int)).bind λ_=>(app 24 ((List.take (k:Int).toNat r.aHG)++[(⟨a,n⟩:M.Field)]) (List.drop (k:Int).toNat r.aHG)).bind λ_=>(bL r).bind λj=>if(!j)=true then(cG r).bind λC=>some (C,false)else(bL (⟨((List.take (k:Int).toNat r.aHG)++[(⟨a,n⟩:M.Field)])++(List.drop (k:Int).toNat r.aHG)⟩:M.aD)).bind λI=>if(!I)=true then(cG r).bind λJ=>some (J,false)else some ((⟨((List.take (k:Int).toNat r.aHG)++[(⟨a,n⟩:M.Field)])++(List.drop (k:Int).toNat r.aHG)⟩:M.aD),true)
def tFS(r:M.aD)(a:ByteArray)(n:Int)(k:Nat):Option (M.aD×Bool):=match r.aHG[k]? with|some x=>if(x.Name.toList==a.toList)=true then tFA r a n k else tFB r a n k|none=>tFB r a n k
theorem XZ{r:M.aD}{a:ByteArray}{n:Int}{k:Nat}(hk:k<=r.aHG.length)(j:r.ok)(C:M.aD.sz r<=1073741824)(I:a.size<=maxLen)(U:inI n):tFB r a n k=some (NH r (r.aHG.take k++([(⟨a,n⟩:M.Field)]++r.aHG.drop k))):=by
 have J:r.aHG.length<=1073741824:=by simp only[M.aD.sz]at C;omega
 unfold tFB
 rw[CF hk,qA,qH,FG (by rw[qV];omega) jF,qA,dY jX,qA,Ho hk,qA,dY jS,qA,qT]
 exact M1 j C (XL k j J I U)
theorem Cb{r:M.aD}{a:ByteArray}{n:Int}(I:r.ok)(J:M.aD.sz r<=1073741824)(ha:a.size<=maxLen)(U:inI n):iQ r a n=some (JX r a n):=by
 have hl:r.aHG.length<=1073741824:=by simp only[M.aD.sz]at J;omega
 have hp:=WO r.aHG a
 unfold iQ
 rw[Ci r J,qA,Ma (l:=r.aHG) (f:=RX a) (L:=nQ r a n r) (S:=tFS r a n) I.aHG.1 (λm k hk=> ?_) (λm=> ?_)]
 ·show tFS r a n (PR r.aHG a)=_
  unfold tFS JX
  rcases Nat.lt_or_ge (PR r.aHG a) r.aHG.length with h|h
  ·rw[qF h]
   simp only
   by_cases hf:(r.aHG[PR r.aHG a].Name.toList==a.toList)=true
   ·rw[if_pos hf]
    unfold tFA
    rw[aK h,qA,qH,M1 I J (UP h I U)]
    cases hR:cC r with
    |false=>rw[GL hR,GL hR]
    |true=>
     have hnot:¬mM (sP a) r.aHG<0:=λh0=>by have:=Jo h0 _ (qG h);rw[show sP a r.aHG[PR r.aHG a]=true from hf]at this;cases this
     obtain⟨k,e,hk⟩:=iF hnot
     obtain⟨_,j⟩:=B1 e
     have C:=Qk hR hk j
     unfold QT
     rw[if_neg hnot,e,qH,qF hk]
     simp only[C]
   ·rw[if_neg hf,XZ hp I J ha U]
    cases hR:cC r with
    |false=>rw[GL hR,GL hR]
    |true=>
     have hneg:mM (sP a) r.aHG<0:=Classical.byContradiction λhnot=>by obtain⟨k,e,hk⟩:=iF hnot;obtain⟨_,j⟩:=B1 e;have C:=Qk hR hk j;apply hf;simp only[C];exact j
     unfold QT
     rw[if_pos hneg]
  ·rw[qZ h]
   simp only
   rw[XZ hp I J ha U]
   cases hR:cC r with
   |false=>rw[GL hR,GL hR]
   |true=>
    have hneg:mM (sP a) r.aHG<0:=Classical.byContradiction λhnot=>by obtain⟨k,e,hk⟩:=iF hnot;obtain⟨_,j⟩:=B1 e;have C:=Qk hR hk j;omega
    unfold QT
    rw[if_pos hneg]
 ·simp only[nQ];rw[if_pos (aY hk),aK hk,qA,bD jF];unfold tFS;rw[qF hk];simp only;unfold tFA;rw[aK hk];rfl
 ·simp only[nQ];rw[if_neg jO];unfold tFS;rw[qZ (qg _)];rfl
def AA(k:M.Key)(x:M.aHV):Bool:=(x.Key.aHb==k.aHb)&&((x.Key.N==k.N)&&(x.Key.aHi.toList==k.aHi.toList))
theorem A0{s:M.aC}{k:M.Key}(I:s.ok):oA s k=some (mM (AA k) s.aHF):=by have J:=le_max I.aHF.1;unfold oA;rw[findAll (L:=oP s k) (f:=AA k) (A:=λi=>some (i:Int)) (E:=some (-1)) I.aHF.1 (λm j C=> ?_) (λm=> ?_),pM];(simp only[oP];rw[if_pos (aY C),aK C,qA,bD jF];rfl);·simp only[oP];rw[if_neg jO]
theorem Wj{x y:M.Key}(I:Dq x=true)(J:Dq y=true)(h:¬cX x y<0)(j:((x.aHb==y.aHb)&&((x.N==y.N)&&(x.aHi.toList==y.aHi.toList)))=false):cX y x<0:=by
 unfold cX at*
 rw[if_pos ⟨I,J⟩]at h
 rw[if_pos ⟨J,I⟩]
 by_cases hk:x.aHb=y.aHb
 ·rw[if_pos hk]at h
  rw[if_pos hk.symm]
  by_cases hn:x.N=y.N
  ·rw[if_pos hn]at h
   rw[if_pos hn.symm]
   have hb:(x.aHi.toList==y.aHi.toList)=false:=by simpa[hk,hn]using j
   have U:Op.bytesLess x.aHi.toList y.aHi.toList=false:=by
    cases e:Op.bytesLess x.aHi.toList y.aHi.toList with
    |false=>rfl
    |true=>rw[e,if_pos rfl]at h;omega
   have C:=DC x.aHi.toList y.aHi.toList
   rw[U,Bool.beq_comm,hb,Bool.or_false]at C
   have h2:Op.bytesLess y.aHi.toList x.aHi.toList=true:=by
    cases e:Op.bytesLess y.aHi.toList x.aHi.toList with
    |true=>rfl
    |false=>rw[e]at C;cases C
   rw[if_pos h2]
   omega
  ·rw[if_neg hn]at h;rw[if_neg (λe=>hn e.symm)];by_cases hlt:x.N<y.N;(rw[if_pos hlt]at h;omega);·rw[if_pos jF];omega
 ·rw[if_neg hk]at h;rw[if_neg (λe=>hk e.symm)];by_cases hlt:x.aHb<y.aHb;(rw[if_pos hlt]at h;omega);·rw[if_pos jF];omega
theorem OU{l:List M.aHV}(h1:∀(k:Nat) (x:M.aHV),l[k]? =some x->Dq x.Key=true/\cC x.aD=true)(h2:∀(k:Nat) (x y:M.aHV),l[k]? =some x->l[k+1]? =some y->cX x.Key y.Key<0):(List.range l.length).all (CL l)=true:=by
 rw[qR]
 intro k hk
 have hk:=qS.1 hk
 unfold CL
 obtain⟨C,I⟩:=h1 k _ (qF hk)
 cases k with
 |zero=>rw[qF hk];simp[C,I]
 |succ k=>
  have j:k<l.length:=by omega
  have b:=h2 k _ _ (qF j) (qF hk)
  rw[qF hk,Nat.add_sub_cancel,qF j]
  simp[C,I,b]
theorem IB{l:List M.aHV}(h:(List.range l.length).all (CL l)=true):(∀(k:Nat) (x:M.aHV),l[k]? =some x->Dq x.Key=true/\cC x.aD=true)/\(∀(k:Nat) (x y:M.aHV),l[k]? =some x->l[k+1]? =some y->cX x.Key y.Key<0):=by rw[qR]at h;refine⟨λk x j=> ?_,λk x y j C=> ?_⟩;(have hk:k<l.length:=(qe.1 j).1;have:=h k (qS.2 hk);unfold CL at this;rw[j]at this;simp only[qf,qM]at this;exact this.1);·have hk:k+1<l.length:=(qe.1 C).1;have:=h (k+1) (qS.2 hk);unfold CL at this;rw[C,Nat.add_sub_cancel,j]at this;simp only[qf,qM]at this;simpa using this.2
theorem UW{α:Type}{l:List α}{p:Nat}{x:α}(C:p<=l.length)(k:Nat):(l.take p++([x]++l.drop p))[k]? =if k<p then l[k]? else if k=p then some x else l[k-1]? :=by
 have j:(l.take p).length=p:=by rw[qV];omega
 rw[List.getElem?_append,j]
 by_cases h1:k<p
 ·rw[if_pos h1,if_pos h1,List.getElem?_take_of_lt h1]
 ·rw[if_neg h1,if_neg h1];by_cases h2:k=p;(subst h2;simp);·rw[if_neg h2];obtain⟨d,rfl⟩:∃d,k=p+1+d:=⟨k-p-1,jF⟩;rw[show p+1+d-p=d+1 by omega,List.singleton_append,List.getElem?_cons_succ,List.getElem?_drop,show p+1+d-1=p+d by omega]
def J8(k:M.Key)(x:M.aHV):Bool:=decide (cX x.Key k<0)
def D0(l:List M.aHV)(k:M.Key):Nat:=(l.takeWhile (J8 k)).length
theorem N8(l:List M.aHV)(k:M.Key):D0 l k<=l.length:=(List.takeWhile_prefix _).length_le
def IK(s:M.aC)(k:M.Key):Int:=if((k.aHb==1)&&(decide (k.N>s.aHg)&&decide (k.N<=1000000)))=true then k.N else s.aHg
def O7(s:M.aC)(k:M.Key)(r:M.aD):M.aC:=(⟨s.Name,s.aHF.take (D0 s.aHF k)++([(⟨k,r⟩:M.aHV)]++s.aHF.drop (D0 s.aHF k)),IK s k⟩:M.aC)
def QL(s:M.aC)(i:Nat)(r:M.aD):M.aC:=(⟨s.Name,match s.aHF[i]? with|some x=>s.aHF.set i (⟨x.Key,r⟩:M.aHV)|none=>s.aHF,s.aHg⟩:M.aC)
def Dj(s:M.aC)(k:M.Key)(r:M.aD):M.aC×Bool:=if iJ s=true then if Dq k=true then if mM (AA k) s.aHF<0 then if s.aHF.length<16 then(O7 s k r,true)else(s,false)else(QL s (mM (AA k) s.aHF).toNat r,true)else(s,false)else(s,false)
theorem zH{s:M.aC}(h:iJ s=true):(List.range s.aHF.length).all (CL s.aHF)=true/\nY s.Name=true/\s.aHF.length<=16/\0<=s.aHg/\s.aHg<=1000000:=by unfold iJ inR at h;simp only[qM,qL]at h;exact⟨h.1,h.2.1,h.2.2.1,h.2.2.2.1,h.2.2.2.2⟩
theorem WV{s:M.aC}(h1:(List.range s.aHF.length).all (CL s.aHF)=true)(h2:nY s.Name=true)(h3:s.aHF.length<=16)(h4:0<=s.aHg)(h5:s.aHg<=1000000):iJ s=true:=by unfold iJ inR;simp[h1,h2,h3,h4,h5]
theorem Wa{s:M.aC}{k:M.Key}(h:iJ s=true):0<=IK s k/\IK s k<=1000000:=by obtain⟨_,_,_,h4,h5⟩:=zH h;unfold IK;split;(rename_i hc;simp only[qM,qL]at hc;omega);·exact⟨h4,h5⟩
theorem VD{s:M.aC}{i:Nat}{r:M.aD}(h:iJ s=true)(C:i<s.aHF.length):iJ (QL s i r)=cC r:=by
 obtain⟨h1,h2,h3,h4,h5⟩:=zH h
 obtain⟨a1,a2⟩:=IB h1
 have e:QL s i r=(⟨s.Name,s.aHF.set i (⟨s.aHF[i].Key,r⟩:M.aHV),s.aHg⟩:M.aC):=by unfold QL;rw[qF C]
 rw[e]
 have key:∀(k:Nat) (x:M.aHV),(s.aHF.set i (⟨s.aHF[i].Key,r⟩:M.aHV))[k]? =some x->∃y,s.aHF[k]? =some y/\x.Key=y.Key/\(k≠i->x=y)/\(k=i->x.aD=r):=by intro k x j;rw[List.getElem?_set]at j;by_cases hk:i=k;(subst hk;rw[if_pos rfl,if_pos C]at j;cases j;exact⟨_,qF C,rfl,λI=>absurd rfl I,λ_=>rfl⟩);·rw[if_neg hk]at j;exact⟨x,j,rfl,λ_=>rfl,λI=>absurd I.symm hk⟩
 cases hr:cC r with
 |true=>
  refine WV (OU (λk x j=> ?_) (λk x y j U=> ?_)) h2 (by show(s.aHF.set i _).length<=16;rw[qN];exact h3) h4 h5
  ·obtain⟨y,U,e1,e2,e3⟩:=key k x j;obtain⟨b1,b2⟩:=a1 k y U;refine⟨by rw[e1];exact b1,?_⟩;by_cases hk:k=i;(rw[e3 hk];exact hr);·rw[e2 hk];exact b2
  ·obtain⟨x',J,e1,_⟩:=key k x j;obtain⟨y',hy',e2,_⟩:=key (k+1) y U;rw[e1,e2];exact a2 k x' y' J hy'
 |false=>
  cases hq:iJ (⟨s.Name,s.aHF.set i (⟨s.aHF[i].Key,r⟩:M.aHV),s.aHg⟩:M.aC)with
  |false=>rfl
  |true=>
   have:=(IB (zH hq).1).1 i _ (by show(s.aHF.set i _)[i]? =_;rw[List.getElem?_set,if_pos rfl,if_pos C])
   simp only at this
   rw[hr]at this
   cases this.2
theorem Ue{s:M.aC}{k:M.Key}{r:M.aD}(h:iJ s=true)(hk:Dq k=true)(hr:cC r=true)(hf:mM (AA k) s.aHF<0)(au:Int)(U:0<=au/\au<=1000000):
  iJ (⟨s.Name,s.aHF.take (D0 s.aHF k)++([(⟨k,r⟩:M.aHV)]++s.aHF.drop (D0 s.aHF k)),au⟩:M.aC)=decide (s.aHF.length<16):=by
 obtain⟨h1,h2,h3,h4,h5⟩:=zH h
 obtain⟨a1,a2⟩:=IB h1
 have hp:=N8 s.aHF k
 have hlen:(s.aHF.take (D0 s.aHF k)++([(⟨k,r⟩:M.aHV)]++s.aHF.drop (D0 s.aHF k))).length=s.aHF.length+1:=by simp only[qE,qV,qW,qJ,qK];omega
 have hall:(List.range (s.aHF.take (D0 s.aHF k)++([(⟨k,r⟩:M.aHV)]++s.aHF.drop (D0 s.aHF k))).length).all (CL (s.aHF.take (D0 s.aHF k)++([(⟨k,r⟩:M.aHV)]++s.aHF.drop (D0 s.aHF k))))=true:=by
  refine OU (λj x C=> ?_) (λj x y C I=> ?_)
  ·rw[UW hp]at C;split at C;(exact a1 j x C);·split at C;(cases C;exact⟨hk,hr⟩);·exact a1 _ x C
  ·rw[UW hp]at C I
   by_cases c1:j+1<D0 s.aHF k
   ·rw[if_pos jF]at C;rw[if_pos c1]at I;exact a2 j x y C I
   ·rw[if_neg c1]at I
    by_cases c2:j+1=D0 s.aHF k
    ·rw[if_pos c2]at I
     rw[if_pos jF]at C
     cases I
     have hj:j<s.aHF.length:=by omega
     have:=J6 (f:=J8 k) (l:=s.aHF) j hj (by show j<D0 s.aHF k;omega)
     rw[qF hj]at C
     cases C
     unfold J8 at this
     simpa using this
    ·rw[if_neg c2]at I
     by_cases c3:j=D0 s.aHF k
     ·rw[if_neg jF,if_pos c3]at C
      cases C
      rw[Nat.add_sub_cancel]at I
      have hj:j<s.aHF.length:=(qe.1 I).1
      have hj':(s.aHF.takeWhile (J8 k)).length<s.aHF.length:=by show D0 s.aHF k<_;omega
      have J:=Kj (f:=J8 k) hj'
      have e1:s.aHF[(s.aHF.takeWhile (J8 k)).length]=y:=by
       have:s.aHF[D0 s.aHF k]? =some y:=by rw[<-c3];exact I
       exact(qe.1 this).2
      rw[e1]at J
      unfold J8 at J
      have hne:=Jo hf y (by rw[<-e1];exact qG _)
      unfold AA at hne
      exact Wj (a1 j y I).1 hk (by simpa using J) hne
     ·rw[if_neg jF,if_neg c3]at C;rw[show j+1-1=(j-1)+1 by omega]at I;exact a2 (j-1) x y C I
 have e1:decide ((s.aHF.take (D0 s.aHF k)++([(⟨k,r⟩:M.aHV)]++s.aHF.drop (D0 s.aHF k))).length<=16)=decide (s.aHF.length<16):=decide_eq_decide.2 (by rw[hlen];omega)
 unfold iJ inR
 rw[hall,h2,e1,decide_eq_true U.1,decide_eq_true U.2]
 simp
theorem Vd{s:M.aC}{k:M.Key}{r:M.aD}{J:Int}(p:Nat)(I:s.ok)(hl:s.aHF.length<=1073741824)(hk:k.ok)(U:r.ok)(C:inI J):M.aC.ok (⟨s.Name,s.aHF.take p++([(⟨k,r⟩:M.aHV)]++s.aHF.drop p),J⟩:M.aC):=
 ⟨I.Name,⟨by show(s.aHF.take p++([(⟨k,r⟩:M.aHV)]++s.aHF.drop p)).length<=maxLen;unfold maxLen;simp only[qE,qV,qW,qJ,qK];omega,λy hy=>by have j:y∈s.aHF.take p++([(⟨k,r⟩:M.aHV)]++s.aHF.drop p):=hy;simp only[qP,qq,qO,or_false]at j;rcases j with h|rfl|h;(exact I.aHF.2 y (qk h));(exact⟨hk,U⟩);·exact I.aHF.2 y (qv h)⟩,C⟩
theorem Y1{s:M.aC}{r:M.aD}{i:Nat}(I:i<s.aHF.length)(j:s.ok)(J:r.ok):M.aC.ok (⟨s.Name,s.aHF.set i (⟨s.aHF[i].Key,r⟩:M.aHV),s.aHg⟩:M.aC):=
 ⟨j.Name,⟨by show(s.aHF.set i _).length<=maxLen;rw[qN];exact j.aHF.1,λy U=>by have C:y∈s.aHF.set i (⟨s.aHF[i].Key,r⟩:M.aHV):=U;rcases jD C with h|rfl;(exact j.aHF.2 y h);·exact⟨(j.aHF.2 _ (qG I)).Key,J⟩⟩,j.aHg⟩
theorem T0{s:M.aC}{k:M.Key}(j:s.ok)(hk:k.ok):inI (IK s k):=by unfold IK;split;(exact hk.N);·exact j.aHg
def tPS(s:M.aC)(k:M.Key)(r:M.aD)(j:Nat):Option (M.aC×Bool):=(AX s.aHF (j:Int)).bind λ_=>(app 56 ([]:List M.aHV) (List.take (j:Int).toNat s.aHF)).bind λ_=>(cG r).bind λC=>(app 56 (List.take (j:Int).toNat s.aHF) ([(⟨k,C⟩:M.aHV)])).bind λ_=>(app 56 ((List.take (j:Int).toNat s.aHF)++[(⟨k,C⟩:M.aHV)]) (List.drop (j:Int).toNat s.aHF)).bind λ_=>if(k.aHb==1)=true then(aZ k.N (i64.wrap (s.aHg+1)) 1000000).bind λI=>if I=true then some ((⟨s.Name,((List.take (j:Int).toNat s.aHF)++[(⟨k,C⟩:M.aHV)])++(List.drop (j:Int).toNat s.aHF),k.N⟩:M.aC),true)else some ((⟨s.Name,((List.take (j:Int).toNat s.aHF)++[(⟨k,C⟩:M.aHV)])++(List.drop (j:Int).toNat s.aHF),s.aHg⟩:M.aC),true)else some ((⟨s.Name,((List.take (j:Int).toNat s.aHF)++[(⟨k,C⟩:M.aHV)])++(List.drop (j:Int).toNat s.aHF),s.aHg⟩:M.aC),true)
