/-
  Helper text. No conditions.
-/
import Derived.Test.YtjlnkcoeghonfaaGreatRunningPagesPd1
set_option linter.all false
namespace Go.Proofs.YtjlnkcoeghonfaaGreat.gen
open Go Go.Sh
open Go.IntKind (i64)
theorem MQ{p:M.aLi->M.aLi->Option Bool}{f:M.aLi->M.aLi->Bool}{xs ys:List M.aLi}(C:xs.length<=maxLen)(I:∀x∈xs,∀y∈ys,p x y=some (f x y)):oP xs ys p=some (eqL f xs ys):=by
 have J:=aY C
 unfold oP
 rw[FF (f:=f) C (E:=some true) (λn k hk j=>by
  simp only[gS]
  rw[jE (bE hk),aM hk,aM j,qA,qA,bL wi]
  rw[I _ (qG hk) _ (qG j),qA,eJ]) (λn=>by
  simp only[gS]
  rw[jF wG]),bF,jL]
theorem NP{p:M.aLo->M.aLo->Option Bool}{f:M.aLo->M.aLo->Bool}{xs ys:List M.aLo}(C:xs.length<=maxLen)(I:∀x∈xs,∀y∈ys,p x y=some (f x y)):pM xs ys p=some (eqL f xs ys):=by
 have J:=aY C
 unfold pM
 rw[FF (f:=f) C (E:=some true) (λn k hk j=>by
  simp only[iA]
  rw[jE (bE hk),aM hk,aM j,qA,qA,bL wi]
  rw[I _ (qG hk) _ (qG j),qA,eJ]) (λn=>by
  simp only[iA]
  rw[jF wG]),bF,jL]
theorem Mw{p:M.aE->M.aE->Option Bool}{f:M.aE->M.aE->Bool}{xs ys:List M.aE}(C:xs.length<=maxLen)(I:∀x∈xs,∀y∈ys,p x y=some (f x y)):pE xs ys p=some (eqL f xs ys):=by
 have J:=aY C
 unfold pE
 rw[FF (f:=f) C (E:=some true) (λn k hk j=>by
  simp only[gO]
  rw[jE (bE hk),aM hk,aM j,qA,qA,bL wi]
  rw[I _ (qG hk) _ (qG j),qA,eJ]) (λn=>by
  simp only[gO]
  rw[jF wG]),bF,jL]
theorem Ly{p:M.Bucket->M.Bucket->Option Bool}{f:M.Bucket->M.Bucket->Bool}{xs ys:List M.Bucket}(C:xs.length<=maxLen)(I:∀x∈xs,∀y∈ys,p x y=some (f x y)):nA xs ys p=some (eqL f xs ys):=by
 have J:=aY C
 unfold nA
 rw[FF (f:=f) C (E:=some true) (λn k hk j=>by
  simp only[fM]
  rw[jE (bE hk),aM hk,aM j,qA,qA,bL wi]
  rw[I _ (qG hk) _ (qG j),qA,eJ]) (λn=>by
  simp only[fM]
  rw[jF wG]),bF,jL]
theorem NM{p:M.bO->M.bO->Option Bool}{f:M.bO->M.bO->Bool}{xs ys:List M.bO}(C:xs.length<=maxLen)(I:∀x∈xs,∀y∈ys,p x y=some (f x y)):pL xs ys p=some (eqL f xs ys):=by
 have J:=aY C
 unfold pL
 rw[FF (f:=f) C (E:=some true) (λn k hk j=>by
  simp only[iC]
  rw[jE (bE hk),aM hk,aM j,qA,qA,bL wi]
  rw[I _ (qG hk) _ (qG j),qA,eJ]) (λn=>by
  simp only[iC]
  rw[jF wG]),bF,jL]
theorem NT{p:M.aLa->M.aLa->Option Bool}{f:M.aLa->M.aLa->Bool}{xs ys:List M.aLa}(C:xs.length<=maxLen)(I:∀x∈xs,∀y∈ys,p x y=some (f x y)):pX xs ys p=some (eqL f xs ys):=by
 have J:=aY C
 unfold pX
 rw[FF (f:=f) C (E:=some true) (λn k hk j=>by
  simp only[iB]
  rw[jE (bE hk),aM hk,aM j,qA,qA,bL wi]
  rw[I _ (qG hk) _ (qG j),qA,eJ]) (λn=>by
  simp only[iB]
  rw[jF wG]),bF,jL]
theorem Lu{p:M.aLj->M.aLj->Option Bool}{f:M.aLj->M.aLj->Bool}{xs ys:List M.aLj}(C:xs.length<=maxLen)(I:∀x∈xs,∀y∈ys,p x y=some (f x y)):nB xs ys p=some (eqL f xs ys):=by
 have J:=aY C
 unfold nB
 rw[FF (f:=f) C (E:=some true) (λn k hk j=>by
  simp only[fL]
  rw[jE (bE hk),aM hk,aM j,qA,qA,bL wi]
  rw[I _ (qG hk) _ (qG j),qA,eJ]) (λn=>by
  simp only[fL]
  rw[jF wG]),bF,jL]
theorem E3{a b:List Int}(j:okB a)(hb:okB b):tB a b=some (eqL zX a b):=by unfold tB;rw[D6 j.2,D6 hb.2,qA,qA,TT j.2 hb.2];rfl
theorem yJ{a b:List Int}(j:okB a):iW a b=some (eqL zX a b):=by unfold iW;rw[Tn j.1,qA]
def GM(x y:M.aLb):Bool:=(x.aMM==y.aMM)&&((x.aMD==y.aMD)&&((x.aLT==y.aLT)&&((x.aMP==y.aMP)&&eqL zX x.aMN y.aMN)))
theorem JN{a b:M.aLb}(j:a.ok)(hb:b.ok):uF a b=some (GM a b):=by simp only[uF,E3 j.aMN hb.aMN,qA,bF,Cd,tG,GM]
theorem Jc{a b:M.aLb}(j:a.ok):uR a b=some (GM a b):=by simp only[uR,yJ j.aMN,qA,bF,Cd,tG,GM];ac_rfl
def IW(x y:M.aLr):Bool:=(x.aLa.toList==y.aLa.toList)&&((x.aMF.toList==y.aMF.toList)&&GM x.aLb y.aLb)
def Qq(x y:M.aLi):Bool:=(x.aLT==y.aLT)&&eqL IW x.aLg y.aLg
def Jr(x y:M.aJ):Bool:=eqL Qq x.aLW y.aLW
theorem Mf{a b:M.aLr}(j:a.ok):vF a b=some (IW a b):=by simp only[vF,Jc j.aLb,qA,bF,Cd,tG,IW]
theorem Lv{a b:M.aLi}(j:a.ok):vW a b=some (Qq a b):=by simp only[vW,Lt (f:=IW) j.aLg.1 (λx C y I=>Mf (j.aLg.2 x C)),qA,bF,Cd,tG,Qq]
theorem Ja{a b:M.aJ}(j:a.ok):uD a b=some (Jr a b):=by simp only[uD,MQ (f:=Qq) j.aLW.1 (λx C y I=>Lv (j.aLW.2 x C)),qA,bF,Cd,tG,Jr]
theorem KY{x y:M.aLi}(C:x.ok)(U:y.ok)(E:Int->Option Bool)(I:Option Bool)(J:∀v,E v=I):(if((List.length x.aLg:Int) !=(List.length y.aLg:Int))=true then some false else gT x y E aH 0)=if eqL IW x.aLg y.aLg=true then I else some false:=by have hm:=aY C.aLg.1;refine FF (f:=IW) C.aLg.1 (λn k hk j=> ?_) (λn=> ?_);(simp only[gT];rw[jE (bE hk),aM hk,aM j,qA,qA,bL wi,JN (C.aLg.2 _ (qG hk)).aLb (U.aLg.2 _ (qG j)).aLb,qA];simp only[eJ,Xf];rfl);·simp only[gT];rw[jF wG,J]
theorem Jz{a b:M.aJ}(C:a.ok)(hb:b.ok):uL a b=some (Jr a b):=by have I:=aY C.aLW.1;unfold uL;rw[FF (f:=Qq) C.aLW.1 (E:=some true) (λn k hk j=> ?_) (λn=> ?_),bF,jL];(rfl);(simp only[kR];rw[jE (bE hk),aM hk,aM j,qA,qA,bL wi,KY (C.aLW.2 _ (qG hk)) (hb.aLW.2 _ (qG j)) _ _ (λv=>rfl)];simp only[xY,Xf];rfl);·simp only[kR];rw[jF wG]
def OC(x y:M.aF):Bool:=eqL L3 x.aLY y.aLY
theorem K2{a b:M.aF}(j:a.ok):zE a b=some (OC a b):=by simp only[zE,RO j.aLY.1,qA,OC]
theorem KR{a b:M.aF}(C:a.ok):zJ a b=some (OC a b):=by have I:=aY C.aLY.1;unfold zJ;rw[FF (f:=L3) C.aLY.1 (E:=some true) (λn k hk j=> ?_) (λn=> ?_),bF,jL];(rfl);(simp only[mS];rw[jE (bE hk),aM hk,aM j,qA,qA,bL wi,eJ];rfl);·simp only[mS];rw[jF wG]
def aEe(x y:M.bD):Bool:=(x.aLn==y.aLn)&&((x.N==y.N)&&(x.aLu.toList==y.aLu.toList))
def UB(x y:M.aLo):Bool:=aEe x.Key y.Key&&OC x.aF y.aF
def Ix(x y:M.aE):Bool:=(x.Name.toList==y.Name.toList)&&((x.aLx==y.aLx)&&eqL UB x.aLV y.aLV)
theorem MX{a b:M.aLo}(j:a.ok):yO a b=some (UB a b):=by simp only[yO,K2 j.aF,qA,bF,Cd,tG,UB,aEe]
theorem EE{a b:M.aE}(j:a.ok):kJ a b=some (Ix a b):=by simp only[kJ,NP (f:=UB) j.aLV.1 (λx C y I=>MX (j.aLV.2 x C)),qA,bF,Cd,tG,Ix]
theorem Hi{a b:M.aE}(j:a.ok):vO a b=some (Ix a b):=by have I:=aY j.aLV.1;unfold vO;rw[FF (f:=UB) j.aLV.1 (E:=some true) (λn k hk C=> ?_) (λn=> ?_),bF,jL,tG,Cd];(rfl);(simp only[oM];rw[jE (bE hk),aM hk,aM C,qA,qA,bL wi,KR (j.aLV.2 _ (qG hk)).aF,qA];simp only[eJ,Xf];rfl);·simp only[oM];rw[jF wG]
def GB(x y:M.aLS):Bool:=(x.Name.toList==y.Name.toList)&&((x.aLT==y.aLT)&&(eqL Ix x.aLc y.aLc&&eqL B7 x.aLm y.aLm))
theorem JL{a b:M.aLS}(j:a.ok):uO a b=some (GB a b):=by simp only[uO,Mw (f:=Ix) j.aLc.1 (λx C y I=>EE (j.aLc.2 x C)),NF j.aLm.1,qA,bF,Cd,tG,GB]
theorem Jf{a b:M.aLS}(C:a.ok):uU a b=some (GB a b):=by
 have U:=aY C.aLc.1
 have J:=aY C.aLm.1
 have h2:(if((List.length a.aLm:Int) !=(List.length b.aLm:Int))=true then some false else eN a b aH 0)=if eqL B7 a.aLm b.aLm=true then some true else some false:=by refine FF (f:=B7) C.aLm.1 (λn k hk j=> ?_) (λn=> ?_);(simp only[eN];rw[jE (bE hk),aM hk,aM j,qA,qA,bL wi,eJ];rfl);·simp only[eN];rw[jF wG]
 have h1:∀E,(∀n,eM a b (n+1) (a.aLc.length:Int)=E)->(if((List.length a.aLc:Int) !=(List.length b.aLc:Int))=true then some false else eM a b aH 0)=if eqL Ix a.aLc b.aLc=true then E else some false:=by intro E I;refine FF (f:=Ix) C.aLc.1 (λn k hk j=> ?_) I;simp only[eM];rw[jE (bE hk),aM hk,aM j,qA,qA,bL wi,Hi (C.aLc.2 _ (qG hk)),qA,eJ]
 unfold uU
 by_cases hu:a.aLm.length=b.aLm.length
 ·rw[jF (show ¬((List.length a.aLm:Int) !=(List.length b.aLm:Int))=true by simp[hu])]at h2⊢;rw[h1 (eN a b aH 0) (λn=>by simp only[eM];rw[jF wG]),h2,bF,bF,jL,tG,Cd];rfl
 ·rw[jE (show((List.length a.aLm:Int) !=(List.length b.aLm:Int))=true by simp;omega)]
  have:eqL B7 a.aLm b.aLm=false:=by
   cases h:eqL B7 a.aLm b.aLm with
   |false=>rfl
   |true=>exact absurd (TW h) hu
  simp[GB,this]
def Uh(x y:M.bP):Bool:=GB x.aLq y.aLq&&(eqL zX x.Log y.Log&&(x.aL5==y.aL5))
theorem MI{a b:M.bP}(j:a.ok):Bz a b=some (Uh a b):=by simp only[Bz,JL j.aLq,yJ j.Log,qA,bF,Cd,tG,Uh]
theorem MM{a b:M.bP}(j:a.ok)(hb:b.ok):Bu a b=some (Uh a b):=by simp only[Bu,Jf j.aLq,E3 j.Log hb.Log,qA,bF,Cd,tG,Uh]
def MU(x y:M.aN):Bool:=(x.aLZ==y.aLZ)&&((x.aL2==y.aL2)&&eqL Gj x.aLl y.aLl)
theorem J7{a b:M.aN}(j:a.ok):xU a b=some (MU a b):=by simp only[xU,Lo j.aLl.1,qA,bF,Cd,tG,MU]
theorem Kd{a b:M.aN}(C:a.ok):xQ a b=some (MU a b):=by have I:=aY C.aLl.1;unfold xQ;rw[FF (f:=Gj) C.aLl.1 (E:=some true) (λn k hk j=> ?_) (λn=> ?_),bF,jL,tG,tG];(rfl);(simp only[lR];rw[jE (bE hk),aM hk,aM j,qA,qA,bL wi,eJ];rfl);·simp only[lR];rw[jF wG]
def WG(x y:M.aLs):Bool:=MU x.aN y.aN&&((x.aL7==y.aL7)&&(x.aLw==y.aLw))
theorem MF{a b:M.aLs}(j:a.ok):BQ a b=some (WG a b):=by simp only[BQ,J7 j.aN,qA,bF,Cd,tG,WG]
theorem MN{a b:M.aLs}(j:a.ok):Bo a b=some (WG a b):=by simp only[Bo,Kd j.aN,qA,bF,Cd,tG,WG]
def Ic(x y:M.aG):Bool:=Ix x.aLq y.aLq&&((x.aMG==y.aMG)&&WG x.aLs y.aLs)
theorem J8{a b:M.aG}(j:a.ok):xN a b=some (Ic a b):=by simp only[xN,EE j.aLq,MF j.aLs,qA,bF,Cd,tG,Ic]
theorem Ke{a b:M.aG}(j:a.ok):xM a b=some (Ic a b):=by simp only[xM,Hi j.aLq,MN j.aLs,qA,bF,Cd,tG,Ic]
def aEb(x y:M.aLU):Bool:=(x.aLa.toList==y.aLa.toList)&&((x.aL0==y.aL0)&&((x.aL6==y.aL6)&&(x.aMA==y.aMA)))
def JH(x y:M.Bucket):Bool:=(x.aLa.toList==y.aLa.toList)&&((x.Top.toList==y.Top.toList)&&(aEb x.aLU y.aLU&&(Jr x.aLW y.aLW&&(Uh x.bP y.bP&&(Ic x.aG y.aG&&((x.aL1==y.aL1)&&(x.aLy==y.aLy)))))))
theorem KP{a b:M.Bucket}(j:a.ok):tD a b=some (JH a b):=by simp only[tD,Ja j.aLW,MI j.bP,J8 j.aG,qA,bF,Cd,tG,JH,aEb]
theorem KQ{a b:M.Bucket}(j:a.ok)(hb:b.ok):nZ a b=some (JH a b):=by simp only[nZ,Jz j.aLW hb.aLW,MM j.bP hb.bP,Ke j.aG,qA,bF,Cd,tG,JH,aEb]
def Ob(x y:M.aC):Bool:=eqL JH x.Buckets y.Buckets
theorem Kc{a b:M.aC}(j:a.ok):xR a b=some (Ob a b):=by simp only[xR,Ly (f:=JH) j.Buckets.1 (λx C y I=>KP (j.Buckets.2 x C)),qA,bF,Cd,tG,Ob]
def N7(x y:M.aLX):Bool:=eqL Mh x.aLz y.aLz&&((x.Pc==y.Pc)&&(eqL Sf x.aMC y.aMC&&((x.aME==y.aME)&&((x.aMJ==y.aMJ)&&(x.aMI==y.aMI)))))
theorem J6{a b:M.aLX}(j:a.ok):xL a b=some (N7 a b):=by simp only[xL,R7 j.aLz.1,T7 j.aMC.1,qA,bF,Cd,tG,N7]
def TU(x y:M.bO):Bool:=(x.Id==y.Id)&&((x.aLa.toList==y.aLa.toList)&&((x.Top.toList==y.Top.toList)&&((x.aLT==y.aLT)&&(eqL I4 x.aW y.aW&&N7 x.aLX y.aLX))))
theorem NG{a b:M.bO}(j:a.ok):iQ a b=some (TU a b):=by simp only[iQ,PN j.aW.1,J6 j.aLX,qA,bF,Cd,tG,TU]
def K0(x y:M.aLj):Bool:=Ix x.aE y.aE&&(eqL HH x.aQ y.aQ&&eqL Gj x.aLv y.aLv)
theorem KG{a b:M.aLj}(j:a.ok):tQ a b=some (K0 a b):=by simp only[tQ,EE j.aE,O2 j.aQ.1,Lo j.aLv.1,qA,bF,Cd,tG,K0]
def UI(x y:M.aLa):Bool:=(x.Name.toList==y.Name.toList)&&((x.aLT==y.aLT)&&(eqL JD x.aL4 y.aL4&&(x.aL9==y.aL9)))
theorem M1{a b:M.aLa}(j:a.ok):sV a b=some (UI a b):=by simp only[sV,P4 j.aL4.1,qA,bF,Cd,tG,UI]
def VU(x y:M.aD):Bool:=(x.Now==y.Now)&&((x.aLt==y.aLt)&&((x.aLZ==y.aLZ)&&(Ob x.aC y.aC&&(eqL TU x.aLf y.aLf&&((x.aLd==y.aLd)&&(eqL PB x.aLk.aLk y.aLk.aLk&&(eqL OS x.aLe.aL8 y.aLe.aL8&&(eqL UI x.aLp y.aLp&&eqL K0 x.aLh y.aLh))))))))
theorem ET{a b:M.aD}(j:a.ok):rD a b=some (VU a b):=by simp only[rD,Kc j.aC,NM (f:=TU) j.aLf.1 (λx C y I=>NG (j.aLf.2 x C)),SK j.aLk.aLk.1,Sy j.aLe.aL8.1,NT (f:=UI) j.aLp.1 (λx C y I=>M1 (j.aLp.2 x C)),Lu (f:=K0) j.aLh.1 (λx C y I=>KG (j.aLh.2 x C)),qA,bF,Cd,tG,VU]
theorem Ha{l:List Int}(j:l.length<=1500000):vX l=some ([(List.length l:Int)]++l.map i64.wrap):=by unfold vX;have:=Uu (b:=8) (xs:=l) (f:=i64.wrap) (L:=kW l) (λn k hk r=> ?_) (λn r=> ?_) aH 0 ([(List.length l:Int)]) wH wi wX;(simpa using this);(simp only[kW];rw[jE (bE hk),aM hk,qA,bL wi]);·simp only[kW];rw[jF wG]
theorem Hf{l:List Int}(j:l.length<=1500000):vQ l=some ([(List.length l:Int)]++l.map i64.wrap):=by unfold vQ;have:=Uu (b:=8) (xs:=l) (f:=i64.wrap) (L:=lE l) (λn k hk r=> ?_) (λn r=> ?_) aH 0 ([(List.length l:Int)]) wH wi wX;(simpa using this);(simp only[lE];rw[jE (bE hk),aM hk,qA,bL wi]);·simp only[lE];rw[jF wG]
theorem Wl(x:Int):Hy x 2147483647=some (TO x):=by
 have e:bG 2147483647 1 1000000000000=some true:=by decide
 unfold Hy
 rw[e,qA,jF we,jF we,ZT]
theorem WM(x:Int):HV x 2147483647=some (TO x):=by
 have e:bB 2147483647 1 1000000000000=some true:=by decide
 unfold HV
 rw[e,qA,jF we,jF we,aA3]
theorem OX{l:List Int}(j:l.length<=maxLen):E8 l=some (Kb l):=by have C:=aY j;unfold E8 Kb;refine Ku (L:=Bc l) (E:=some) j (λn v k hk=> ?_) (λn v=> ?_) 11;(simp only[Bc];rw[jE (bE hk),aM hk,qA,Wl,qA,bL wi];rfl);·simp only[Bc];rw[jF wG]
theorem Ip{k:Int}{l:List Int}(j:l.length<=2000000):Ap k l=some (Kb (([k]++l)++[k])):=by unfold Ap;rw[dN wX,qA,dN wX,qA,OX wF,qA]
theorem OI{l:List Int}(j:l.length<=maxLen):Fh l=some (Kb l):=by have C:=aY j;unfold Fh Kb;refine Ku (L:=Bg l) (E:=some) j (λn v k hk=> ?_) (λn v=> ?_) 11;(simp only[Bg];rw[jE (bE hk),aM hk,qA,WM,qA,bL wi];rfl);·simp only[Bg];rw[jF wG]
theorem IG{k:Int}{l:List Int}(j:l.length<=2000000):Ar k l=some (Kb (([k]++l)++[k])):=by unfold Ar;rw[dN wX,qA,dN wX,qA,OI wF,qA]
def Jk(k:Int)(s:ByteArray):Int:=if Kb (([k]++([(List.length (bJ s):Int)]++(bJ s).map i64.wrap))++[k])=0 then 1 else Kb (([k]++([(List.length (bJ s):Int)]++(bJ s).map i64.wrap))++[k])
theorem Li{k:Int}{s:ByteArray}(C:s.size<=1500000):lT k s=some (Jk k s):=by have j:=aP s;unfold lT AA Jk;rw[Ha wi,qA,Ip wX,qA];have:=Uf (([k]++([(List.length (bJ s):Int)]++(bJ s).map i64.wrap))++[k]);generalize Kb (([k]++([(List.length (bJ s):Int)]++(bJ s).map i64.wrap))++[k])=h at*;by_cases h0:h=0;(rw[jF wX,jE h0];rfl);·rw[jF h0];by_cases h1:h=1;(rw[jF wX,h1];rfl);·rw[jE wX];rfl
theorem LV{k:Int}{s:ByteArray}(C:s.size<=1500000):mD k s=some (Jk k s):=by have j:=aP s;unfold mD Jk;rw[Hf wi,qA,IG wX,qA];generalize Kb (([k]++([(List.length (bJ s):Int)]++(bJ s).map i64.wrap))++[k])=h;by_cases h0:h=0;(rw[jE (by simp[h0]),jE h0]);·rw[jF (by simp[h0]),jF h0]
theorem S2{x:Int}(j:0<=x)(h1:x<2147483647):∀(n:Nat) (v:Int) (r:List Int),Al x n v r=gK x n v r
 |0,_,_=>rfl
 |n+1,v,r=>by simp only[Al,gK,aCb j h1,S2 j h1 n]
theorem aC6(x:Int):∃l,gK x aH 5 ([]:List Int)=some l/\okB l:=by
 have st:∀n (v:Nat) r,r.length<=7->(∀y∈r,0<=y/\y<=255)->v<=5->∃y:Int,(0<=y/\y<=255)/\gK x (n+1) (v:Int) r=gK x n ((v:Int)-1) (r++[y]):=by intro n v r hr hy hv;refine⟨IntKind.u8.wrap (Int.fdiv x (2^(min (i64.wrap (8*(v:Int))).toNat IntKind.i64.bits))),by rw[wrap_u8];omega,?_⟩;simp only[gK];rw[jE we,jE jm,dN wX,qA,bQ (n:=(v:Int)-1) wi wi]
 have e7:∀n r,gK x (n+1) (-1) r=some r:=by intro n r;simp only[gK];rw[jF wh]
 rw[Yt]
 obtain⟨x1,j,e1⟩:=st (18446744073709551609+6) 5 [] we we we
 obtain⟨x2,C,e2⟩:=st (18446744073709551609+5) 4 ([]++[x1]) we (by simpa using j) we
 obtain⟨x3,I,e3⟩:=st (18446744073709551609+4) 3 ([]++[x1]++[x2]) we (by simpa using⟨j,C⟩) we
 obtain⟨x4,J,e4⟩:=st (18446744073709551609+3) 2 ([]++[x1]++[x2]++[x3]) we (by simpa using⟨j,C,I⟩) we
 obtain⟨x5,U,e5⟩:=st (18446744073709551609+2) 1 ([]++[x1]++[x2]++[x3]++[x4]) we (by simpa using⟨j,C,I,J⟩) we
 obtain⟨x6,b6,e6⟩:=st (18446744073709551609+1) 0 ([]++[x1]++[x2]++[x3]++[x4]++[x5]) we (by simpa using⟨j,C,I,J,U⟩) we
 exact⟨_,e1.trans (e2.trans (e3.trans (e4.trans (e5.trans (e6.trans (e7 _ _)))))),wQ,by simpa using⟨j,C,I,J,U,b6⟩⟩
theorem aAE{t:M.aLa}{f:ByteArray}{v:Int}(h1:t.Name.size<=1500000)(h2:f.size<=1500000):∃l,Ez t f v=some l/\EJ t f v=some l/\okB l:=by unfold Ez EJ;rw[Li h1,LV h1,qA,qA,Li h2,LV h2,qA,qA,Ip we,IG we,qA,qA];have hb:=Uf (([i64.wrap (1+v)]++[103,Jk 107 t.Name,Jk 109 f])++[i64.wrap (1+v)]);rw[S2 hb.1 hb.2];obtain⟨l,e,j⟩:=aC6 (Kb (([i64.wrap (1+v)]++[103,Jk 107 t.Name,Jk 109 f])++[i64.wrap (1+v)]));exact⟨l,e,e,j⟩
theorem KV{α R:Type}{l:List α}{f:α->Bool}{L:Nat->Int->Option R}{S:Nat->Option R}(j:l.length<=maxLen)
  (h1:∀n (k:Nat) (hk:k<l.length),L (n+1) (k:Int)=if f l[k]=true then L n ((k+1:Nat):Int)else S k)(h2:∀n,L (n+1) (l.length:Int)=S l.length):L aH 0=S (l.takeWhile f).length:=by
 have I:=aY j
 have key:∀(n k:Nat),l.length-k<n->k<=l.length->L n (k:Int)=S (k+((l.drop k).takeWhile f).length):=by
  intro n
  induction n with
  |zero=>intro k h _;omega
  |succ n C=>
   intro k J hk
   rcases jR k l.length with h|h
   ·rw[h1 n k h,qX h,List.takeWhile_cons];by_cases hf:f l[k]=true;(rw[jE hf,jE hf,C (k+1) wi h,qJ];congr 1;omega);·rw[jF hf,jF hf];simp
   ·have:k=l.length:=by omega
    subst this
    rw[h2 n]
    simp
 have:=key aH 0 wH wi
 simpa using this
def Xe(s:M.aC)(b:M.Bucket):Nat:=(s.Buckets.takeWhile (λx=>Hp x b)).length
theorem RM(s:M.aC)(b:M.Bucket):Xe s b<=s.Buckets.length:=(List.takeWhile_prefix _).length_le
def Ek(s:M.aC)(b:M.Bucket):List M.Bucket:=if kP (nAt b.aLa b.Top) s.Buckets>=0 then s.Buckets.set (kP (nAt b.aLa b.Top) s.Buckets).toNat b else s.Buckets.take (Xe s b)++([b]++s.Buckets.drop (Xe s b))
def Lh(s:M.aC)(l:List M.Bucket):M.aC×Bool:=if sH s=true then if sH (⟨l⟩:M.aC)=true then((⟨l⟩:M.aC),true)else(s,false)else(s,false)
def IU(s:M.aC)(b:M.Bucket):M.aC×Bool:=Lh s (Ek s b)
theorem Mc{s:M.aC}{b x:M.Bucket}(h:x∈Ek s b):x=b\/x∈s.Buckets:=by unfold Ek at h;split at h;(rcases jD h with h|h;(exact .inr h);·exact .inl h);·simp only[qP,qq,qO,or_false]at h;rcases h with h|h|h;(exact .inr (qk h));(exact .inl h);·exact .inr (qv h)
theorem Le(s:M.aC)(b:M.Bucket):(Ek s b).length<=s.Buckets.length+1:=by have:=RM s b;unfold Ek;split;(simp);·simp only[qE,qV,qJ,qK,qW];omega
theorem JQ{α:Type}{f:α->Nat}{x:α}:∀{l:List α} {i:Nat},dV f (l.set i x)<=dV f l+f x
 |[],_=>by simp[dV]
 |y::l,0=>by simp only[List.set_cons_zero,dV];omega
 |y::l,i+1=>by have:=JQ (f:=f) (x:=x) (l:=l) (i:=i);simp only[List.set_cons_succ,dV];omega
theorem yY{α:Type}{f:α->Nat}:∀(l r:List α),dV f (l++r)=dV f l+dV f r
 |[],r=>by simp[dV]
 |y::l,r=>by simp only[jP,dV,yY l r];omega
theorem V0(s:M.aC)(b:M.Bucket):dV M.Bucket.sz (Ek s b)<=dV M.Bucket.sz s.Buckets+M.Bucket.sz b:=by unfold Ek;split;(exact JQ);·rw[yY,yY];have:=yY (f:=M.Bucket.sz) (s.Buckets.take (Xe s b)) (s.Buckets.drop (Xe s b));rw[qo]at this;simp only[dV];omega
theorem XM{s:M.aC}(C:M.aC.sz s<=1500000):∀x∈s.Buckets,M.Bucket.sz x<=1500000:=λx j=>by have:=eA (f:=M.Bucket.sz) j;simp only[M.aC.sz]at C;omega
theorem Q0{s:M.aC}{b:M.Bucket}(j:s.ok)(hb:b.ok)(I:M.aC.sz s<=1500000):M.aC.ok (⟨Ek s b⟩:M.aC):=
 ⟨⟨by show(Ek s b).length<=maxLen;have:=Le s b;simp only[M.aC.sz]at I;unfold maxLen;omega,λx C=>by rcases Mc C with rfl|h;(exact hb);·exact j.Buckets.2 x h⟩⟩
theorem Px{s:M.aC}{b:M.Bucket}(C:M.aC.sz s<=1500000)(I:M.aLS.sz b.bP.aLq<=1500000):∀x∈Ek s b,M.aLS.sz x.bP.aLq<=1500000:=λx j=>by rcases Mc j with rfl|h;(exact I);·exact BG (XM C x h)
theorem TS{s:M.aC}{b:M.Bucket}(j:s.ok)(hb:b.ok)(C:M.aC.sz s<=1500000):M.aC.ok (IU s b).1:=by unfold IU Lh;split;(split;(exact Q0 j hb C);·exact j);·exact j
theorem aCO(s:M.aC)(b:M.Bucket):M.aC.sz (IU s b).1<=M.aC.sz s+M.Bucket.sz b+1:=by have h1:=Le s b;have h2:=V0 s b;unfold IU Lh;simp only[M.aC.sz];split;(split<;>simp only<;>omega);·simp only;omega
theorem U5{s:M.aC}{l:List M.Bucket}(hs:s.ok)(hz:M.aC.sz s<=1500000)(U:M.aC.ok (⟨l⟩:M.aC))(zl:∀x∈l,M.aLS.sz x.bP.aLq<=1500000):
  ((dD s).bind λC=>if(!C)=true then(some s).bind λI=>some (I,false)else(dD (⟨l⟩:M.aC)).bind λJ=>if(!J)=true then(some s).bind λj=>some (j,false)else some ((⟨l⟩:M.aC),true))=some (Lh s l):=by
 rw[N0 hs hz,qA,E2 U zl]
 unfold Lh
 cases sH s
 ·simp
 ·cases sH (⟨l⟩:M.aC)<;>simp
theorem VR{s:M.aC}{l:List M.Bucket}(hs:s.ok)(hz:M.aC.sz s<=1500000)(U:M.aC.ok (⟨l⟩:M.aC))(zl:∀x∈l,M.aLS.sz x.bP.aLq<=1500000):
  ((dE s).bind λC=>if(!C)=true then(some s).bind λI=>some (I,false)else(dE (⟨l⟩:M.aC)).bind λJ=>if(!J)=true then(some s).bind λj=>some (j,false)else some ((⟨l⟩:M.aC),true))=some (Lh s l):=by
 rw[NJ hs hz,qA,Ff U zl]
 unfold Lh
 cases sH s
 ·simp
 ·cases sH (⟨l⟩:M.aC)<;>simp
def tS(s:M.aC)(b:M.Bucket)(k:Nat):Option (M.aC×Bool):=(CK s.Buckets (k:Int)).bind λ_=>(app 328 ([]:List M.Bucket) (List.take (k:Int).toNat s.Buckets)).bind λ_=>(gU b).bind λj=>(app 328 (List.take (k:Int).toNat s.Buckets) ([j])).bind λ_=>(app 328 ((List.take (k:Int).toNat s.Buckets)++[j]) (List.drop (k:Int).toNat s.Buckets)).bind λ_=>(dD s).bind λI=>if(!I)=true then(gV s).bind λJ=>some (J,false)else(dD (⟨((List.take (k:Int).toNat s.Buckets)++[j])++(List.drop (k:Int).toNat s.Buckets)⟩:M.aC)).bind λU=>if(!U)=true then(gV s).bind λC=>some (C,false)else some ((⟨((List.take (k:Int).toNat s.Buckets)++[j])++(List.drop (k:Int).toNat s.Buckets)⟩:M.aC),true)
def tI(s:M.aC)(b:M.Bucket)(k:Nat):Option (M.aC×Bool):=(eZ b).bind λj=>(L5 328 s.Buckets (k:Int) ([j])).bind λaj=>(dE s).bind λC=>if(!C)=true then(cX s).bind λI=>some (I,false)else(dE (⟨List.take (k:Int).toNat s.Buckets++([j]++List.drop (k:Int).toNat s.Buckets)⟩:M.aC)).bind λJ=>if(!J)=true then(cX s).bind λU=>some (U,false)else some ((⟨List.take (k:Int).toNat s.Buckets++([j]++List.drop (k:Int).toNat s.Buckets)⟩:M.aC),true)
theorem E7{s:M.aC}{b:M.Bucket}(C:s.ok)(hb:b.ok)(I:M.aC.sz s<=1500000)(zc:M.Bucket.sz b<=1073741824)(zb:M.aLS.sz b.bP.aLq<=1500000):iN s b=some (IU s b):=by
 have hm:=aY C.Buckets.1
 have hlen:s.Buckets.length<=1500000:=by simp only[M.aC.sz]at I;omega
 have ok:=Q0 C hb I
 have all:=Px (s:=s) I zb
 have hle:=RM s b
 unfold iN IU
 rw[Ht s wi,qA,oH C,qA]
 by_cases h:kP (nAt b.aLa b.Top) s.Buckets>=0
 ·obtain⟨j,U,J⟩:=dM (show ¬kP (nAt b.aLa b.Top) s.Buckets<0 by omega)
  have e:Ek s b=s.Buckets.set (kP (nAt b.aLa b.Top) s.Buckets).toNat b:=by unfold Ek;rw[jE h]
  rw[jE wN,Bi b wi,qA]
  rw[e]at ok all⊢
  rw[U]at ok all⊢
  rw[aM J,qA]
  exact U5 C I ok all
 ·have e:Ek s b=s.Buckets.take (Xe s b)++([b]++s.Buckets.drop (Xe s b)):=by unfold Ek;rw[jF h]
  rw[jF wN,KV (l:=s.Buckets) (f:=λx=>Hp x b) (L:=nY s b s) (S:=tS s b) C.Buckets.1 (λn k hk=> ?_) (λn=> ?_)]
  ·show tS s b (Xe s b)=_;unfold tS;rw[FT hle,qA,qH,IP wX wi,qA,Bi b wi,qA,dN jw,qA,dN js,qA,qT,<-e];rw[Ht s wi];exact U5 C I ok all
  ·simp only[nY];rw[jE (bE hk),aM hk,qA,Ks,qA,bL wi];rfl
  ·simp only[nY];rw[jF wG];rfl
theorem NR{s:M.aC}{b:M.Bucket}(j:s.ok)(hb:b.ok)(C:M.aC.sz s<=1500000)(I:M.Bucket.sz b<=1500000):iN s b=some (IU s b):=E7 j hb C wi (BG I)
theorem HR{s:M.aC}{b:M.Bucket}(C:s.ok)(hb:b.ok)(I:M.aC.sz s<=1500000)(zc:M.Bucket.sz b<=1073741824)(zb:M.aLS.sz b.bP.aLq<=1500000):Ag s b=some (IU s b):=by
 have hm:=aY C.Buckets.1
 have hlen:s.Buckets.length<=1500000:=by simp only[M.aC.sz]at I;omega
 have ok:=Q0 C hb I
 have all:=Px (s:=s) I zb
 have hle:=RM s b
 unfold Ag IU
 rw[EO s wi,qA,yT C,qA]
 by_cases h:kP (nAt b.aLa b.Top) s.Buckets>=0
 ·obtain⟨j,U,J⟩:=dM (show ¬kP (nAt b.aLa b.Top) s.Buckets<0 by omega)
  have e:Ek s b=s.Buckets.set (kP (nAt b.aLa b.Top) s.Buckets).toNat b:=by unfold Ek;rw[jE h]
  rw[jE wN,BX b wi,qA]
  rw[e]at ok all⊢
  rw[U]at ok all⊢
  rw[aM J,qA]
  exact VR C I ok all
 ·have e:Ek s b=s.Buckets.take (Xe s b)++([b]++s.Buckets.drop (Xe s b)):=by unfold Ek;rw[jF h]
  rw[jF wN,KV (l:=s.Buckets) (f:=λx=>Hp x b) (L:=nV s b s) (S:=tI s b) C.Buckets.1 (λn k hk=> ?_) (λn=> ?_)]
  ·show tI s b (Xe s b)=_;unfold tI;rw[BX b wi,qA,N6 (by simp only[qH,qJ,qK];omega),qA,qH,<-e];rw[EO s wi];exact VR C I ok all
  ·simp only[nV];rw[jE (bE hk),aM hk,qA,GG,qA,bL wi];rfl
  ·simp only[nV];rw[jF wG];rfl
theorem Oi{α:Type}{l:List α}{k:Nat}(h:k<=l.length):Cn l (k:Int)=some (l.drop k):=by unfold Cn;rw[jE ⟨wi,wN⟩];simp
theorem QN:∀{a b c:List UInt8},Op.bytesLess a b=true->Op.bytesLess b c=true->Op.bytesLess a c=true
 |[],[],_,h,_=>by cases h
 |_::_,[],_,h,_=>by cases h
 |_,_::_,[],_,h=>by cases h
 |[],_::_,_::_,_,_=>rfl
 |x::a,y::b,z::c,h1,h2=>by
  have e1:Op.bytesLess (x::a) (y::b)=(decide (x<y)||((x==y)&&Op.bytesLess a b)):=rfl
  have e2:Op.bytesLess (y::b) (z::c)=(decide (y<z)||((y==z)&&Op.bytesLess b c)):=rfl
  have e3:Op.bytesLess (x::a) (z::c)=(decide (x<z)||((x==z)&&Op.bytesLess a c)):=rfl
  rw[e1,jX,qM,qL,jd]at h1
  rw[e2,jX,qM,qL,jd]at h2
  rw[e3,jX,qM,qL,jd]
  rcases h1 with h1|⟨h1,h1'⟩<;>rcases h2 with h2|⟨h2,j⟩
  ·exact .inl wi
  ·exact .inl (by rw[<-eq_of_beq h2];exact h1)
  ·exact .inl (by rw[eq_of_beq h1];exact h2)
  ·exact .inr ⟨by rw[eq_of_beq h1];exact h2,QN h1' j⟩
theorem LA{α:Type}{f:α->Bool}:∀{l:List α} {k:Nat},(∀(j:Nat) (C:j<l.length),j<k->f l[j]=true)->(∀(hk:k<l.length),f l[k]=false)->k<=l.length->(l.takeWhile f).length=k
 |[],k,_,_,h=>by simp at h;simp[h]
 |x::l,0,_,h,_=>by have:=h we;simp only[List.getElem_cons_zero]at this;rw[List.takeWhile_cons,jF (by rw[this];simp)];rfl
 |x::l,k+1,h1,h2,h3=>by have:=h1 0 we wi;simp only[List.getElem_cons_zero]at this;rw[List.takeWhile_cons,jE this,qJ,LA (k:=k) (λj C I=> ?_) (λhk=> ?_) (by simpa using h3)];(have:=h1 (j+1) wX wi;simpa using this);·have:=h2 wX;simpa using this
theorem Nd{α:Type}{f:α->Bool}:∀{l:List α} (j:Nat) (C:j<l.length),j<(l.takeWhile f).length->f l[j]=true
 |[],j,C,_=>by simp at C
 |x::l,j,C,h=>by
  rw[List.takeWhile_cons]at h
  split at h
  ·rename_i I
   cases j with
   |zero=>exact I
   |succ j=>exact Nd j (by simpa using C) wN
  ·simp at h
theorem Nr{α:Type}{f:α->Bool}:∀{l:List α} (hk:(l.takeWhile f).length<l.length),f (l[(l.takeWhile f).length])=false
 |[],hk=>by simp at hk
 |x::l,hk=>by
  cases hx:f x with
  |false=>simp[List.takeWhile_cons,hx]
  |true=>
   have j:(l.takeWhile f).length<l.length:=by rw[List.takeWhile_cons,jE hx]at hk;simpa using hk
   have:=Nr j
   simpa[List.takeWhile_cons,hx]using this
theorem CC{α:Type}{f:α->Bool}{l:List α}{k:Nat}(h:kP f l=(k:Int)):∃hk:k<l.length,f l[k]=true:=by
 unfold kP at h
 cases e:l.findIdx? f with
 |none=>rw[e]at h;simp only at h;omega
 |some i=>
  rw[e]at h
  simp only at h
  have:i=k:=by omega
  subst this
  obtain⟨h1,h2,_⟩:=List.findIdx?_eq_some_iff_getElem.1 e
  exact⟨h1,h2⟩
theorem MD{α:Type}{f:α->Bool}{l:List α}(h:kP f l<0):∀x∈l,f x=false:=by
 have h2:=LH f l
 rw[decide_eq_false wi]at h2
 intro x j
 cases hf:f x with
 |false=>rfl
 |true=>
  have:l.any f=true:=List.any_eq_true.2 ⟨x,j,hf⟩
  rw[<-h2]at this
  cases this
theorem Ys{r:M.aF}(h:cT r=true)(k:Nat)(hk:k+1<r.aLY.length):Op.bytesLess r.aLY[k].Name.toList r.aLY[k+1].Name.toList=true:=by unfold cT at h;rw[qM,qR]at h;have:=h.1 (k+1) (qS.2 hk);unfold H0 at this;rw[qF hk,Nat.add_sub_cancel,qF (show k<r.aLY.length by omega)]at this;simp only[qf,qM]at this;simpa using this.2
theorem aBj{r:M.aF}(h:cT r=true):∀(d i:Nat) (j:i+d+1<r.aLY.length),Op.bytesLess r.aLY[i].Name.toList r.aLY[i+d+1].Name.toList=true
 |0,i,j=>Ys h i j
 |d+1,i,j=>QN (aBj h d i wi) (Ys h (i+d+1) j)
def Ta(a:ByteArray)(x:M.aR):Bool:=Op.bytesLess x.Name.toList a.toList
def RG(l:List M.aR)(a:ByteArray):Nat:=(l.takeWhile (Ta a)).length
theorem Vw(l:List M.aR)(a:ByteArray):RG l a<=l.length:=(List.takeWhile_prefix _).length_le
theorem TR{r:M.aF}{a:ByteArray}(h:cT r=true){k:Nat}(hk:k<r.aLY.length)(C:sI a r.aLY[k]=true):RG r.aLY a=k:=by
 have e:r.aLY[k].Name.toList=a.toList:=eq_of_beq C
 refine LA (λj J I=> ?_) (λ_=> ?_) wi
 ·unfold Ta
  rw[<-e]
  have:=aBj h (k-j-1) j wi
  have e2:j+(k-j-1)+1=k:=by omega
  simp only[e2]at this
  exact this
 ·unfold Ta;rw[e];exact O1 _
def Uw(r:M.aF)(a:ByteArray)(n:Int):List M.aR:=if kP (sI a) r.aLY<0 then r.aLY.take (RG r.aLY a)++([(⟨a,n⟩:M.aR)]++r.aLY.drop (RG r.aLY a))
 else match r.aLY[(kP (sI a) r.aLY).toNat]? with|some x=>r.aLY.set (kP (sI a) r.aLY).toNat (⟨x.Name,n⟩:M.aR)|none=>r.aLY
def OA(r:M.aF)(l:List M.aR):M.aF×Bool:=if cT r=true then if cT (⟨l⟩:M.aF)=true then((⟨l⟩:M.aF),true)else(r,false)else(r,false)
def JO(r:M.aF)(a:ByteArray)(n:Int):M.aF×Bool:=OA r (Uw r a n)
theorem J3{r:M.aF}(h:cT r=false)(l:List M.aR):OA r l=(r,false):=by unfold OA;rw[h,jF we]
theorem Yr{r:M.aF}{a:ByteArray}{n:Int}(k:Nat)(C:r.ok)(hl:r.aLY.length<=1073741824)(I:a.size<=maxLen)(J:inI n):M.aF.ok (⟨r.aLY.take k++([(⟨a,n⟩:M.aR)]++r.aLY.drop k)⟩:M.aF):=
 ⟨⟨by show(r.aLY.take k++([(⟨a,n⟩:M.aR)]++r.aLY.drop k)).length<=maxLen;unfold maxLen;simp only[qE,qV,qW,qJ,qK];omega,λy U=>by have j:y∈r.aLY.take k++([(⟨a,n⟩:M.aR)]++r.aLY.drop k):=U;simp only[qP,qq,qO,or_false]at j;rcases j with h|rfl|h;(exact C.aLY.2 y (qk h));(exact⟨I,J⟩);·exact C.aLY.2 y (qv h)⟩⟩
theorem Uj{r:M.aF}{n:Int}{k:Nat}(hk:k<r.aLY.length)(j:r.ok)(I:inI n):M.aF.ok (⟨r.aLY.set k (⟨r.aLY[k].Name,n⟩:M.aR)⟩:M.aF):=
 ⟨⟨by show(r.aLY.set k _).length<=maxLen;rw[qN];exact j.aLY.1,λy J=>by have C:y∈r.aLY.set k (⟨r.aLY[k].Name,n⟩:M.aR):=J;rcases jD C with h|rfl;(exact j.aLY.2 y h);·exact⟨(j.aLY.2 _ (qG hk)).Name,I⟩⟩⟩
theorem Qc{r:M.aF}{l:List M.aR}(C:r.ok)(I:M.aF.sz r<=1073741824)(j:M.aF.ok (⟨l⟩:M.aF)):
  ((cA r).bind λx=>if(!x)=true then(cO r).bind λy=>some (y,false)else(cA (⟨l⟩:M.aF)).bind λz=>if(!z)=true then(cO r).bind λy=>some (y,false)else some ((⟨l⟩:M.aF),true))=some (OA r l):=by
 rw[uW C,qA,Dm r I,uW j]
 unfold OA
 cases cT r
 ·simp
 ·cases cT (⟨l⟩:M.aF)<;>simp
theorem Qi{r:M.aF}{l:List M.aR}(C:r.ok)(I:M.aF.sz r<=1073741824)(j:M.aF.ok (⟨l⟩:M.aF)):
  ((cW r).bind λx=>if(!x)=true then(bX r).bind λy=>some (y,false)else(cW (⟨l⟩:M.aF)).bind λz=>if(!z)=true then(bX r).bind λy=>some (y,false)else some ((⟨l⟩:M.aF),true))=some (OA r l):=by
 rw[Br C,qA,yS r I,Br j]
 unfold OA
 cases cT r
 ·simp
 ·cases cT (⟨l⟩:M.aF)<;>simp
def tFI(r:M.aF)(a:ByteArray)(n:Int)(k:Nat):Option (M.aF×Bool):=(L5 24 r.aLY (k:Int) ([(⟨a,n⟩:M.aR)])).bind λ_=>(cW r).bind λj=>if(!j)=true then(bX r).bind λC=>some (C,false)else(cW (⟨List.take (k:Int).toNat r.aLY++([(⟨a,n⟩:M.aR)]++List.drop (k:Int).toNat r.aLY)⟩:M.aF)).bind λI=>if(!I)=true then(bX r).bind λJ=>some (J,false)else some ((⟨List.take (k:Int).toNat r.aLY++([(⟨a,n⟩:M.aR)]++List.drop (k:Int).toNat r.aLY)⟩:M.aF),true)
theorem EG{r:M.aF}{a:ByteArray}{n:Int}(j:r.ok)(C:M.aF.sz r<=1073741824)(U:a.size<=maxLen)(I:inI n):pK r a n=some (JO r a n):=by
 have hl:r.aLY.length<=1073741824:=by simp only[M.aF.sz]at C;omega
 unfold pK CD JO Uw
 rw[yS r C,qA,HK (f:=sI a) j.aLY.1 (λx _=>by simp only[zZ];rfl),qA,qA]
 by_cases h:kP (sI a) r.aLY<0
 ·rw[jF wX,jE h,KV (l:=r.aLY) (f:=Ta a) (L:=pV r a n r) (S:=tFI r a n) j.aLY.1 (λm k hk=> ?_) (λm=> ?_)];(show tFI r a n (RG r.aLY a)=_;have hp:=Vw r.aLY a;unfold tFI;rw[N6 (by simp only[qH,qJ,qK];omega),qA,qH];exact Qi j C (Yr _ j hl U I));(simp only[pV];rw[jE (bE hk),aM hk,qA,bL wi];rfl);·simp only[pV];rw[jF wG];rfl
 ·obtain⟨k,e,hk⟩:=dM h;rw[jE wN,jF h,e,aM hk,qA,qH,qF hk];have J:=Qi j C (Uj hk j I);rw[yS r C]at J;exact J
def tFA(r:M.aF)(a:ByteArray)(n:Int)(k:Nat):Option (M.aF×Bool):=(idx r.aLY (k:Int)).bind λj=>(cA r).bind λC=>if(!C)=true then(cO r).bind λI=>some (I,false)else(cA (⟨List.set r.aLY (k:Int).toNat (⟨j.Name,n⟩:M.aR)⟩:M.aF)).bind λJ=>if(!J)=true then(cO r).bind λU=>some (U,false)else some ((⟨List.set r.aLY (k:Int).toNat (⟨j.Name,n⟩:M.aR)⟩:M.aF),true)
def tFB(r:M.aF)(a:ByteArray)(n:Int)(k:Nat):Option (M.aF×Bool):=(CK r.aLY (k:Int)).bind λ_=>(app 24 ([]:List M.aR) (List.take (k:Int).toNat r.aLY)).bind λ_=>(app 24 (List.take (k:Int).toNat r.aLY) ([(⟨a,n⟩:M.aR)])).bind λ_=>(Cn r.aLY (k:Int)).bind λ_=>(app 24 ((List.take (k:Int).toNat r.aLY)++[(⟨a,n⟩:M.aR)]) (List.drop (k:Int).toNat r.aLY)).bind λ_=>(cA r).bind λj=>if(!j)=true then(cO r).bind λC=>some (C,false)else(cA (⟨((List.take (k:Int).toNat r.aLY)++[(⟨a,n⟩:M.aR)])++(List.drop (k:Int).toNat r.aLY)⟩:M.aF)).bind λI=>if(!I)=true then(cO r).bind λJ=>some (J,false)else some ((⟨((List.take (k:Int).toNat r.aLY)++[(⟨a,n⟩:M.aR)])++(List.drop (k:Int).toNat r.aLY)⟩:M.aF),true)
def tFS(r:M.aF)(a:ByteArray)(n:Int)(k:Nat):Option (M.aF×Bool):=match r.aLY[k]? with|some x=>if(x.Name.toList==a.toList)=true then tFA r a n k else tFB r a n k|none=>tFB r a n k
theorem aBg{r:M.aF}{a:ByteArray}{n:Int}{k:Nat}(hk:k<=r.aLY.length)(j:r.ok)(C:M.aF.sz r<=1073741824)(I:a.size<=maxLen)(U:inI n):tFB r a n k=some (OA r (r.aLY.take k++([(⟨a,n⟩:M.aR)]++r.aLY.drop k))):=by
 have J:r.aLY.length<=1073741824:=by simp only[M.aF.sz]at C;omega
 unfold tFB
 rw[FT hk,qA,qH,IP wR wi,qA,dN jw,qA,Oi hk,qA,dN js,qA,qT]
 exact Qc j C (Yr k j J I U)
theorem CR{r:M.aF}{a:ByteArray}{n:Int}(I:r.ok)(J:M.aF.sz r<=1073741824)(ha:a.size<=maxLen)(U:inI n):iS r a n=some (JO r a n):=by
 have hl:r.aLY.length<=1073741824:=by simp only[M.aF.sz]at J;omega
 have hp:=Vw r.aLY a
 unfold iS
 rw[Dm r J,qA,KV (l:=r.aLY) (f:=Ta a) (L:=pJ r a n r) (S:=tFS r a n) I.aLY.1 (λm k hk=> ?_) (λm=> ?_)]
 ·show tFS r a n (RG r.aLY a)=_
  unfold tFS JO
  rcases jR (RG r.aLY a) r.aLY.length with h|h
  ·rw[qF h]
   simp only
   by_cases hf:(r.aLY[RG r.aLY a].Name.toList==a.toList)=true
   ·rw[jE hf]
    unfold tFA
    rw[aM h,qA,qH,Qc I J (Uj h I U)]
    cases hR:cT r with
    |false=>rw[J3 hR,J3 hR]
    |true=>
     have hnot:¬kP (sI a) r.aLY<0:=λh0=>by have:=MD h0 _ (qG h);rw[show sI a r.aLY[RG r.aLY a]=true from hf]at this;cases this
     obtain⟨k,e,hk⟩:=dM hnot
     obtain⟨_,j⟩:=CC e
     have C:=TR hR hk j
     unfold Uw
     rw[jF hnot,e,qH,qF hk]
     simp only[C]
   ·rw[jF hf,aBg hp I J ha U]
    cases hR:cT r with
    |false=>rw[J3 hR,J3 hR]
    |true=>
     have hneg:kP (sI a) r.aLY<0:=Classical.byContradiction λhnot=>by obtain⟨k,e,hk⟩:=dM hnot;obtain⟨_,j⟩:=CC e;have C:=TR hR hk j;apply hf;simp only[C];exact j
     unfold Uw
     rw[jE hneg]
  ·rw[qZ h]
   simp only
   rw[aBg hp I J ha U]
   cases hR:cT r with
   |false=>rw[J3 hR,J3 hR]
   |true=>
    have hneg:kP (sI a) r.aLY<0:=Classical.byContradiction λhnot=>by obtain⟨k,e,hk⟩:=dM hnot;obtain⟨_,j⟩:=CC e;have C:=TR hR hk j;omega
    unfold Uw
    rw[jE hneg]
 ·simp only[pJ];rw[jE (bE hk),aM hk,qA,bL wi];unfold tFS;rw[qF hk];simp only;unfold tFA;rw[aM hk];rfl
 ·simp only[pJ];rw[jF wG];unfold tFS;rw[qZ (qg _)];rfl
def zK(k:M.bD)(x:M.aLo):Bool:=(x.Key.aLn==k.aLn)&&((x.Key.N==k.N)&&(x.Key.aLu.toList==k.aLu.toList))
theorem BW{s:M.aE}{k:M.bD}(I:s.ok):kY s k=some (kP (zK k) s.aLV):=by have J:=aY I.aLV.1;unfold kY;rw[pI (L:=rG s k) (f:=zK k) (A:=λi=>some (i:Int)) (E:=some (-1)) I.aLV.1 (λm j C=> ?_) (λm=> ?_),uQ];(simp only[rG];rw[jE (bE C),aM C,qA,bL wi];rfl);·simp only[rG];rw[jF wG]
theorem CZ{s:M.aE}{k:M.bD}(j:s.ok):mW s k=some (kP (zK k) s.aLV):=by unfold mW;rw[IA (f:=zK k) j.aLV.1 (λx _=>by simp only[BU];rfl),qA]
theorem Z2{x y:M.bD}(I:EZ x=true)(J:EZ y=true)(h:¬bZ x y<0)(j:((x.aLn==y.aLn)&&((x.N==y.N)&&(x.aLu.toList==y.aLu.toList)))=false):bZ y x<0:=by
 unfold bZ at*
 rw[jE ⟨I,J⟩]at h
 rw[jE ⟨J,I⟩]
 by_cases hk:x.aLn=y.aLn
 ·rw[jE hk]at h
  rw[jE hk.symm]
  by_cases hn:x.N=y.N
  ·rw[jE hn]at h
   rw[jE hn.symm]
   have hb:(x.aLu.toList==y.aLu.toList)=false:=by simpa[hk,hn]using j
   have U:Op.bytesLess x.aLu.toList y.aLu.toList=false:=by
    cases e:Op.bytesLess x.aLu.toList y.aLu.toList with
    |false=>rfl
    |true=>rw[e,jE rfl]at h;omega
   have C:=EP x.aLu.toList y.aLu.toList
   rw[U,Bool.beq_comm,hb,Bool.or_false]at C
   have h2:Op.bytesLess y.aLu.toList x.aLu.toList=true:=by
    cases e:Op.bytesLess y.aLu.toList x.aLu.toList with
    |true=>rfl
    |false=>rw[e]at C;cases C
   rw[jE h2]
   omega
  ·rw[jF hn]at h;rw[jF (λe=>hn e.symm)];by_cases hlt:x.N<y.N;(rw[jE hlt]at h;omega);·rw[jE wi];omega
 ·rw[jF hk]at h;rw[jF (λe=>hk e.symm)];by_cases hlt:x.aLn<y.aLn;(rw[jE hlt]at h;omega);·rw[jE wi];omega
