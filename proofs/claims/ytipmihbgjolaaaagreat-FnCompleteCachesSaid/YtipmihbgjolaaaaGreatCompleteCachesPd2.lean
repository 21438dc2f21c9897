/-
  Helper text. No conditions.
-/
import Derived.Test.YtipmihbgjolaaaaGreatCompleteCachesPd1
set_option linter.unusedVariables false
set_option linter.unusedSimpArgs false
namespace Go.Proofs.YtipmihbgjolaaaaGreat.gen
open Go Go.Sh
open Go.IntKind (i64)
theorem J2 {p:M.bJ->M.bJ->Option Bool} {f:M.bJ->M.bJ->Bool} {xs ys:List M.bJ} (hx:xs.length<=maxLen) (hp : ∀x∈xs,∀y∈ys,p x y=some (f x y)):mN xs ys p=some (eqL f xs ys):=by
 have hm:=le_max hx
 unfold mN
 rw [Eu (f:=f) hx (E:=some true) (λn k hk hk'=>by
  simp only [fY]
  rw [if_pos (aY hk),aK hk,aK hk',qA,qA,bD qb]
  rw [hp _ (qG hk) _ (qG hk'),qA,gF]) (λn=>by
  simp only [fY]
  rw [if_neg qk]),aZ,Bool.and_true]
theorem J7 {p:M.aGl->M.aGl->Option Bool} {f:M.aGl->M.aGl->Bool} {xs ys:List M.aGl} (hx:xs.length<=maxLen) (hp : ∀x∈xs,∀y∈ys,p x y=some (f x y)):nB xs ys p=some (eqL f xs ys):=by
 have hm:=le_max hx
 unfold nB
 rw [Eu (f:=f) hx (E:=some true) (λn k hk hk'=>by
  simp only [fX]
  rw [if_pos (aY hk),aK hk,aK hk',qA,qA,bD qb]
  rw [hp _ (qG hk) _ (qG hk'),qA,gF]) (λn=>by
  simp only [fX]
  rw [if_neg qk]),aZ,Bool.and_true]
theorem HK {p:M.aGr->M.aGr->Option Bool} {f:M.aGr->M.aGr->Bool} {xs ys:List M.aGr} (hx:xs.length<=maxLen) (hp : ∀x∈xs,∀y∈ys,p x y=some (f x y)):kM xs ys p=some (eqL f xs ys):=by
 have hm:=le_max hx
 unfold kM
 rw [Eu (f:=f) hx (E:=some true) (λn k hk hk'=>by
  simp only [eH]
  rw [if_pos (aY hk),aK hk,aK hk',qA,qA,bD qb]
  rw [hp _ (qG hk) _ (qG hk'),qA,gF]) (λn=>by
  simp only [eH]
  rw [if_neg qk]),aZ,Bool.and_true]
theorem D0 {a b:List Int} (ha:okB a) (hb:okB b):tE a b=some (eqL xA a b):=by unfold tE;rw [EI ha.2,EI hb.2,qA,qA,PH ha.2 hb.2];rfl
theorem B4 {a b:List Int} (ha:okB a):oE a b=some (eqL xA a b):=by unfold oE;rw [O7 ha.1,qA]
def FL (x y:M.aGm):Bool:=(x.aHX==y.aHX)&&((x.aHO==y.aHO)&&((x.aGg==y.aGg)&&((x.aHb==y.aHb)&&eqL xA x.aHT y.aHT)))
theorem Fu {a b:M.aGm} (ha:a.ok):pQ a b=some (FL a b):=by simp only [pQ,B4 ha.aHT,qA,aZ,BY,zO,FL];ac_rfl
def It (x y:M.aGw):Bool:=(x.aGl.toList==y.aGl.toList)&&((x.aHQ.toList==y.aHQ.toList)&&FL x.aGm y.aGm)
def OG (x y:M.aGo):Bool:=(x.aGg==y.aGg)&&eqL It x.aGs y.aGs
def HL (x y:M.aC):Bool:=eqL OG x.aGi y.aGi
theorem Il {a b:M.aGw} (ha:a.ok):pW a b=some (It a b):=by simp only [pW,Fu ha.aGm,qA,aZ,BY,zO,It]
theorem HN {a b:M.aGo} (ha:a.ok):rK a b=some (OG a b):=by simp only [rK,HI (f:=It) ha.aGs.1 (λx hx y hy=>Il (ha.aGs.2 x hx)),qA,aZ,BY,zO,OG]
theorem Ft {a b:M.aC} (ha:a.ok):pJ a b=some (HL a b):=by simp only [pJ,I6 (f:=OG) ha.aGi.1 (λx hx y hy=>HN (ha.aGi.2 x hx)),qA,aZ,BY,zO,HL]
def M5 (x y:M.aE):Bool:=eqL Ks x.aGn y.aGn
theorem Hj {a b:M.aE} (ha:a.ok):tT a b=some (M5 a b):=by simp only [tT,NM ha.aGn.1,qA,M5]
def aAZ (x y:M.Key):Bool:=((x.aG7==y.aG7)&&((x.N==y.N)&&(x.aHG.toList==y.aHG.toList)))
def SK (x y:M.aG1):Bool:=aAZ x.Key y.Key&&M5 x.aE y.aE
def HJ (x y:M.aD):Bool:=(x.Name.toList==y.Name.toList)&&((x.aHD==y.aHD)&&eqL SK x.aGk y.aGk)
theorem Je {a b:M.aG1} (ha:a.ok):tI a b=some (SK a b):=by simp only [tI,Hj ha.aE,qA,aZ,BY,zO,SK,aAZ]
theorem BL {a b:M.aD} (ha:a.ok):gZ a b=some (HJ a b):=by simp only [gZ,J4 (f:=SK) ha.aGk.1 (λx hx y hy=>Je (ha.aGk.2 x hx)),qA,aZ,BY,zO,HJ]
def FA (x y:M.aGh):Bool:=(x.Name.toList==y.Name.toList)&&((x.aGg==y.aGg)&&(eqL HJ x.aGq y.aGq&&eqL Dp x.aG3 y.aG3))
theorem FZ {a b:M.aGh} (ha:a.ok):pP a b=some (FA a b):=by simp only [pP,IJ (f:=HJ) ha.aGq.1 (λx hx y hy=>BL (ha.aGq.2 x hx)),JS ha.aG3.1,qA,aZ,BY,zO,FA]
def Uf (x y:M.bW):Bool:=FA x.aG4 y.aG4&&(eqL xA x.Log y.Log&&(x.aHM==y.aHM))
theorem IY {a b:M.bW} (ha:a.ok):xG a b=some (Uf a b):=by simp only [xG,FZ ha.aG4,B4 ha.Log,qA,aZ,BY,zO,Uf]
def La (x y:M.aM):Bool:=(x.aGp==y.aGp)&&((x.aHH==y.aHH)&&eqL DC x.aG0 y.aG0)
theorem Gp {a b:M.aM} (ha:a.ok):sM a b=some (La a b):=by simp only [sM,HD ha.aG0.1,qA,aZ,BY,zO,La]
def WE (x y:M.aG5):Bool:=La x.aM y.aM&&((x.aHL==y.aHL)&&(x.aHB==y.aHB))
theorem IV {a b:M.aG5} (ha:a.ok):xV a b=some (WE a b):=by simp only [xV,Gp ha.aM,qA,aZ,BY,zO,WE]
def H3 (x y:M.aH):Bool:=HJ x.aG4 y.aG4&&((x.aHS==y.aHS)&&WE x.aG5 y.aG5)
theorem Gq {a b:M.aH} (ha:a.ok):sD a b=some (H3 a b):=by simp only [sD,BL ha.aG4,IV ha.aG5,qA,aZ,BY,zO,H3]
def aBb (x y:M.aGf):Bool:=((x.aGl.toList==y.aGl.toList)&&((x.aG6==y.aG6)&&((x.aHC==y.aHC)&&(x.aHF==y.aHF))))
def Jh (x y:M.aG):Bool:=(x.aGl.toList==y.aGl.toList)&&((x.Top.toList==y.Top.toList)&&(aBb x.aGf y.aGf&&(HL x.aGi y.aGi&&(Uf x.bW y.bW&&(H3 x.aH y.aH&&((x.aHI==y.aHI)&&(x.aHE==y.aHE)))))))
theorem G8 {a b:M.aG} (ha:a.ok):oO a b=some (Jh a b):=by simp only [oO,Ft ha.aGi,IY ha.bW,Gq ha.aH,qA,aZ,BY,zO,Jh,aBb]
def Kn (x y:M.aA):Bool:=eqL Jh x.aGj y.aGj
theorem Gt {a b:M.aA} (ha:a.ok):sJ a b=some (Kn a b):=by simp only [sJ,HR (f:=Jh) ha.aGj.1 (λx hx y hy=>G8 (ha.aGj.2 x hx)),qA,aZ,BY,zO,Kn]
def Kj (x y:M.aGu):Bool:=eqL Ip x.aHP y.aHP&&((x.Pc==y.Pc)&&(eqL N5 x.aHY y.aHY&&((x.aHV==y.aHV)&&((x.aHd==y.aHd)&&(x.aHf==y.aHf)))))
theorem Gn {a b:M.aGu} (ha:a.ok):sC a b=some (Kj a b):=by simp only [sC,NY ha.aHP.1,PQ ha.aHY.1,qA,aZ,BY,zO,Kj]
def PI (x y:M.bJ):Bool:=(x.Id==y.Id)&&((x.aGl.toList==y.aGl.toList)&&((x.Top.toList==y.Top.toList)&&((x.aGg==y.aGg)&&(eqL Fk x.aW y.aW&&Kj x.aGu y.aGu))))
theorem JU {a b:M.bJ} (ha:a.ok):gJ a b=some (PI a b):=by simp only [gJ,LV ha.aW.1,Gn ha.aGu,qA,aZ,BY,zO,PI]
def Hh (x y:M.aGr):Bool:=HJ x.aD y.aD&&(eqL D7 x.aP y.aP&&eqL DC x.aG9 y.aG9)
theorem GW {a b:M.aGr} (ha:a.ok):pA a b=some (Hh a b):=by simp only [pA,BL ha.aD,K6 ha.aP.1,HD ha.aG9.1,qA,aZ,BY,zO,Hh]
def Qs (x y:M.aGl):Bool:=(x.Name.toList==y.Name.toList)&&((x.aGg==y.aGg)&&(eqL FT x.aG8 y.aG8&&(x.aHJ==y.aHJ)))
theorem Jk {a b:M.aGl} (ha:a.ok):oJ a b=some (Qs a b):=by simp only [oJ,Ma ha.aG8.1,qA,aZ,BY,zO,Qs]
def Rz (x y:M.World):Bool:=(x.Now==y.Now)&&((x.aHA==y.aHA)&&((x.aGp==y.aGp)&&(Kn x.aA y.aA&&(eqL PI x.aGx y.aGx&&((x.aGv==y.aGv)&&(eqL Ly x.aGy.aGy y.aGy.aGy&&(eqL KS x.aGt.aHN y.aGt.aHN&&(eqL Qs x.aG2 y.aG2&&eqL Hh x.aGz y.aGz))))))))
theorem Ir {a b:M.World} (ha:a.ok):rF a b=some (Rz a b):=by simp only [rF,Gt ha.aA,J2 (f:=PI) ha.aGx.1 (λx hx y hy=>JU (ha.aGx.2 x hx)),Ox ha.aGy.aGy.1,Oj ha.aGt.aHN.1,J7 (f:=Qs) ha.aG2.1 (λx hx y hy=>Jk (ha.aG2.2 x hx)),HK (f:=Hh) ha.aGz.1 (λx hx y hy=>GW (ha.aGz.2 x hx)),qA,aZ,BY,zO,Rz]
theorem Dy {l:List Int} (hl:l.length<=1048576):rL l=some ([(List.length l:Int)]++l.map i64.wrap):=by unfold rL;have:=Qd (b:=8) (xs:=l) (f:=i64.wrap) (L:=iH l) (λn k hk r => ?_) (λn r => ?_) fuel 0 ([(List.length l:Int)]) qi qb qc;(simpa using this);(simp only [iH];rw [if_pos (aY hk),aK hk,qA,bD qb]);·simp only [iH];rw [if_neg qk]
theorem HP {l:List Int} (hl:l.length<=1048576):wF l=some ([(List.length l:Int)]++l.map i64.wrap):=by unfold wF;have:=Qd (b:=8) (xs:=l) (f:=i64.wrap) (L:=iM l) (λn k hk r => ?_) (λn r => ?_) fuel 0 ([(List.length l:Int)]) qi qb qc;(simpa using this);(simp only [iM];rw [if_pos (aY hk),aK hk,qA,bD qb]);·simp only [iM];rw [if_neg qk]
theorem RW (x:Int):DY x 2147483647=some (PA x):=by
 have e:bA 2147483647 1 1000000000000=some true:=by decide
 unfold DY
 rw [e,qA,if_neg qd,if_neg qd,VQ]
theorem Sr (x:Int):Ej x 2147483647=some (PA x):=by
 have e:bB 2147483647 1 1000000000000=some true:=by decide
 unfold Ej
 rw [e,qA,if_neg qd,if_neg qd,W6]
theorem KZ {l:List Int} (hl:l.length<=maxLen):B6 l=some (Gs l):=by have hm:=le_max hl;unfold B6 Gs;refine GM (L:=wM l) (E:=some) hl (λn v k hk => ?_) (λn v => ?_) 11;(simp only [wM];rw [if_pos (aY hk),aK hk,qA,RW,qA,bD qb];rfl);·simp only [wM];rw [if_neg qk]
theorem Cy {k:Int} {l:List Int} (hl:l.length<=2000000):uZ k l=some (Gs (([k]++l)++[k])):=by unfold uZ;rw [dN qc,qA,dN qc,qA,KZ (by simp [maxLen];omega),qA]
theorem PR {l:List Int} (hl:l.length<=maxLen):Dl l=some (Gs l):=by have hm:=le_max hl;unfold Dl Gs;refine GM (L:=wQ l) (E:=some) hl (λn v k hk => ?_) (λn v => ?_) 11;(simp only [wQ];rw [if_pos (aY hk),aK hk,qA,Sr,qA,bD qb];rfl);·simp only [wQ];rw [if_neg qk]
theorem CG {k:Int} {l:List Int} (hl:l.length<=2000000):vC k l=some (Gs (([k]++l)++[k])):=by unfold vC;rw [dN qc,qA,dN qc,qA,PR (by simp [maxLen];omega),qA]
def CB (k:Int) (s:ByteArray):Int:=if Gs (([k]++([(List.length (bR s):Int)]++(bR s).map i64.wrap))++[k])=0 then 1 else Gs (([k]++([(List.length (bR s):Int)]++(bR s).map i64.wrap))++[k])
theorem CP {k:Int} {s:ByteArray} (hs:s.size<=1048576):iX k s=some (CB k s):=by have hl:=aQ s;unfold iX zM CB;rw [Dy qb,qA,Cy qc,qA];have:=Nk (([k]++([(List.length (bR s):Int)]++(bR s).map i64.wrap))++[k]);generalize Gs (([k]++([(List.length (bR s):Int)]++(bR s).map i64.wrap))++[k])=h at *;by_cases h0:h=0;(rw [if_neg qc,if_pos h0];rfl);·rw [if_neg h0];by_cases h1:h=1;(rw [if_neg qc,h1];rfl);·rw [if_pos qc];rfl
theorem CZ {k:Int} {s:ByteArray} (hs:s.size<=1048576):jH k s=some (CB k s):=by have hl:=aQ s;unfold jH CB;rw [HP qb,qA,CG qc,qA];generalize Gs (([k]++([(List.length (bR s):Int)]++(bR s).map i64.wrap))++[k])=h;by_cases h0:h=0;(rw [if_pos (by simp [h0]),if_pos h0]);·rw [if_neg (by simp [h0]),if_neg h0]
theorem KU {x:Int} (h0:0<=x) (h1:x<2147483647) : ∀(n:Nat) (v:Int) (r:List Int),uV x n v r=bV x n v r
 | 0,_,_=>rfl
 | n+1,v,r=>by simp only [uV,bV,YQ h0 h1,KU h0 h1 n]
theorem Zk (x:Int) : ∃l,bV x fuel 5 ([]:List Int)=some l/\okB l:=by
 have st : ∀n (v:Nat) r,r.length<=7->(∀y∈r,0<=y/\y<=255)->v<=5 -> ∃y:Int,(0<=y/\y<=255)/\bV x (n+1) (v:Int) r=bV x n ((v:Int)-1) (r++[y]):=by intro n v r hr hy hv;refine ⟨IntKind.u8.wrap (Int.fdiv x (2^(min (i64.wrap (8*(v:Int))).toNat IntKind.i64.bits))),by rw [wrap_u8];omega,?_⟩;simp only [bV];rw [if_pos qd,if_pos (by rw [bN qb qb];simp;omega),dN qc,qA,bN (n:=(v:Int)-1) qb qb]
 have e7 : ∀n r,bV x (n+1) (-1) r=some r:=by intro n r;simp only [bV];rw [if_neg qe]
 rw [Ue]
 obtain ⟨x1,b1,e1⟩:=st (18446744073709551609+6) 5 [] qd qd qd
 obtain ⟨x2,b2,e2⟩:=st (18446744073709551609+5) 4 ([]++[x1]) qd (by simpa using b1) qd
 obtain ⟨x3,b3,e3⟩:=st (18446744073709551609+4) 3 ([]++[x1]++[x2]) qd (by simpa using ⟨b1,b2⟩) qd
 obtain ⟨x4,b4,e4⟩:=st (18446744073709551609+3) 2 ([]++[x1]++[x2]++[x3]) qd (by simpa using ⟨b1,b2,b3⟩) qd
 obtain ⟨x5,b5,e5⟩:=st (18446744073709551609+2) 1 ([]++[x1]++[x2]++[x3]++[x4]) qd (by simpa using ⟨b1,b2,b3,b4⟩) qd
 obtain ⟨x6,b6,e6⟩:=st (18446744073709551609+1) 0 ([]++[x1]++[x2]++[x3]++[x4]++[x5]) qd (by simpa using ⟨b1,b2,b3,b4,b5⟩) qd
 exact ⟨_,(e1.trans (e2.trans (e3.trans (e4.trans (e5.trans (e6.trans (e7 _ _))))))),by simp [maxLen],by simpa using ⟨b1,b2,b3,b4,b5,b6⟩⟩
theorem M8 {t:M.aGl} {f:ByteArray} {v:Int} (h1:t.Name.size<=1048576) (h2:f.size<=1048576) : ∃l,mZ t f v=some l/\wB t f v=some l/\okB l:=by unfold mZ wB;rw [CP h1,CZ h1,qA,qA,CP h2,CZ h2,qA,qA,Cy qd,CG qd,qA,qA];have hb:=Nk (([i64.wrap (1+v)]++[103,CB 107 t.Name,CB 109 f])++[i64.wrap (1+v)]);rw [KU hb.1 hb.2];obtain ⟨l,e,hl⟩:=Zk (Gs (([i64.wrap (1+v)]++[103,CB 107 t.Name,CB 109 f])++[i64.wrap (1+v)]));exact ⟨l,e,e,hl⟩
theorem NN {α R:Type} {l:List α} {f:α->Bool} {L:Nat->Int->Option R} {S:Nat->Option R} (hl:l.length<=maxLen)
  (h1 : ∀n (k:Nat) (hk:k<l.length),L (n+1) (k:Int)=if f l[k]=true then L n ((k+1:Nat):Int) else S k) (h2 : ∀n,L (n+1) (l.length:Int)=S l.length):L fuel 0=S (l.takeWhile f).length:=by
 have hm:=le_max hl
 have key : ∀(n k:Nat),l.length-k<n->k<=l.length->L n (k:Int)=S (k+((l.drop k).takeWhile f).length):=by
  intro n
  induction n with
  | zero=>intro k h _;omega
  | succ n ih =>
   intro k hn hk
   rcases Nat.lt_or_ge k l.length with h | h
   ·rw [h1 n k h,qV h,List.takeWhile_cons];by_cases hf:f l[k]=true;(rw [if_pos hf,if_pos hf,ih (k+1) qb h,qJ];congr 1;omega);·rw [if_neg hf,if_neg hf];simp
   ·have:k=l.length:=by omega
    subst this
    rw [h2 n]
    simp
 have:=key fuel 0 qi qb
 simpa using this
def Wy (s:M.aA) (b:M.aG):Nat:=(s.aGj.takeWhile (λx=>Ev x b)).length
theorem Qj (s:M.aA) (b:M.aG):Wy s b<=s.aGj.length:=(List.takeWhile_prefix _).length_le
def CX (s:M.aA) (b:M.aG):List M.aG:=if kG (nAt b.aGl b.Top) s.aGj>=0 then s.aGj.set (kG (nAt b.aGl b.Top) s.aGj).toNat b else s.aGj.take (Wy s b)++([b]++s.aGj.drop (Wy s b))
def LU (s:M.aA) (l:List M.aG):M.aA×Bool:=if rC s=true then (if rC (⟨l⟩:M.aA)=true then ((⟨l⟩:M.aA),true) else (s,false)) else (s,false)
def E9 (s:M.aA) (b:M.aG):M.aA×Bool:=LU s (CX s b)
theorem Ii {s:M.aA} {b x:M.aG} (h:x∈CX s b):x=b\/x∈s.aGj:=by unfold CX at h;split at h;(rcases List.mem_or_eq_of_mem_set h with h | h;(exact .inr h);·exact .inl h);·simp only [qP,List.mem_cons,qO,or_false] at h;rcases h with h | h | h;(exact .inr (List.mem_of_mem_take h));(exact .inl h);·exact .inr (List.mem_of_mem_drop h)
theorem Hs (s:M.aA) (b:M.aG):(CX s b).length<=s.aGj.length+1:=by have:=Qj s b;unfold CX;split;(simp);·simp only [qE,qT,qJ,qK,qU];omega
theorem F5 {α:Type} {f:α->Nat} {x:α} : ∀ {l:List α} {i:Nat},cX f (l.set i x)<=cX f l+f x
 | [],_=>by simp [cX]
 | y::l,0=>by simp only [List.set_cons_zero,cX];omega
 | y::l,i+1=>by have:=F5 (f:=f) (x:=x) (l:=l) (i:=i);simp only [List.set_cons_succ,cX];omega
theorem tP {α:Type} {f:α->Nat} : ∀(l r:List α),cX f (l++r)=cX f l+cX f r
 | [],r=>by simp [cX]
 | y::l,r=>by simp only [List.cons_append,cX,tP l r];omega
theorem RK (s:M.aA) (b:M.aG):cX M.aG.sz (CX s b)<=cX M.aG.sz s.aGj+M.aG.sz b:=by unfold CX;split;(exact F5);·rw [tP,tP];have:=tP (f:=M.aG.sz) (s.aGj.take (Wy s b)) (s.aGj.drop (Wy s b));rw [List.take_append_drop] at this;simp only [cX];omega
theorem Tt {s:M.aA} (hz:M.aA.sz s<=1048576) : ∀x∈s.aGj,M.aG.sz x<=1048576:=λx hx=>by have:=cO (f:=M.aG.sz) hx;simp only [M.aA.sz] at hz;omega
theorem QX {s:M.aA} {b:M.aG} (hs:s.ok) (hb:b.ok) (hz:M.aA.sz s<=1048576):M.aA.ok (⟨CX s b⟩:M.aA):=
 ⟨⟨by show (CX s b).length<=maxLen;have:=Hs s b;simp only [M.aA.sz] at hz;unfold maxLen;omega,λx hx=>by rcases Ii hx with rfl | h;(exact hb);·exact hs.aGj.2 x h⟩⟩
theorem Pp {s:M.aA} {b:M.aG} (hz:M.aA.sz s<=1048576) (zb:M.aGh.sz b.bW.aG4<=1048576) : ∀x∈CX s b,M.aGh.sz x.bW.aG4<=1048576:=λx hx=>by rcases Ii hx with rfl | h;(exact zb);·exact Ad (Tt hz x h)
theorem PF {s:M.aA} {b:M.aG} (hs:s.ok) (hb:b.ok) (hz:M.aA.sz s<=1048576):M.aA.ok (E9 s b).1:=by unfold E9 LU;split;(split;(exact QX hs hb hz);·exact hs);·exact hs
theorem T5 (s:M.aA) (b:M.aG):M.aA.sz (E9 s b).1<=M.aA.sz s+M.aG.sz b+1:=by have h1:=Hs s b;have h2:=RK s b;unfold E9 LU;simp only [M.aA.sz];split;(split<;>simp only<;>omega);·simp only;omega
theorem QJ {s:M.aA} {l:List M.aG} (hs:s.ok) (hz:M.aA.sz s<=1048576) (hl:M.aA.ok (⟨l⟩:M.aA)) (zl : ∀x∈l,M.aGh.sz x.bW.aG4<=1048576) :
  ((cN s).bind λae=>(if (!ae)=true then ((some s).bind λaf=>(some (af,false))) else ((cN (⟨l⟩:M.aA)).bind λah=>(if (!ah)=true then ((some s).bind λaa=>(some (aa,false))) else (some ((⟨l⟩:M.aA),true))))))=some (LU s l):=by
 rw [Ke hs hz,qA,BZ hl zl]
 unfold LU
 cases rC s
 ·simp
 ·cases rC (⟨l⟩:M.aA)<;>simp
def tS (s:M.aA) (b:M.aG) (k:Nat):Option (M.aA×Bool):=(An s.aGj (k:Int)).bind λ_=>((app 328 ([]:List M.aG) (List.take (k:Int).toNat s.aGj)).bind λ_=>((gN b).bind λaa=>((app 328 (List.take (k:Int).toNat s.aGj) ([aa])).bind λ_=>((app 328 ((List.take (k:Int).toNat s.aGj)++[aa]) (List.drop (k:Int).toNat s.aGj)).bind λ_=>((cN s).bind λaf=>(if (!af)=true then ((fG s).bind λah=>(some (ah,false))) else ((cN (⟨(((List.take (k:Int).toNat s.aGj)++[aa])++(List.drop (k:Int).toNat s.aGj))⟩:M.aA)).bind λai=>(if (!ai)=true then ((fG s).bind λae=>(some (ae,false))) else (some ((⟨(((List.take (k:Int).toNat s.aGj)++[aa])++(List.drop (k:Int).toNat s.aGj))⟩:M.aA),true))))))))))
theorem B5 {s:M.aA} {b:M.aG} (hs:s.ok) (hb:b.ok) (hz:M.aA.sz s<=1048576) (zc:M.aG.sz b<=1073741824) (zb:M.aGh.sz b.bW.aG4<=1048576):gI s b=some (E9 s b):=by
 have hm:=le_max hs.aGj.1
 have hlen:s.aGj.length<=1048576:=by simp only [M.aA.sz] at hz;omega
 have ok:=QX hs hb hz
 have all:=Pp (s:=s) hz zb
 have hle:=Qj s b
 unfold gI E9
 rw [DR s qb,qA,sZ hs,qA]
 by_cases h:kG (nAt b.aGl b.Top) s.aGj>=0
 ·obtain ⟨j,hj,hlt⟩:=fI (show ¬kG (nAt b.aGl b.Top) s.aGj<0 by omega)
  have e:CX s b=s.aGj.set (kG (nAt b.aGl b.Top) s.aGj).toNat b:=by unfold CX;rw [if_pos h]
  rw [if_pos (by simpa using h),zL b qb,qA]
  rw [e] at ok all ⊢
  rw [hj] at ok all ⊢
  rw [aK hlt,qA]
  exact QJ hs hz ok all
 ·have e:CX s b=s.aGj.take (Wy s b)++([b]++s.aGj.drop (Wy s b)):=by unfold CX;rw [if_neg h]
  rw [if_neg (by simpa using h),NN (l:=s.aGj) (f:=λx=>Ev x b) (L:=lM s b s) (S:=tS s b) hs.aGj.1 (λn k hk => ?_) (λn => ?_)]
  ·show tS s b (Wy s b)=_;unfold tS;rw [BG hle,qA,qH,Fe qc qb,qA,zL b qb,qA,dN qu,qA,dN qo,qA,qS,<-e];rw [DR s qb];exact QJ hs hz ok all
  ·simp only [lM];rw [if_pos (aY hk),aK hk,qA,GJ,qA,bD qb];rfl
  ·simp only [lM];rw [if_neg qk];rfl
theorem J6 {s:M.aA} {b:M.aG} (hs:s.ok) (hb:b.ok) (hz:M.aA.sz s<=1048576) (zb:M.aG.sz b<=1048576):gI s b=some (E9 s b):=B5 hs hb hz qb (Ad zb)
theorem Iu {α:Type} {l:List α} {k:Nat} (h:k<=l.length):Cb l (k:Int)=some (l.drop k):=by unfold Cb;rw [if_pos ⟨qb,by simpa using h⟩];simp
theorem MQ : ∀ {a b c:List UInt8},Op.bytesLess a b=true->Op.bytesLess b c=true->Op.bytesLess a c=true
 | [],[],_,h,_=>by cases h
 | _::_,[],_,h,_=>by cases h
 | _,_::_,[],_,h=>by cases h
 | [],_::_,_::_,_,_=>rfl
 | x::a,y::b,z::c,h1,h2=>by
  have e1:Op.bytesLess (x::a) (y::b)=(decide (x<y)||((x==y)&&Op.bytesLess a b)):=rfl
  have e2:Op.bytesLess (y::b) (z::c)=(decide (y<z)||((y==z)&&Op.bytesLess b c)):=rfl
  have e3:Op.bytesLess (x::a) (z::c)=(decide (x<z)||((x==z)&&Op.bytesLess a c)):=rfl
  rw [e1,Bool.or_eq_true,qM,qL,UInt8.lt_iff_toNat_lt] at h1
  rw [e2,Bool.or_eq_true,qM,qL,UInt8.lt_iff_toNat_lt] at h2
  rw [e3,Bool.or_eq_true,qM,qL,UInt8.lt_iff_toNat_lt]
  rcases h1 with h1 | ⟨h1,h1'⟩<;>rcases h2 with h2 | ⟨h2,h2'⟩
  ·exact .inl qb
  ·exact .inl (by rw [<-eq_of_beq h2];exact h1)
  ·exact .inl (by rw [eq_of_beq h1];exact h2)
  ·exact .inr ⟨by rw [eq_of_beq h1];exact h2,MQ h1' h2'⟩
theorem HS {α:Type} {f:α->Bool} : ∀ {l:List α} {k:Nat},(∀(j:Nat) (hj:j<l.length),j<k->f l[j]=true)->(∀(hk:k<l.length),f l[k]=false)->k<=l.length->(l.takeWhile f).length=k
 | [],k,_,_,h=>by simp at h;simp [h]
 | x::l,0,_,h,_=>by have:=h qd;simp only [List.getElem_cons_zero] at this;rw [List.takeWhile_cons,if_neg (by rw [this];simp)];rfl
 | x::l,k+1,h1,h2,h3=>by have:=h1 0 qd qb;simp only [List.getElem_cons_zero] at this;rw [List.takeWhile_cons,if_pos this,qJ,HS (k:=k) (λj hj hjk => ?_) (λhk => ?_) (by simpa using h3)];(have:=h1 (j+1) qc qb;simpa using this);·have:=h2 qc;simpa using this
theorem Jx {α:Type} {f:α->Bool} : ∀ {l:List α} (j:Nat) (hj:j<l.length),j<(l.takeWhile f).length->f l[j]=true
 | [],j,hj,_=>by simp at hj
 | x::l,j,hj,h=>by
  rw [List.takeWhile_cons] at h
  split at h
  ·rename_i hx
   cases j with
   | zero=>exact hx
   | succ j=>exact Jx j (by simpa using hj) (by simpa using h)
  ·simp at h
theorem JI {α:Type} {f:α->Bool} : ∀ {l:List α} (hk:(l.takeWhile f).length<l.length),f (l[(l.takeWhile f).length])=false
 | [],hk=>by simp at hk
 | x::l,hk=>by
  cases hx:f x with
  | false=>simp [List.takeWhile_cons,hx]
  | true =>
   have hk':(l.takeWhile f).length<l.length:=by rw [List.takeWhile_cons,if_pos hx] at hk;simpa using hk
   have:=JI hk'
   simpa [List.takeWhile_cons,hx] using this
theorem AA {α:Type} {f:α->Bool} {l:List α} {k:Nat} (h:kG f l=(k:Int)) : ∃hk:k<l.length,f l[k]=true:=by
 unfold kG at h
 cases e:l.findIdx? f with
 | none=>rw [e] at h;simp only at h;omega
 | some i =>
  rw [e] at h
  simp only at h
  have:i=k:=by omega
  subst this
  obtain ⟨h1,h2,_⟩:=List.findIdx?_eq_some_iff_getElem.1 e
  exact ⟨h1,h2⟩
theorem IN {α:Type} {f:α->Bool} {l:List α} (h:kG f l<0) : ∀x∈l,f x=false:=by
 have h2:=HU f l
 rw [decide_eq_false qb] at h2
 intro x hx
 cases hf:f x with
 | false=>rfl
 | true =>
  have:l.any f=true:=List.any_eq_true.2 ⟨x,hx,hf⟩
  rw [<-h2] at this
  cases this
theorem Ud {r:M.aE} (h:cG r=true) (k:Nat) (hk:k+1<r.aGn.length):Op.bytesLess r.aGn[k].Name.toList r.aGn[k+1].Name.toList=true:=by unfold cG at h;rw [qM,qQ] at h;have:=h.1 (k+1) (List.mem_range.2 hk);unfold Es at this;rw [qF hk,Nat.add_sub_cancel,qF (show k<r.aGn.length by omega)] at this;simp only [Option.any_some,qM] at this;simpa using this.2
theorem XT {r:M.aE} (h:cG r=true) : ∀(d i:Nat) (hj:i+d+1<r.aGn.length),Op.bytesLess r.aGn[i].Name.toList r.aGn[i+d+1].Name.toList=true
 | 0,i,hj=>Ud h i hj
 | d+1,i,hj=>MQ (XT h d i qb) (Ud h (i+d+1) hj)
def Rl (a:ByteArray) (x:M.Field):Bool:=Op.bytesLess x.Name.toList a.toList
def O8 (l:List M.Field) (a:ByteArray):Nat:=(l.takeWhile (Rl a)).length
theorem Wv (l:List M.Field) (a:ByteArray):O8 l a<=l.length:=(List.takeWhile_prefix _).length_le
theorem PE {r:M.aE} {a:ByteArray} (h:cG r=true) {k:Nat} (hk:k<r.aGn.length) (hf:rD a r.aGn[k]=true):O8 r.aGn a=k:=by
 have e:r.aGn[k].Name.toList=a.toList:=eq_of_beq hf
 refine HS (λj hj hjk => ?_) (λ_ => ?_) qb
 ·unfold Rl
  rw [<-e]
  have:=XT h (k-j-1) j qb
  have e2:j+(k-j-1)+1=k:=by omega
  simp only [e2] at this
  exact this
 ·unfold Rl;rw [e];exact K5 _
def Qf (r:M.aE) (a:ByteArray) (n:Int):List M.Field:=if kG (rD a) r.aGn<0 then r.aGn.take (O8 r.aGn a)++([(⟨a,n⟩:M.Field)]++r.aGn.drop (O8 r.aGn a))
 else (match r.aGn[(kG (rD a) r.aGn).toNat]? with | some x=>r.aGn.set (kG (rD a) r.aGn).toNat (⟨x.Name,n⟩:M.Field) | none=>r.aGn)
def M4 (r:M.aE) (l:List M.Field):M.aE×Bool:=if cG r=true then (if cG (⟨l⟩:M.aE)=true then ((⟨l⟩:M.aE),true) else (r,false)) else (r,false)
def Jn (r:M.aE) (a:ByteArray) (n:Int):M.aE×Bool:=M4 r (Qf r a n)
theorem Gi {r:M.aE} (h:cG r=false) (l:List M.Field):M4 r l=(r,false):=by unfold M4;rw [h,if_neg qd]
theorem XB {r:M.aE} {a:ByteArray} {n:Int} (k:Nat) (hr:r.ok) (hl:r.aGn.length<=1073741824) (ha:a.size<=maxLen) (hn:inI n):M.aE.ok (⟨r.aGn.take k++([(⟨a,n⟩:M.Field)]++r.aGn.drop k)⟩:M.aE):=
 ⟨⟨by show (r.aGn.take k++([(⟨a,n⟩:M.Field)]++r.aGn.drop k)).length<=maxLen;unfold maxLen;simp only [qE,qT,qU,qJ,qK];omega,λy hy=>by have hy':y∈r.aGn.take k++([(⟨a,n⟩:M.Field)]++r.aGn.drop k):=hy;simp only [qP,List.mem_cons,qO,or_false] at hy';rcases hy' with h | rfl | h;(exact hr.aGn.2 y (List.mem_of_mem_take h));(exact ⟨ha,hn⟩);·exact hr.aGn.2 y (List.mem_of_mem_drop h)⟩⟩
theorem Uh {r:M.aE} {n:Int} {k:Nat} (hk:k<r.aGn.length) (hr:r.ok) (hn:inI n):M.aE.ok (⟨r.aGn.set k (⟨r.aGn[k].Name,n⟩:M.Field)⟩:M.aE):=
 ⟨⟨by show (r.aGn.set k _).length<=maxLen;rw [qN];exact hr.aGn.1,λy hy=>by have hy':y∈r.aGn.set k (⟨r.aGn[k].Name,n⟩:M.Field):=hy;rcases List.mem_or_eq_of_mem_set hy' with h | rfl;(exact hr.aGn.2 y h);·exact ⟨(hr.aGn.2 _ (qG hk)).Name,hn⟩⟩⟩
theorem Mh {r:M.aE} {l:List M.Field} (hr:r.ok) (hz:M.aE.sz r<=1073741824) (hl:M.aE.ok (⟨l⟩:M.aE)) :
  ((bL r).bind λx=>(if (!x)=true then ((cK r).bind λy=>(some (y,false))) else ((bL (⟨l⟩:M.aE)).bind λz=>(if (!z)=true then ((cK r).bind λy=>(some (y,false))) else (some ((⟨l⟩:M.aE),true))))))=some (M4 r l):=by
 rw [pT hr,qA,BK r hz,pT hl]
 unfold M4
 cases cG r
 ·simp
 ·cases cG (⟨l⟩:M.aE)<;>simp
def tFA (r:M.aE) (a:ByteArray) (n:Int) (k:Nat):Option (M.aE×Bool):=(idx r.aGn (k:Int)).bind λaa=>((bL r).bind λae=>(if (!ae)=true then ((cK r).bind λaf=>(some (af,false))) else ((bL (⟨(List.set r.aGn (k:Int).toNat (⟨aa.Name,n⟩:M.Field))⟩:M.aE)).bind λah=>(if (!ah)=true then ((cK r).bind λai=>(some (ai,false))) else (some ((⟨(List.set r.aGn (k:Int).toNat (⟨aa.Name,n⟩:M.Field))⟩:M.aE),true))))))
def tFB (r:M.aE) (a:ByteArray) (n:Int) (k:Nat):Option (M.aE×Bool):=(An r.aGn (k:Int)).bind λ_=>((app 24 ([]:List M.Field) (List.take (k:Int).toNat r.aGn)).bind λ_=>((app 24 (List.take (k:Int).toNat r.aGn) ([(⟨a,n⟩:M.Field)])).bind λ_=>((Cb r.aGn (k:Int)).bind λ_=>((app 24 ((List.take (k:Int).toNat r.aGn)++[(⟨a,n⟩:M.Field)]) (List.drop (k:Int).toNat r.aGn)).bind λ_=>((bL r).bind λaa=>(if (!aa)=true then ((cK r).bind λae=>(some (ae,false))) else ((bL (⟨(((List.take (k:Int).toNat r.aGn)++[(⟨a,n⟩:M.Field)])++(List.drop (k:Int).toNat r.aGn))⟩:M.aE)).bind λaf=>(if (!af)=true then ((cK r).bind λah=>(some (ah,false))) else (some ((⟨(((List.take (k:Int).toNat r.aGn)++[(⟨a,n⟩:M.Field)])++(List.drop (k:Int).toNat r.aGn))⟩:M.aE),true))))))))))
def tFS (r:M.aE) (a:ByteArray) (n:Int) (k:Nat):Option (M.aE×Bool):=match r.aGn[k]? with | some x=>if (x.Name.toList==a.toList)=true then tFA r a n k else tFB r a n k | none=>tFB r a n k
theorem XQ {r:M.aE} {a:ByteArray} {n:Int} {k:Nat} (hk:k<=r.aGn.length) (hr:r.ok) (hz:M.aE.sz r<=1073741824) (ha:a.size<=maxLen) (hn:inI n):tFB r a n k=some (M4 r (r.aGn.take k++([(⟨a,n⟩:M.Field)]++r.aGn.drop k))):=by
 have hl:r.aGn.length<=1073741824:=by simp only [M.aE.sz] at hz;omega
 unfold tFB
 rw [BG hk,qA,qH,Fe (by rw [qT];omega) qb,qA,dN qu,qA,Iu hk,qA,dN qo,qA,qS]
 exact Mh hr hz (XB k hr hl ha hn)
theorem BD {r:M.aE} {a:ByteArray} {n:Int} (hr:r.ok) (hz:M.aE.sz r<=1073741824) (ha:a.size<=maxLen) (hn:inI n):iP r a n=some (Jn r a n):=by
 have hl:r.aGn.length<=1073741824:=by simp only [M.aE.sz] at hz;omega
 have hp:=Wv r.aGn a
 unfold iP
 rw [BK r hz,qA,NN (l:=r.aGn) (f:=Rl a) (L:=mM r a n r) (S:=tFS r a n) hr.aGn.1 (λm k hk => ?_) (λm => ?_)]
 ·show tFS r a n (O8 r.aGn a)=_
  unfold tFS Jn
  rcases Nat.lt_or_ge (O8 r.aGn a) r.aGn.length with h | h
  ·rw [qF h]
   simp only
   by_cases hf:(r.aGn[O8 r.aGn a].Name.toList==a.toList)=true
   ·rw [if_pos hf]
    unfold tFA
    rw [aK h,qA,qH,Mh hr hz (Uh h hr hn)]
    cases hR:cG r with
    | false=>rw [Gi hR,Gi hR]
    | true =>
     have hnot : ¬kG (rD a) r.aGn<0:=λh0=>by have:=IN h0 _ (qG h);rw [show rD a r.aGn[O8 r.aGn a]=true from hf] at this;cases this
     obtain ⟨k,e,hk⟩:=fI hnot
     obtain ⟨_,hfk⟩:=AA e
     have hpk:=PE hR hk hfk
     unfold Qf
     rw [if_neg hnot,e,qH,qF hk]
     simp only [hpk]
   ·rw [if_neg hf,XQ hp hr hz ha hn]
    cases hR:cG r with
    | false=>rw [Gi hR,Gi hR]
    | true =>
     have hneg:kG (rD a) r.aGn<0:=Classical.byContradiction λhnot=>by obtain ⟨k,e,hk⟩:=fI hnot;obtain ⟨_,hfk⟩:=AA e;have hpk:=PE hR hk hfk;apply hf;simp only [hpk];exact hfk
     unfold Qf
     rw [if_pos hneg]
  ·rw [qX h]
   simp only
   rw [XQ hp hr hz ha hn]
   cases hR:cG r with
   | false=>rw [Gi hR,Gi hR]
   | true =>
    have hneg:kG (rD a) r.aGn<0:=Classical.byContradiction λhnot=>by obtain ⟨k,e,hk⟩:=fI hnot;obtain ⟨_,hfk⟩:=AA e;have hpk:=PE hR hk hfk;omega
    unfold Qf
    rw [if_pos hneg]
 ·simp only [mM];rw [if_pos (aY hk),aK hk,qA,bD qb];unfold tFS;rw [qF hk];simp only;unfold tFA;rw [aK hk];rfl
 ·simp only [mM];rw [if_neg qk];unfold tFS;rw [qX (Nat.le_refl _)];rfl
def zQ (k:M.Key) (x:M.aG1):Bool:=(x.Key.aG7==k.aG7)&&((x.Key.N==k.N)&&(x.Key.aHG.toList==k.aHG.toList))
theorem Aq {s:M.aD} {k:M.Key} (hs:s.ok):mW s k=some (kG (zQ k) s.aGk):=by have hm:=le_max hs.aGk.1;unfold mW;rw [findAll (L:=nH s k) (f:=zQ k) (A:=λi=>some (i:Int)) (E:=some (-1)) hs.aGk.1 (λm j hj => ?_) (λm => ?_),uB];(simp only [nH];rw [if_pos (aY hj),aK hj,qA,bD qb];rfl);·simp only [nH];rw [if_neg qk]
theorem VY {x y:M.Key} (hx:CN x=true) (hy:CN y=true) (h : ¬dC x y<0) (hne:((x.aG7==y.aG7)&&((x.N==y.N)&&(x.aHG.toList==y.aHG.toList)))=false):dC y x<0:=by
 unfold dC at *
 rw [if_pos ⟨hx,hy⟩] at h
 rw [if_pos ⟨hy,hx⟩]
 by_cases hk:x.aG7=y.aG7
 ·rw [if_pos hk] at h
  rw [if_pos hk.symm]
  by_cases hn:x.N=y.N
  ·rw [if_pos hn] at h
   rw [if_pos hn.symm]
   have hb:(x.aHG.toList==y.aHG.toList)=false:=by simpa [hk,hn] using hne
   have hl:Op.bytesLess x.aHG.toList y.aHG.toList=false:=by
    cases e:Op.bytesLess x.aHG.toList y.aHG.toList with
    | false=>rfl
    | true=>rw [e,if_pos rfl] at h;omega
   have ht:=C2 x.aHG.toList y.aHG.toList
   rw [hl,Bool.beq_comm,hb,Bool.or_false] at ht
   have h2:Op.bytesLess y.aHG.toList x.aHG.toList=true:=by
    cases e:Op.bytesLess y.aHG.toList x.aHG.toList with
    | true=>rfl
    | false=>rw [e] at ht;cases ht
   rw [if_pos h2]
   omega
  ·rw [if_neg hn] at h;rw [if_neg (λe=>hn e.symm)];by_cases hlt:x.N<y.N;(rw [if_pos hlt] at h;omega);·rw [if_pos qb];omega
 ·rw [if_neg hk] at h;rw [if_neg (λe=>hk e.symm)];by_cases hlt:x.aG7<y.aG7;(rw [if_pos hlt] at h;omega);·rw [if_pos qb];omega
theorem Of {l:List M.aG1} (h1 : ∀(k:Nat) (x:M.aG1),l[k]? = some x->CN x.Key=true/\cG x.aE=true) (h2 : ∀(k:Nat) (x y:M.aG1),l[k]? = some x->l[k+1]? = some y->dC x.Key y.Key<0):(List.range l.length).all (Ca l)=true:=by
 rw [qQ]
 intro k hk
 have hk:=List.mem_range.1 hk
 unfold Ca
 obtain ⟨a1,a2⟩:=h1 k _ (qF hk)
 cases k with
 | zero=>rw [qF hk];simp [a1,a2]
 | succ k =>
  have hk':k<l.length:=by omega
  have b:=h2 k _ _ (qF hk') (qF hk)
  rw [qF hk,Nat.add_sub_cancel,qF hk']
  simp [a1,a2,b]
theorem H0 {l:List M.aG1} (h:(List.range l.length).all (Ca l)=true):(∀(k:Nat) (x:M.aG1),l[k]? = some x->CN x.Key=true/\cG x.aE=true)/\(∀(k:Nat) (x y:M.aG1),l[k]? = some x->l[k+1]? = some y->dC x.Key y.Key<0):=by rw [qQ] at h;refine ⟨λk x hx => ?_,λk x y hx hy => ?_⟩;(have hk:k<l.length:=(List.getElem?_eq_some_iff.1 hx).1;have:=h k (List.mem_range.2 hk);unfold Ca at this;rw [hx] at this;simp only [Option.any_some,qM] at this;exact this.1);·have hk:k+1<l.length:=(List.getElem?_eq_some_iff.1 hy).1;have:=h (k+1) (List.mem_range.2 hk);unfold Ca at this;rw [hy,Nat.add_sub_cancel,hx] at this;simp only [Option.any_some,qM] at this;simpa using this.2
theorem Um {α:Type} {l:List α} {p:Nat} {x:α} (hp:p<=l.length) (k:Nat):(l.take p++([x]++l.drop p))[k]? = if k<p then l[k]? else if k=p then some x else l[k-1]? := by
 have hl:(l.take p).length=p:=by rw [qT];omega
 rw [List.getElem?_append,hl]
 by_cases h1:k<p
 ·rw [if_pos h1,if_pos h1,List.getElem?_take_of_lt h1]
 ·rw [if_neg h1,if_neg h1];by_cases h2:k=p;(subst h2;simp);·rw [if_neg h2];obtain ⟨d,rfl⟩ : ∃d,k=p+1+d:=⟨k-p-1,qb⟩;rw [show p+1+d-p=d+1 by omega,List.singleton_append,List.getElem?_cons_succ,List.getElem?_drop,show p+1+d-1=p+d by omega]
def Jz (k:M.Key) (x:M.aG1):Bool:=decide (dC x.Key k<0)
def Dt (l:List M.aG1) (k:M.Key):Nat:=(l.takeWhile (Jz k)).length
theorem Ny (l:List M.aG1) (k:M.Key):Dt l k<=l.length:=(List.takeWhile_prefix _).length_le
def H7 (s:M.aD) (k:M.Key):Int:=if ((k.aG7==1)&&(decide (k.N>s.aHD)&&decide (k.N<=1000000)))=true then k.N else s.aHD
def Ov (s:M.aD) (k:M.Key) (r:M.aE):M.aD:=(⟨s.Name,s.aGk.take (Dt s.aGk k)++([(⟨k,r⟩:M.aG1)]++s.aGk.drop (Dt s.aGk k)),H7 s k⟩:M.aD)
def P8 (s:M.aD) (i:Nat) (r:M.aE):M.aD:=(⟨s.Name,(match s.aGk[i]? with | some x=>s.aGk.set i (⟨x.Key,r⟩:M.aG1) | none=>s.aGk),s.aHD⟩:M.aD)
def CE (s:M.aD) (k:M.Key) (r:M.aE):M.aD×Bool:=if iI s=true then (if CN k=true then (if kG (zQ k) s.aGk<0 then (if s.aGk.length<16 then (Ov s k r,true) else (s,false)) else (P8 s (kG (zQ k) s.aGk).toNat r,true)) else (s,false)) else (s,false)
theorem yA {s:M.aD} (h:iI s=true):(List.range s.aGk.length).all (Ca s.aGk)=true/\mT s.Name=true/\s.aGk.length<=16/\0<=s.aHD/\s.aHD<=1000000:=by unfold iI inR at h;simp only [qM,qL] at h;exact ⟨h.1,h.2.1,h.2.2.1,h.2.2.2.1,h.2.2.2.2⟩
theorem WD {s:M.aD} (h1:(List.range s.aGk.length).all (Ca s.aGk)=true) (h2:mT s.Name=true) (h3:s.aGk.length<=16) (h4:0<=s.aHD) (h5:s.aHD<=1000000):iI s=true:=by unfold iI inR;simp [h1,h2,h3,h4,h5]
theorem VP {s:M.aD} {k:M.Key} (h:iI s=true):0<=H7 s k/\H7 s k<=1000000:=by obtain ⟨_,_,_,h4,h5⟩:=yA h;unfold H7;split;(rename_i hc;simp only [qM,qL] at hc;omega);·exact ⟨h4,h5⟩
theorem Vc {s:M.aD} {i:Nat} {r:M.aE} (h:iI s=true) (hi:i<s.aGk.length):iI (P8 s i r)=cG r:=by
 obtain ⟨h1,h2,h3,h4,h5⟩:=yA h
 obtain ⟨a1,a2⟩:=H0 h1
 have e:P8 s i r=(⟨s.Name,s.aGk.set i (⟨s.aGk[i].Key,r⟩:M.aG1),s.aHD⟩:M.aD):=by unfold P8;rw [qF hi]
 rw [e]
 have key : ∀(k:Nat) (x:M.aG1),(s.aGk.set i (⟨s.aGk[i].Key,r⟩:M.aG1))[k]? = some x -> ∃y,s.aGk[k]? = some y/\x.Key=y.Key/\(k≠i->x=y)/\(k=i->x.aE=r):=by intro k x hx;rw [List.getElem?_set] at hx;by_cases hk:i=k;(subst hk;rw [if_pos rfl,if_pos hi] at hx;cases hx;exact ⟨_,qF hi,rfl,λhh=>absurd rfl hh,λ_=>rfl⟩);·rw [if_neg hk] at hx;exact ⟨x,hx,rfl,λ_=>rfl,λhh=>absurd hh.symm hk⟩
 cases hr:cG r with
 | true =>
  refine WD (Of (λk x hx => ?_) (λk x y hx hy => ?_)) h2 (by show (s.aGk.set i _).length<=16;rw [qN];exact h3) h4 h5
  ·obtain ⟨y,hy,e1,e2,e3⟩:=key k x hx;obtain ⟨b1,b2⟩:=a1 k y hy;refine ⟨by rw [e1];exact b1,?_⟩;by_cases hk:k=i;(rw [e3 hk];exact hr);·rw [e2 hk];exact b2
  ·obtain ⟨x',hx',e1,_⟩:=key k x hx;obtain ⟨y',hy',e2,_⟩:=key (k+1) y hy;rw [e1,e2];exact a2 k x' y' hx' hy'
 | false =>
  cases hq:iI (⟨s.Name,s.aGk.set i (⟨s.aGk[i].Key,r⟩:M.aG1),s.aHD⟩:M.aD) with
  | false=>rfl
  | true =>
   have:=(H0 (yA hq).1).1 i _ (by show (s.aGk.set i _)[i]? = _;rw [List.getElem?_set,if_pos rfl,if_pos hi])
   simp only at this
   rw [hr] at this
   cases this.2
theorem Tw {s:M.aD} {k:M.Key} {r:M.aE} (h:iI s=true) (hk:CN k=true) (hr:cG r=true) (hf:kG (zQ k) s.aGk<0) (au:Int) (hau:0<=au/\au<=1000000) :
  iI (⟨s.Name,s.aGk.take (Dt s.aGk k)++([(⟨k,r⟩:M.aG1)]++s.aGk.drop (Dt s.aGk k)),au⟩:M.aD)=decide (s.aGk.length<16):=by
 obtain ⟨h1,h2,h3,h4,h5⟩:=yA h
 obtain ⟨a1,a2⟩:=H0 h1
 have hp:=Ny s.aGk k
 have hlen:(s.aGk.take (Dt s.aGk k)++([(⟨k,r⟩:M.aG1)]++s.aGk.drop (Dt s.aGk k))).length=s.aGk.length+1:=by simp only [qE,qT,qU,qJ,qK];omega
 have hall:(List.range (s.aGk.take (Dt s.aGk k)++([(⟨k,r⟩:M.aG1)]++s.aGk.drop (Dt s.aGk k))).length).all (Ca (s.aGk.take (Dt s.aGk k)++([(⟨k,r⟩:M.aG1)]++s.aGk.drop (Dt s.aGk k))))=true:=by
  refine Of (λj x hx => ?_) (λj x y hx hy => ?_)
  ·rw [Um hp] at hx;split at hx;(exact a1 j x hx);·split at hx;(cases hx;exact ⟨hk,hr⟩);·exact a1 _ x hx
  ·rw [Um hp] at hx hy
   by_cases c1:j+1<Dt s.aGk k
   ·rw [if_pos qb] at hx;rw [if_pos c1] at hy;exact a2 j x y hx hy
   ·rw [if_neg c1] at hy
    by_cases c2:j+1=Dt s.aGk k
    ·rw [if_pos c2] at hy
     rw [if_pos qb] at hx
     cases hy
     have hj:j<s.aGk.length:=by omega
     have:=Jx (f:=Jz k) (l:=s.aGk) j hj (by show j<Dt s.aGk k;omega)
     rw [qF hj] at hx
     cases hx
     unfold Jz at this
     simpa using this
    ·rw [if_neg c2] at hy
     by_cases c3:j=Dt s.aGk k
     ·rw [if_neg qb,if_pos c3] at hx
      cases hx
      rw [Nat.add_sub_cancel] at hy
      have hj:j<s.aGk.length:=(List.getElem?_eq_some_iff.1 hy).1
      have hj':(s.aGk.takeWhile (Jz k)).length<s.aGk.length:=by show Dt s.aGk k<_;omega
      have hat:=JI (f:=Jz k) hj'
      have e1:s.aGk[(s.aGk.takeWhile (Jz k)).length]=y:=by
       have:s.aGk[Dt s.aGk k]? = some y:=by rw [<-c3];exact hy
       exact (List.getElem?_eq_some_iff.1 this).2
      rw [e1] at hat
      unfold Jz at hat
      have hne:=IN hf y (by rw [<-e1];exact qG _)
      unfold zQ at hne
      exact VY (a1 j y hy).1 hk (by simpa using hat) hne
     ·rw [if_neg qb,if_neg c3] at hx;rw [show j+1-1=(j-1)+1 by omega] at hy;exact a2 (j-1) x y hx hy
 have e1:decide ((s.aGk.take (Dt s.aGk k)++([(⟨k,r⟩:M.aG1)]++s.aGk.drop (Dt s.aGk k))).length<=16)=decide (s.aGk.length<16):=decide_eq_decide.2 (by rw [hlen];omega)
 unfold iI inR
 rw [hall,h2,e1,decide_eq_true hau.1,decide_eq_true hau.2]
 simp
theorem UF {s:M.aD} {k:M.Key} {r:M.aE} {au:Int} (p:Nat) (hs:s.ok) (hl:s.aGk.length<=1073741824) (hk:k.ok) (hr:r.ok) (hau:inI au):M.aD.ok (⟨s.Name,s.aGk.take p++([(⟨k,r⟩:M.aG1)]++s.aGk.drop p),au⟩:M.aD):=
 ⟨hs.Name,⟨by show (s.aGk.take p++([(⟨k,r⟩:M.aG1)]++s.aGk.drop p)).length<=maxLen;unfold maxLen;simp only [qE,qT,qU,qJ,qK];omega,λy hy=>by have hy':y∈s.aGk.take p++([(⟨k,r⟩:M.aG1)]++s.aGk.drop p):=hy;simp only [qP,List.mem_cons,qO,or_false] at hy';rcases hy' with h | rfl | h;(exact hs.aGk.2 y (List.mem_of_mem_take h));(exact ⟨hk,hr⟩);·exact hs.aGk.2 y (List.mem_of_mem_drop h)⟩,hau⟩
theorem YS {s:M.aD} {r:M.aE} {i:Nat} (hi:i<s.aGk.length) (hs:s.ok) (hr:r.ok):M.aD.ok (⟨s.Name,s.aGk.set i (⟨s.aGk[i].Key,r⟩:M.aG1),s.aHD⟩:M.aD):=
 ⟨hs.Name,⟨by show (s.aGk.set i _).length<=maxLen;rw [qN];exact hs.aGk.1,λy hy=>by have hy':y∈s.aGk.set i (⟨s.aGk[i].Key,r⟩:M.aG1):=hy;rcases List.mem_or_eq_of_mem_set hy' with h | rfl;(exact hs.aGk.2 y h);·exact ⟨(hs.aGk.2 _ (qG hi)).Key,hr⟩⟩,hs.aHD⟩
theorem Tk {s:M.aD} {k:M.Key} (hs:s.ok) (hk:k.ok):inI (H7 s k):=by unfold H7;split;(exact hk.N);·exact hs.aHD
def tPS (s:M.aD) (k:M.Key) (r:M.aE) (j:Nat):Option (M.aD×Bool):=(An s.aGk (j:Int)).bind λ_=>((app 56 ([]:List M.aG1) (List.take (j:Int).toNat s.aGk)).bind λ_=>((cK r).bind λaa=>((app 56 (List.take (j:Int).toNat s.aGk) ([(⟨k,aa⟩:M.aG1)])).bind λ_=>((app 56 ((List.take (j:Int).toNat s.aGk)++[(⟨k,aa⟩:M.aG1)]) (List.drop (j:Int).toNat s.aGk)).bind λ_=>(if (k.aG7==1)=true then ((bA k.N (i64.wrap (s.aHD+1)) 1000000).bind λae=>(if ae=true then (some ((⟨s.Name,(((List.take (j:Int).toNat s.aGk)++[(⟨k,aa⟩:M.aG1)])++(List.drop (j:Int).toNat s.aGk)),k.N⟩:M.aD),true)) else (some ((⟨s.Name,(((List.take (j:Int).toNat s.aGk)++[(⟨k,aa⟩:M.aG1)])++(List.drop (j:Int).toNat s.aGk)),s.aHD⟩:M.aD),true)))) else (some ((⟨s.Name,(((List.take (j:Int).toNat s.aGk)++[(⟨k,aa⟩:M.aG1)])++(List.drop (j:Int).toNat s.aGk)),s.aHD⟩:M.aD),true)))))))
theorem zE {s:M.aD} {k:M.Key} {r:M.aE} (hs:s.ok) (hk:k.ok) (hr:r.ok) (hR:cG r=true) (hz:M.aD.sz s<=1073741824) (hzr:M.aE.sz r<=1073741824):eF s k r=some (CE s k r):=by
 have hl:s.aGk.length<=1073741824:=by simp only [M.aD.sz] at hz;omega
 have hp:=Ny s.aGk k
 unfold eF CE
 rw [zN hs,mI hk,pT hr,hR,nG s hz,Aq hs,BK r hzr]
 simp only [qA]
 cases hS:iI s with
 | false=>simp
 | true =>
  cases hK:CN k with
  | false=>simp
  | true =>
   simp only [qB,qD,if_false,if_true]
   by_cases h:kG (zQ k) s.aGk<0
   ·rw [if_neg qc,if_pos h]
    by_cases aa:s.aGk.length<16
    ·rw [if_neg qc,if_pos aa,NN (l:=s.aGk) (f:=Jz k) (L:=oY s k r s) (S:=tPS s k r) hs.aGk.1 (λm j hj => ?_) (λm => ?_)]
     ·show tPS s k r (Dt s.aGk k)=_
      obtain ⟨_,_,_,ha4,ha5⟩:=yA hS
      have ew:i64.wrap (s.aHD+1)=s.aHD+1:=bN qb qb
      have ei:inR k.N (s.aHD+1) 1000000=(decide (k.N>s.aHD)&&decide (k.N<=1000000)):=by unfold inR;congr 1
      unfold tPS
      rw [BG hp,qA,qH,Fe (by rw [qT];omega) qb,qA,BK r hzr,qA,dN qu,qA,dN qo,qA,qS,cF,qA,ew,ei]
      unfold Ov H7
      cases (k.aG7==1)<;>cases (decide (k.N>s.aHD)&&decide (k.N<=1000000))<;>rfl
     ·have hj':=hs.aGk.2 _ (qG hj);simp only [oY];rw [if_pos (aY hj),aK hj,qA,wG hj'.Key hk,qA,bD qb];rfl
     ·simp only [oY];rw [if_neg qk];rfl
    ·rw [if_pos qc,if_neg aa]
   ·obtain ⟨i,e,hi⟩:=fI h;rw [if_pos (by simpa using h),if_neg h,e,aK hi,qA,qH];unfold P8;rw [qF hi]
def kZ (s:M.aD) (k:M.Key):M.aE:=if kG (zQ k) s.aGk<0 then (⟨([]:List M.Field)⟩:M.aE) else (match s.aGk[(kG (zQ k) s.aGk).toNat]? with | some x=>x.aE | none=>(⟨([]:List M.Field)⟩:M.aE))
def Mz (s:M.aD) (w:M.bC):M.aD×Bool:=if (Jn (kZ s w.Key) w.Field w.N).2=true then CE s w.Key (Jn (kZ s w.Key) w.Field w.N).1 else (s,false)
theorem HF:M.aE.ok (⟨([]:List M.Field)⟩:M.aE):=⟨⟨by simp [maxLen],qd⟩⟩
theorem Hy {s:M.aD} {k:M.Key} (hs:s.ok):(kZ s k).ok:=by unfold kZ;split;(exact HF);·split;(rename_i x hx;exact (hs.aGk.2 x (List.mem_of_getElem? hx)).aE);·exact HF
theorem N9 (s:M.aD) (k:M.Key):M.aE.sz (kZ s k)<=M.aD.sz s:=by
 unfold kZ
 split
 ·simp [M.aE.sz,cX]
 ·split
  ·rename_i x hx
   have h1:=cO (f:=M.aG1.sz) (List.mem_of_getElem? hx)
   have h2:M.aE.sz x.aE<=M.aG1.sz x:=by simp only [M.aG1.sz];omega
   simp only [M.aD.sz]
   omega
  ·simp [M.aE.sz,cX]
end Go.Proofs.YtipmihbgjolaaaaGreat.gen
