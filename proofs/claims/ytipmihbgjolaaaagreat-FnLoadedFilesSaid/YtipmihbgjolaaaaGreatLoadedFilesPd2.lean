/-
  Helper text. No conditions.
-/
import Derived.Test.YtipmihbgjolaaaaGreatLoadedFilesPd1
set_option linter.unusedVariables false
set_option linter.unusedSimpArgs false
namespace Go.Proofs.YtipmihbgjolaaaaGreat.gen
open Go Go.Sh
open Go.IntKind (i64)
theorem Hd {p:M.aFG->M.aFG->Option Bool} {f:M.aFG->M.aFG->Bool} {xs ys:List M.aFG} (hx:xs.length<=maxLen) (hp : ∀x∈xs,∀y∈ys,p x y=some (f x y)):jZ xs ys p=some (eqL f xs ys):=by
 have hm:=le_max hx
 unfold jZ
 rw [DY (f:=f) hx (E:=some true) (λn k hk hk'=>by
  simp only [eC]
  rw [if_pos (aY hk),aK hk,aK hk',qA,qA,bE qb]
  rw [hp _ (qG hk) _ (qG hk'),qA,fX]) (λn=>by
  simp only [eC]
  rw [if_neg qk]),aZ,Bool.and_true]
theorem HT {a b:List Int} (ha:okB a) (hb:okB b):wP a b=some (eqL A0 a b):=by unfold wP;rw [Eb ha.2,Eb hb.2,qA,qA,OP ha.2 hb.2];rfl
theorem Dw {a b:List Int} (ha:okB a):sC a b=some (eqL A0 a b):=by unfold sC;rw [Oe ha.1,qA]
def E4 (x y:M.aE9):Bool:=(x.aFu==y.aFu)&&((x.aFm==y.aFm)&&((x.aE3==y.aE3)&&((x.aFz==y.aFz)&&eqL A0 x.aFw y.aFw)))
theorem EM {a b:M.aE9} (ha:a.ok):oT a b=some (E4 a b):=by simp only [oT,Dw ha.aFw,qA,aZ,Bw,yQ,E4];ac_rfl
def HR (x y:M.aFL):Bool:=(x.aFD.toList==y.aFD.toList)&&((x.aFo.toList==y.aFo.toList)&&E4 x.aE9 y.aE9)
def NM (x y:M.aFE):Bool:=(x.aE3==y.aE3)&&eqL HR x.aFK y.aFK
def He (x y:M.aE):Bool:=eqL NM x.aE6 y.aE6
theorem HN {a b:M.aFL} (ha:a.ok):pD a b=some (HR a b):=by simp only [pD,EM ha.aE9,qA,aZ,Bw,yQ,HR]
theorem Hg {a b:M.aFE} (ha:a.ok):pN a b=some (NM a b):=by simp only [pN,Hb (f:=HR) ha.aFK.1 (λx hx y hy=>HN (ha.aFK.2 x hx)),qA,aZ,Bw,yQ,NM]
theorem EL {a b:M.aE} (ha:a.ok):oN a b=some (He a b):=by simp only [oN,Io (f:=NM) ha.aE6.1 (λx hx y hy=>Hg (ha.aE6.2 x hx)),qA,aZ,Bw,yQ,He]
def Mp (x y:M.aD):Bool:=eqL JT x.aFA y.aFA
theorem GI {a b:M.aD} (ha:a.ok):sS a b=some (Mp a b):=by simp only [sS,MY ha.aFA.1,qA,Mp]
def Za (x y:M.Key):Bool:=((x.aFU==y.aFU)&&((x.N==y.N)&&(x.aFb.toList==y.aFb.toList)))
def RD (x y:M.aFP):Bool:=Za x.Key y.Key&&Mp x.aD y.aD
def Hc (x y:M.aC):Bool:=(x.Name.toList==y.Name.toList)&&((x.aFZ==y.aFZ)&&eqL RD x.aE7 y.aE7)
theorem Ix {a b:M.aFP} (ha:a.ok):sI a b=some (RD a b):=by simp only [sI,GI ha.aD,qA,aZ,Bw,yQ,RD,Za]
theorem Bg {a b:M.aC} (ha:a.ok):gQ a b=some (Hc a b):=by simp only [gQ,Js (f:=RD) ha.aE7.1 (λx hx y hy=>Ix (ha.aE7.2 x hx)),qA,aZ,Bw,yQ,Hc]
def EU (x y:M.aE5):Bool:=(x.Name.toList==y.Name.toList)&&((x.aE3==y.aE3)&&(eqL Hc x.aFH y.aFH&&eqL CP x.aFQ y.aFQ))
theorem Fq {a b:M.aE5} (ha:a.ok):oR a b=some (EU a b):=by simp only [oR,H4 (f:=Hc) ha.aFH.1 (λx hx y hy=>Bg (ha.aFH.2 x hx)),Ji ha.aFQ.1,qA,aZ,Bw,yQ,EU]
def Tb (x y:M.bV):Bool:=EU x.aFT y.aFT&&(eqL A0 x.Log y.Log&&(x.aFk==y.aFk))
theorem Ii {a b:M.bV} (ha:a.ok):wK a b=some (Tb a b):=by simp only [wK,Fq ha.aFT,Dw ha.Log,qA,aZ,Bw,yQ,Tb]
def KE (x y:M.aM):Bool:=(x.aFC==y.aFC)&&((x.aFd==y.aFd)&&eqL C2 x.aFO y.aFO)
theorem FL {a b:M.aM} (ha:a.ok):rO a b=some (KE a b):=by simp only [rO,G6 ha.aFO.1,qA,aZ,Bw,yQ,KE]
def Vu (x y:M.aFS):Bool:=KE x.aM y.aM&&((x.aFi==y.aFi)&&(x.aFX==y.aFX))
theorem Ig {a b:M.aFS} (ha:a.ok):xB a b=some (Vu a b):=by simp only [xB,FL ha.aM,qA,aZ,Bw,yQ,Vu]
def Hz (x y:M.aG):Bool:=Hc x.aFT y.aFT&&((x.aFq==y.aFq)&&Vu x.aFS y.aFS)
theorem FM {a b:M.aG} (ha:a.ok):rF a b=some (Hz a b):=by simp only [rF,Bg ha.aFT,Ig ha.aFS,qA,aZ,Bw,yQ,Hz]
def aAC (x y:M.aE4):Bool:=((x.aFD.toList==y.aFD.toList)&&((x.aFY==y.aFY)&&((x.aFg==y.aFg)&&(x.aFl==y.aFl))))
def IA (x y:M.aJ):Bool:=(x.aFD.toList==y.aFD.toList)&&((x.Top.toList==y.Top.toList)&&(aAC x.aE4 y.aE4&&(He x.aE6 y.aE6&&(Tb x.bV y.bV&&(Hz x.aG y.aG&&((x.aFf==y.aFf)&&(x.aFc==y.aFc)))))))
theorem Gx {a b:M.aJ} (ha:a.ok):nV a b=some (IA a b):=by simp only [nV,EL ha.aE6,Ii ha.bV,FM ha.aG,qA,aZ,Bw,yQ,IA,aAC]
def JN (x y:M.aA):Bool:=eqL IA x.aE8 y.aE8
theorem FO {a b:M.aA} (ha:a.ok):rJ a b=some (JN a b):=by simp only [rJ,Hk (f:=IA) ha.aE8.1 (λx hx y hy=>Gx (ha.aE8.2 x hx)),qA,aZ,Bw,yQ,JN]
def JJ (x y:M.aFI):Bool:=eqL HP x.aFn y.aFn&&((x.Pc==y.Pc)&&(eqL Ng x.aFv y.aFv&&((x.aFs==y.aFs)&&((x.aF1==y.aF1)&&(x.aF3==y.aF3)))))
theorem FJ {a b:M.aFI} (ha:a.ok):rE a b=some (JJ a b):=by simp only [rE,Na ha.aFn.1,OX ha.aFv.1,qA,aZ,Bw,yQ,JJ]
def OQ (x y:M.bC):Bool:=(x.Id==y.Id)&&((x.aFD.toList==y.aFD.toList)&&((x.Top.toList==y.Top.toList)&&((x.aE3==y.aE3)&&(eqL EG x.aU y.aU&&JJ x.aFI y.aFI))))
theorem Jk {a b:M.bC} (ha:a.ok):gC a b=some (OQ a b):=by simp only [gC,Lh ha.aU.1,FJ ha.aFI,qA,aZ,Bw,yQ,OQ]
def GG (x y:M.aFG):Bool:=Hc x.aC y.aC&&(eqL Dz x.aO y.aO&&eqL C2 x.aFV y.aFV)
theorem Gq {a b:M.aFG} (ha:a.ok):oE a b=some (GG a b):=by simp only [oE,Bg ha.aC,KA ha.aO.1,G6 ha.aFV.1,qA,aZ,Bw,yQ,GG]
def Px (x y:M.aFD):Bool:=(x.Name.toList==y.Name.toList)&&((x.aE3==y.aE3)&&(eqL Fe x.aFe y.aFe&&(x.aFj==y.aFj)))
theorem IF {a b:M.aFD} (ha:a.ok):nQ a b=some (Px a b):=by simp only [nQ,Lw ha.aFe.1,qA,aZ,Bw,yQ,Px]
def QG (x y:M.World):Bool:=(x.Now==y.Now)&&((x.aFW==y.aFW)&&((x.aFC==y.aFC)&&(JN x.aA y.aA&&(eqL OQ x.aFF y.aFF&&((x.aFJ==y.aFJ)&&(eqL K0 x.aFM.aFM y.aFM.aFM&&(eqL Kp x.aFB.aFa y.aFB.aFa&&(eqL Px x.aFR y.aFR&&eqL GG x.aFN y.aFN))))))))
theorem C7 {a b:M.World} (ha:a.ok):pJ a b=some (QG a b):=by simp only [pJ,FO ha.aA,Jq (f:=OQ) ha.aFF.1 (λx hx y hy=>Jk (ha.aFF.2 x hx)),ND ha.aFM.aFM.1,Nt ha.aFB.aFa.1,Jw (f:=Px) ha.aFR.1 (λx hx y hy=>IF (ha.aFR.2 x hx)),Hd (f:=GG) ha.aFN.1 (λx hx y hy=>Gq (ha.aFN.2 x hx)),qA,aZ,Bw,yQ,QG]
theorem CY {l:List Int} (hl:l.length<=1048576):pO l=some ([(List.length l:Int)]++l.map i64.wrap):=by unfold pO;have:=Pk (b:=8) (xs:=l) (f:=i64.wrap) (L:=hH l) (λn k hk r => ?_) (λn r => ?_) fuel 0 ([(List.length l:Int)]) qi qb qc;(simpa using this);(simp only [hH];rw [if_pos (aY hk),aK hk,qA,bE qb]);·simp only [hH];rw [if_neg qk]
theorem Hi {l:List Int} (hl:l.length<=1048576):vC l=some ([(List.length l:Int)]++l.map i64.wrap):=by unfold vC;have:=Pk (b:=8) (xs:=l) (f:=i64.wrap) (L:=iC l) (λn k hk r => ?_) (λn r => ?_) fuel 0 ([(List.length l:Int)]) qi qb qc;(simpa using this);(simp only [iC];rw [if_pos (aY hk),aK hk,qA,bE qb]);·simp only [iC];rw [if_neg qk]
theorem QY (x:Int):Dm x 2147483647=some (OJ x):=by
 have e:bA 2147483647 1 1000000000000=some true:=by decide
 unfold Dm
 rw [e,qA,if_neg qd,if_neg qd,UH]
theorem Rm (x:Int):DM x 2147483647=some (OJ x):=by
 have e:bB 2147483647 1 1000000000000=some true:=by decide
 unfold DM
 rw [e,qA,if_neg qd,if_neg qd,VR]
theorem Ku {l:List Int} (hl:l.length<=maxLen):BC l=some (GA l):=by have hm:=le_max hl;unfold BC GA;refine Gc (L:=vO l) (E:=some) hl (λn v k hk => ?_) (λn v => ?_) 11;(simp only [vO];rw [if_pos (aY hk),aK hk,qA,QY,qA,bE qb];rfl);·simp only [vO];rw [if_neg qk]
theorem Ei {k:Int} {l:List Int} (hl:l.length<=2000000):uB k l=some (GA (([k]++l)++[k])):=by unfold uB;rw [dH qc,qA,dH qc,qA,Ku (by simp [maxLen];omega),qA]
theorem OY {l:List Int} (hl:l.length<=maxLen):CM l=some (GA l):=by have hm:=le_max hl;unfold CM GA;refine Gc (L:=vW l) (E:=some) hl (λn v k hk => ?_) (λn v => ?_) 11;(simp only [vW];rw [if_pos (aY hk),aK hk,qA,Rm,qA,bE qb];rfl);·simp only [vW];rw [if_neg qk]
theorem Ev {k:Int} {l:List Int} (hl:l.length<=2000000):uD k l=some (GA (([k]++l)++[k])):=by unfold uD;rw [dH qc,qA,dH qc,qA,OY (by simp [maxLen];omega),qA]
def EW (k:Int) (s:ByteArray):Int:=if GA (([k]++([(List.length (bO s):Int)]++(bO s).map i64.wrap))++[k])=0 then 1 else GA (([k]++([(List.length (bO s):Int)]++(bO s).map i64.wrap))++[k])
theorem GS {k:Int} {s:ByteArray} (hs:s.size<=1048576):iQ k s=some (EW k s):=by have hl:=aP s;unfold iQ CC EW;rw [CY qb,qA,Ei qc,qA];have:=O4 (([k]++([(List.length (bO s):Int)]++(bO s).map i64.wrap))++[k]);generalize GA (([k]++([(List.length (bO s):Int)]++(bO s).map i64.wrap))++[k])=h at *;by_cases h0:h=0;(rw [if_neg qc,if_pos h0];rfl);·rw [if_neg h0];by_cases h1:h=1;(rw [if_neg qc,h1];rfl);·rw [if_pos qc];rfl
theorem Hv {k:Int} {s:ByteArray} (hs:s.size<=1048576):iZ k s=some (EW k s):=by have hl:=aP s;unfold iZ EW;rw [Hi qb,qA,Ev qc,qA];generalize GA (([k]++([(List.length (bO s):Int)]++(bO s).map i64.wrap))++[k])=h;by_cases h0:h=0;(rw [if_pos (by simp [h0]),if_pos h0]);·rw [if_neg (by simp [h0]),if_neg h0]
theorem NS {x:Int} (h0:0<=x) (h1:x<2147483647) : ∀(n:Nat) (v:Int) (r:List Int),tX x n v r=eV x n v r
 | 0,_,_=>rfl
 | n+1,v,r=>by simp only [tX,eV,Xp h0 h1,NS h0 h1 n]
theorem XU (x:Int) : ∃l,eV x fuel 5 ([]:List Int)=some l/\okB l:=by
 have st : ∀n (v:Nat) r,r.length<=7->(∀y∈r,0<=y/\y<=255)->v<=5 -> ∃y:Int,(0<=y/\y<=255)/\eV x (n+1) (v:Int) r=eV x n ((v:Int)-1) (r++[y]):=by intro n v r hr hy hv;refine ⟨IntKind.u8.wrap (Int.fdiv x (2^(min (i64.wrap (8*(v:Int))).toNat IntKind.i64.bits))),by rw [wrap_u8];omega,?_⟩;simp only [eV];rw [if_pos qd,if_pos (by rw [bL qb qb];simp;omega),dH qc,qA,bL (n:=(v:Int)-1) qb qb]
 have e7 : ∀n r,eV x (n+1) (-1) r=some r:=by intro n r;simp only [eV];rw [if_neg qe]
 rw [Vn]
 obtain ⟨x1,b1,e1⟩:=st (18446744073709551609+6) 5 [] qd qd qd
 obtain ⟨x2,b2,e2⟩:=st (18446744073709551609+5) 4 ([]++[x1]) qd (by simpa using b1) qd
 obtain ⟨x3,b3,e3⟩:=st (18446744073709551609+4) 3 ([]++[x1]++[x2]) qd (by simpa using ⟨b1,b2⟩) qd
 obtain ⟨x4,b4,e4⟩:=st (18446744073709551609+3) 2 ([]++[x1]++[x2]++[x3]) qd (by simpa using ⟨b1,b2,b3⟩) qd
 obtain ⟨x5,b5,e5⟩:=st (18446744073709551609+2) 1 ([]++[x1]++[x2]++[x3]++[x4]) qd (by simpa using ⟨b1,b2,b3,b4⟩) qd
 obtain ⟨x6,b6,e6⟩:=st (18446744073709551609+1) 0 ([]++[x1]++[x2]++[x3]++[x4]++[x5]) qd (by simpa using ⟨b1,b2,b3,b4,b5⟩) qd
 exact ⟨_,(e1.trans (e2.trans (e3.trans (e4.trans (e5.trans (e6.trans (e7 _ _))))))),by simp [maxLen],by simpa using ⟨b1,b2,b3,b4,b5,b6⟩⟩
theorem U0 {t:M.aFD} {f:ByteArray} {v:Int} (h1:t.Name.size<=1048576) (h2:f.size<=1048576) : ∃l,Bc t f v=some l/\Bk t f v=some l/\okB l:=by unfold Bc Bk;rw [GS h1,Hv h1,qA,qA,GS h2,Hv h2,qA,qA,Ei qd,Ev qd,qA,qA];have hb:=O4 (([i64.wrap (1+v)]++[103,EW 107 t.Name,EW 109 f])++[i64.wrap (1+v)]);rw [NS hb.1 hb.2];obtain ⟨l,e,hl⟩:=XU (GA (([i64.wrap (1+v)]++[103,EW 107 t.Name,EW 109 f])++[i64.wrap (1+v)]));exact ⟨l,e,e,hl⟩
theorem MZ {α R:Type} {l:List α} {f:α->Bool} {L:Nat->Int->Option R} {S:Nat->Option R} (hl:l.length<=maxLen)
  (h1 : ∀n (k:Nat) (hk:k<l.length),L (n+1) (k:Int)=if f l[k]=true then L n ((k+1:Nat):Int) else S k) (h2 : ∀n,L (n+1) (l.length:Int)=S l.length):L fuel 0=S (l.takeWhile f).length:=by
 have hm:=le_max hl
 have key : ∀(n k:Nat),l.length-k<n->k<=l.length->L n (k:Int)=S (k+((l.drop k).takeWhile f).length):=by
  intro n
  induction n with
  | zero=>intro k h _;omega
  | succ n ih =>
   intro k hn hk
   rcases Nat.lt_or_ge k l.length with h | h
   ·rw [h1 n k h,qV h,List.takeWhile_cons];by_cases hf:f l[k]=true;(rw [if_pos hf,if_pos hf,ih (k+1) qb h,qJ];congr 1;omega);·rw [if_neg hf,if_neg hf];simp
   ·have:k=l.length:=by omega
    subst this
    rw [h2 n]
    simp
 have:=key fuel 0 qi qb
 simpa using this
def Vo (s:M.aA) (b:M.aJ):Nat:=(s.aE8.takeWhile (λx=>DZ x b)).length
theorem Pp (s:M.aA) (b:M.aJ):Vo s b<=s.aE8.length:=(List.takeWhile_prefix _).length_le
def Cq (s:M.aA) (b:M.aJ):List M.aJ:=if lA (nAt b.aFD b.Top) s.aE8>=0 then s.aE8.set (lA (nAt b.aFD b.Top) s.aE8).toNat b else s.aE8.take (Vo s b)++([b]++s.aE8.drop (Vo s b))
def Lg (s:M.aA) (l:List M.aJ):M.aA×Bool:=if rT s=true then (if rT (⟨l⟩:M.aA)=true then ((⟨l⟩:M.aA),true) else (s,false)) else (s,false)
def Jz (s:M.aA) (b:M.aJ):M.aA×Bool:=Lg s (Cq s b)
theorem HK {s:M.aA} {b x:M.aJ} (h:x∈Cq s b):x=b\/x∈s.aE8:=by unfold Cq at h;split at h;(rcases List.mem_or_eq_of_mem_set h with h | h;(exact .inr h);·exact .inl h);·simp only [qP,List.mem_cons,qO,or_false] at h;rcases h with h | h | h;(exact .inr (List.mem_of_mem_take h));(exact .inl h);·exact .inr (List.mem_of_mem_drop h)
theorem GP (s:M.aA) (b:M.aJ):(Cq s b).length<=s.aE8.length+1:=by have:=Pp s b;unfold Cq;split;(simp);·simp only [qE,qT,qJ,qK,qU];omega
theorem Ft {α:Type} {f:α->Nat} {x:α} : ∀ {l:List α} {i:Nat},dG f (l.set i x)<=dG f l+f x
 | [],_=>by simp [dG]
 | y::l,0=>by simp only [List.set_cons_zero,dG];omega
 | y::l,i+1=>by have:=Ft (f:=f) (x:=x) (l:=l) (i:=i);simp only [List.set_cons_succ,dG];omega
theorem xS {α:Type} {f:α->Nat} : ∀(l r:List α),dG f (l++r)=dG f l+dG f r
 | [],r=>by simp [dG]
 | y::l,r=>by simp only [List.cons_append,dG,xS l r];omega
theorem QP (s:M.aA) (b:M.aJ):dG M.aJ.sz (Cq s b)<=dG M.aJ.sz s.aE8+M.aJ.sz b:=by unfold Cq;split;(exact Ft);·rw [xS,xS];have:=xS (f:=M.aJ.sz) (s.aE8.take (Vo s b)) (s.aE8.drop (Vo s b));rw [List.take_append_drop] at this;simp only [dG];omega
theorem Sq {s:M.aA} (hz:M.aA.sz s<=1048576) : ∀x∈s.aE8,M.aJ.sz x<=1048576:=λx hx=>by have:=dV (f:=M.aJ.sz) hx;simp only [M.aA.sz] at hz;omega
theorem P3 {s:M.aA} {b:M.aJ} (hs:s.ok) (hb:b.ok) (hz:M.aA.sz s<=1048576):M.aA.ok (⟨Cq s b⟩:M.aA):=
 ⟨⟨by show (Cq s b).length<=maxLen;have:=GP s b;simp only [M.aA.sz] at hz;unfold maxLen;omega,λx hx=>by rcases HK hx with rfl | h;(exact hb);·exact hs.aE8.2 x h⟩⟩
theorem Oz {s:M.aA} {b:M.aJ} (hz:M.aA.sz s<=1048576) (zb:M.aE5.sz b.bV.aFT<=1048576) : ∀x∈Cq s b,M.aE5.sz x.bV.aFT<=1048576:=λx hx=>by rcases HK hx with rfl | h;(exact zb);·exact DC (Sq hz x h)
theorem R0 {s:M.aA} {b:M.aJ} (hs:s.ok) (hb:b.ok) (hz:M.aA.sz s<=1048576):M.aA.ok (Jz s b).1:=by unfold Jz Lg;split;(split;(exact P3 hs hb hz);·exact hs);·exact hs
theorem W8 (s:M.aA) (b:M.aJ):M.aA.sz (Jz s b).1<=M.aA.sz s+M.aJ.sz b+1:=by have h1:=GP s b;have h2:=QP s b;unfold Jz Lg;simp only [M.aA.sz];split;(split<;>simp only<;>omega);·simp only;omega
theorem PO {s:M.aA} {l:List M.aJ} (hs:s.ok) (hz:M.aA.sz s<=1048576) (hl:M.aA.ok (⟨l⟩:M.aA)) (zl : ∀x∈l,M.aE5.sz x.bV.aFT<=1048576) :
  ((cH s).bind λae=>(if (!ae)=true then ((some s).bind λaf=>(some (af,false))) else ((cH (⟨l⟩:M.aA)).bind λah=>(if (!ah)=true then ((some s).bind λaa=>(some (aa,false))) else (some ((⟨l⟩:M.aA),true))))))=some (Lg s l):=by
 rw [JD hs hz,qA,Bx hl zl]
 unfold Lg
 cases rT s
 ·simp
 ·cases rT (⟨l⟩:M.aA)<;>simp
def tS (s:M.aA) (b:M.aJ) (k:Nat):Option (M.aA×Bool):=(Ap s.aE8 (k:Int)).bind λ_=>((app 328 ([]:List M.aJ) (List.take (k:Int).toNat s.aE8)).bind λ_=>((lV b).bind λaa=>((app 328 (List.take (k:Int).toNat s.aE8) ([aa])).bind λ_=>((app 328 ((List.take (k:Int).toNat s.aE8)++[aa]) (List.drop (k:Int).toNat s.aE8)).bind λ_=>((cH s).bind λaf=>(if (!af)=true then ((fB s).bind λah=>(some (ah,false))) else ((cH (⟨(((List.take (k:Int).toNat s.aE8)++[aa])++(List.drop (k:Int).toNat s.aE8))⟩:M.aA)).bind λai=>(if (!ai)=true then ((fB s).bind λae=>(some (ae,false))) else (some ((⟨(((List.take (k:Int).toNat s.aE8)++[aa])++(List.drop (k:Int).toNat s.aE8))⟩:M.aA),true))))))))))
theorem Dy {s:M.aA} {b:M.aJ} (hs:s.ok) (hb:b.ok) (hz:M.aA.sz s<=1048576) (zc:M.aJ.sz b<=1073741824) (zb:M.aE5.sz b.bV.aFT<=1048576):iI s b=some (Jz s b):=by
 have hm:=le_max hs.aE8.1
 have hlen:s.aE8.length<=1048576:=by simp only [M.aA.sz] at hz;omega
 have ok:=P3 hs hb hz
 have all:=Oz (s:=s) hz zb
 have hle:=Pp s b
 unfold iI Jz
 rw [Df s qb,qA,wB hs,qA]
 by_cases h:lA (nAt b.aFD b.Top) s.aE8>=0
 ·obtain ⟨j,hj,hlt⟩:=gD (show ¬lA (nAt b.aFD b.Top) s.aE8<0 by omega)
  have e:Cq s b=s.aE8.set (lA (nAt b.aFD b.Top) s.aE8).toNat b:=by unfold Cq;rw [if_pos h]
  rw [if_pos (by simpa using h),BR b qb,qA]
  rw [e] at ok all ⊢
  rw [hj] at ok all ⊢
  rw [aK hlt,qA]
  exact PO hs hz ok all
 ·have e:Cq s b=s.aE8.take (Vo s b)++([b]++s.aE8.drop (Vo s b)):=by unfold Cq;rw [if_neg h]
  rw [if_neg (by simpa using h),MZ (l:=s.aE8) (f:=λx=>DZ x b) (L:=kU s b s) (S:=tS s b) hs.aE8.1 (λn k hk => ?_) (λn => ?_)]
  ·show tS s b (Vo s b)=_;unfold tS;rw [Cb hle,qA,qH,EC qc qb,qA,BR b qb,qA,dH qu,qA,dH qo,qA,qS,<-e];rw [Df s qb];exact PO hs hz ok all
  ·simp only [kU];rw [if_pos (aY hk),aK hk,qA,Ga,qA,bE qb];rfl
  ·simp only [kU];rw [if_neg qk];rfl
theorem Ju {s:M.aA} {b:M.aJ} (hs:s.ok) (hb:b.ok) (hz:M.aA.sz s<=1048576) (zb:M.aJ.sz b<=1048576):iI s b=some (Jz s b):=Dy hs hb hz qb (DC zb)
theorem JX {α:Type} {l:List α} {k:Nat} (h:k<=l.length):B5 l (k:Int)=some (l.drop k):=by unfold B5;rw [if_pos ⟨qb,by simpa using h⟩];simp
theorem Me : ∀ {a b c:List UInt8},Op.bytesLess a b=true->Op.bytesLess b c=true->Op.bytesLess a c=true
 | [],[],_,h,_=>by cases h
 | _::_,[],_,h,_=>by cases h
 | _,_::_,[],_,h=>by cases h
 | [],_::_,_::_,_,_=>rfl
 | x::a,y::b,z::c,h1,h2=>by
  have e1:Op.bytesLess (x::a) (y::b)=(decide (x<y)||((x==y)&&Op.bytesLess a b)):=rfl
  have e2:Op.bytesLess (y::b) (z::c)=(decide (y<z)||((y==z)&&Op.bytesLess b c)):=rfl
  have e3:Op.bytesLess (x::a) (z::c)=(decide (x<z)||((x==z)&&Op.bytesLess a c)):=rfl
  rw [e1,Bool.or_eq_true,qM,qL,UInt8.lt_iff_toNat_lt] at h1
  rw [e2,Bool.or_eq_true,qM,qL,UInt8.lt_iff_toNat_lt] at h2
  rw [e3,Bool.or_eq_true,qM,qL,UInt8.lt_iff_toNat_lt]
  rcases h1 with h1 | ⟨h1,h1'⟩<;>rcases h2 with h2 | ⟨h2,h2'⟩
  ·exact .inl qb
  ·exact .inl (by rw [<-eq_of_beq h2];exact h1)
  ·exact .inl (by rw [eq_of_beq h1];exact h2)
  ·exact .inr ⟨by rw [eq_of_beq h1];exact h2,Me h1' h2'⟩
theorem Hl {α:Type} {f:α->Bool} : ∀ {l:List α} {k:Nat},(∀(j:Nat) (hj:j<l.length),j<k->f l[j]=true)->(∀(hk:k<l.length),f l[k]=false)->k<=l.length->(l.takeWhile f).length=k
 | [],k,_,_,h=>by simp at h;simp [h]
 | x::l,0,_,h,_=>by have:=h qd;simp only [List.getElem_cons_zero] at this;rw [List.takeWhile_cons,if_neg (by rw [this];simp)];rfl
 | x::l,k+1,h1,h2,h3=>by have:=h1 0 qd qb;simp only [List.getElem_cons_zero] at this;rw [List.takeWhile_cons,if_pos this,qJ,Hl (k:=k) (λj hj hjk => ?_) (λhk => ?_) (by simpa using h3)];(have:=h1 (j+1) qc qb;simpa using this);·have:=h2 qc;simpa using this
theorem IT {α:Type} {f:α->Bool} : ∀ {l:List α} (j:Nat) (hj:j<l.length),j<(l.takeWhile f).length->f l[j]=true
 | [],j,hj,_=>by simp at hj
 | x::l,j,hj,h=>by
  rw [List.takeWhile_cons] at h
  split at h
  ·rename_i hx
   cases j with
   | zero=>exact hx
   | succ j=>exact IT j (by simpa using hj) (by simpa using h)
  ·simp at h
theorem I9 {α:Type} {f:α->Bool} : ∀ {l:List α} (hk:(l.takeWhile f).length<l.length),f (l[(l.takeWhile f).length])=false
 | [],hk=>by simp at hk
 | x::l,hk=>by
  cases hx:f x with
  | false=>simp [List.takeWhile_cons,hx]
  | true =>
   have hk':(l.takeWhile f).length<l.length:=by rw [List.takeWhile_cons,if_pos hx] at hk;simpa using hk
   have:=I9 hk'
   simpa [List.takeWhile_cons,hx] using this
theorem BG {α:Type} {f:α->Bool} {l:List α} {k:Nat} (h:lA f l=(k:Int)) : ∃hk:k<l.length,f l[k]=true:=by
 unfold lA at h
 cases e:l.findIdx? f with
 | none=>rw [e] at h;simp only at h;omega
 | some i =>
  rw [e] at h
  simp only at h
  have:i=k:=by omega
  subst this
  obtain ⟨h1,h2,_⟩:=List.findIdx?_eq_some_iff_getElem.1 e
  exact ⟨h1,h2⟩
theorem H8 {α:Type} {f:α->Bool} {l:List α} (h:lA f l<0) : ∀x∈l,f x=false:=by
 have h2:=Ho f l
 rw [decide_eq_false qb] at h2
 intro x hx
 cases hf:f x with
 | false=>rfl
 | true =>
  have:l.any f=true:=List.any_eq_true.2 ⟨x,hx,hf⟩
  rw [<-h2] at this
  cases this
theorem Ta {r:M.aD} (h:bW r=true) (k:Nat) (hk:k+1<r.aFA.length):Op.bytesLess r.aFA[k].Name.toList r.aFA[k+1].Name.toList=true:=by unfold bW at h;rw [qM,qQ] at h;have:=h.1 (k+1) (List.mem_range.2 hk);unfold DW at this;rw [qF hk,Nat.add_sub_cancel,qF (show k<r.aFA.length by omega)] at this;simp only [Option.any_some,qM] at this;simpa using this.2
theorem Wx {r:M.aD} (h:bW r=true) : ∀(d i:Nat) (hj:i+d+1<r.aFA.length),Op.bytesLess r.aFA[i].Name.toList r.aFA[i+d+1].Name.toList=true
 | 0,i,hj=>Ta h i hj
 | d+1,i,hj=>Me (Wx h d i qb) (Ta h (i+d+1) hj)
def Qr (a:ByteArray) (x:M.Field):Bool:=Op.bytesLess x.Name.toList a.toList
def Of (l:List M.Field) (a:ByteArray):Nat:=(l.takeWhile (Qr a)).length
theorem Vl (l:List M.Field) (a:ByteArray):Of l a<=l.length:=(List.takeWhile_prefix _).length_le
theorem ON {r:M.aD} {a:ByteArray} (h:bW r=true) {k:Nat} (hk:k<r.aFA.length) (hf:pH a r.aFA[k]=true):Of r.aFA a=k:=by
 have e:r.aFA[k].Name.toList=a.toList:=eq_of_beq hf
 refine Hl (λj hj hjk => ?_) (λ_ => ?_) qb
 ·unfold Qr
  rw [<-e]
  have:=Wx h (k-j-1) j qb
  have e2:j+(k-j-1)+1=k:=by omega
  simp only [e2] at this
  exact this
 ·unfold Qr;rw [e];exact Kz _
def Pn (r:M.aD) (a:ByteArray) (n:Int):List M.Field:=if lA (pH a) r.aFA<0 then r.aFA.take (Of r.aFA a)++([(⟨a,n⟩:M.Field)]++r.aFA.drop (Of r.aFA a))
 else (match r.aFA[(lA (pH a) r.aFA).toNat]? with | some x=>r.aFA.set (lA (pH a) r.aFA).toNat (⟨x.Name,n⟩:M.Field) | none=>r.aFA)
def Mo (r:M.aD) (l:List M.Field):M.aD×Bool:=if bW r=true then (if bW (⟨l⟩:M.aD)=true then ((⟨l⟩:M.aD),true) else (r,false)) else (r,false)
def IH (r:M.aD) (a:ByteArray) (n:Int):M.aD×Bool:=Mo r (Pn r a n)
theorem FE {r:M.aD} (h:bW r=false) (l:List M.Field):Mo r l=(r,false):=by unfold Mo;rw [h,if_neg qd]
theorem Wi {r:M.aD} {a:ByteArray} {n:Int} (k:Nat) (hr:r.ok) (hl:r.aFA.length<=1073741824) (ha:a.size<=maxLen) (hn:inI n):M.aD.ok (⟨r.aFA.take k++([(⟨a,n⟩:M.Field)]++r.aFA.drop k)⟩:M.aD):=
 ⟨⟨by show (r.aFA.take k++([(⟨a,n⟩:M.Field)]++r.aFA.drop k)).length<=maxLen;unfold maxLen;simp only [qE,qT,qU,qJ,qK];omega,λy hy=>by have hy':y∈r.aFA.take k++([(⟨a,n⟩:M.Field)]++r.aFA.drop k):=hy;simp only [qP,List.mem_cons,qO,or_false] at hy';rcases hy' with h | rfl | h;(exact hr.aFA.2 y (List.mem_of_mem_take h));(exact ⟨ha,hn⟩);·exact hr.aFA.2 y (List.mem_of_mem_drop h)⟩⟩
theorem Td {r:M.aD} {n:Int} {k:Nat} (hk:k<r.aFA.length) (hr:r.ok) (hn:inI n):M.aD.ok (⟨r.aFA.set k (⟨r.aFA[k].Name,n⟩:M.Field)⟩:M.aD):=
 ⟨⟨by show (r.aFA.set k _).length<=maxLen;rw [qN];exact hr.aFA.1,λy hy=>by have hy':y∈r.aFA.set k (⟨r.aFA[k].Name,n⟩:M.Field):=hy;rcases List.mem_or_eq_of_mem_set hy' with h | rfl;(exact hr.aFA.2 y h);·exact ⟨(hr.aFA.2 _ (qG hk)).Name,hn⟩⟩⟩
theorem LH {r:M.aD} {l:List M.Field} (hr:r.ok) (hz:M.aD.sz r<=1073741824) (hl:M.aD.ok (⟨l⟩:M.aD)) :
  ((bJ r).bind λx=>(if (!x)=true then ((cC r).bind λy=>(some (y,false))) else ((bJ (⟨l⟩:M.aD)).bind λz=>(if (!z)=true then ((cC r).bind λy=>(some (y,false))) else (some ((⟨l⟩:M.aD),true))))))=some (Mo r l):=by
 rw [oY hr,qA,Bf r hz,oY hl]
 unfold Mo
 cases bW r
 ·simp
 ·cases bW (⟨l⟩:M.aD)<;>simp
def tFA (r:M.aD) (a:ByteArray) (n:Int) (k:Nat):Option (M.aD×Bool):=(idx r.aFA (k:Int)).bind λaa=>((bJ r).bind λae=>(if (!ae)=true then ((cC r).bind λaf=>(some (af,false))) else ((bJ (⟨(List.set r.aFA (k:Int).toNat (⟨aa.Name,n⟩:M.Field))⟩:M.aD)).bind λah=>(if (!ah)=true then ((cC r).bind λai=>(some (ai,false))) else (some ((⟨(List.set r.aFA (k:Int).toNat (⟨aa.Name,n⟩:M.Field))⟩:M.aD),true))))))
def tFB (r:M.aD) (a:ByteArray) (n:Int) (k:Nat):Option (M.aD×Bool):=(Ap r.aFA (k:Int)).bind λ_=>((app 24 ([]:List M.Field) (List.take (k:Int).toNat r.aFA)).bind λ_=>((app 24 (List.take (k:Int).toNat r.aFA) ([(⟨a,n⟩:M.Field)])).bind λ_=>((B5 r.aFA (k:Int)).bind λ_=>((app 24 ((List.take (k:Int).toNat r.aFA)++[(⟨a,n⟩:M.Field)]) (List.drop (k:Int).toNat r.aFA)).bind λ_=>((bJ r).bind λaa=>(if (!aa)=true then ((cC r).bind λae=>(some (ae,false))) else ((bJ (⟨(((List.take (k:Int).toNat r.aFA)++[(⟨a,n⟩:M.Field)])++(List.drop (k:Int).toNat r.aFA))⟩:M.aD)).bind λaf=>(if (!af)=true then ((cC r).bind λah=>(some (ah,false))) else (some ((⟨(((List.take (k:Int).toNat r.aFA)++[(⟨a,n⟩:M.Field)])++(List.drop (k:Int).toNat r.aFA))⟩:M.aD),true))))))))))
def tFS (r:M.aD) (a:ByteArray) (n:Int) (k:Nat):Option (M.aD×Bool):=match r.aFA[k]? with | some x=>if (x.Name.toList==a.toList)=true then tFA r a n k else tFB r a n k | none=>tFB r a n k
theorem Wu {r:M.aD} {a:ByteArray} {n:Int} {k:Nat} (hk:k<=r.aFA.length) (hr:r.ok) (hz:M.aD.sz r<=1073741824) (ha:a.size<=maxLen) (hn:inI n):tFB r a n k=some (Mo r (r.aFA.take k++([(⟨a,n⟩:M.Field)]++r.aFA.drop k))):=by
 have hl:r.aFA.length<=1073741824:=by simp only [M.aD.sz] at hz;omega
 unfold tFB
 rw [Cb hk,qA,qH,EC (by rw [qT];omega) qb,qA,dH qu,qA,JX hk,qA,dH qo,qA,qS]
 exact LH hr hz (Wi k hr hl ha hn)
theorem A7 {r:M.aD} {a:ByteArray} {n:Int} (hr:r.ok) (hz:M.aD.sz r<=1073741824) (ha:a.size<=maxLen) (hn:inI n):iF r a n=some (IH r a n):=by
 have hl:r.aFA.length<=1073741824:=by simp only [M.aD.sz] at hz;omega
 have hp:=Vl r.aFA a
 unfold iF
 rw [Bf r hz,qA,MZ (l:=r.aFA) (f:=Qr a) (L:=lZ r a n r) (S:=tFS r a n) hr.aFA.1 (λm k hk => ?_) (λm => ?_)]
 ·show tFS r a n (Of r.aFA a)=_
  unfold tFS IH
  rcases Nat.lt_or_ge (Of r.aFA a) r.aFA.length with h | h
  ·rw [qF h]
   simp only
   by_cases hf:(r.aFA[Of r.aFA a].Name.toList==a.toList)=true
   ·rw [if_pos hf]
    unfold tFA
    rw [aK h,qA,qH,LH hr hz (Td h hr hn)]
    cases hR:bW r with
    | false=>rw [FE hR,FE hR]
    | true =>
     have hnot : ¬lA (pH a) r.aFA<0:=λh0=>by have:=H8 h0 _ (qG h);rw [show pH a r.aFA[Of r.aFA a]=true from hf] at this;cases this
     obtain ⟨k,e,hk⟩:=gD hnot
     obtain ⟨_,hfk⟩:=BG e
     have hpk:=ON hR hk hfk
     unfold Pn
     rw [if_neg hnot,e,qH,qF hk]
     simp only [hpk]
   ·rw [if_neg hf,Wu hp hr hz ha hn]
    cases hR:bW r with
    | false=>rw [FE hR,FE hR]
    | true =>
     have hneg:lA (pH a) r.aFA<0:=Classical.byContradiction λhnot=>by obtain ⟨k,e,hk⟩:=gD hnot;obtain ⟨_,hfk⟩:=BG e;have hpk:=ON hR hk hfk;apply hf;simp only [hpk];exact hfk
     unfold Pn
     rw [if_pos hneg]
  ·rw [qX h]
   simp only
   rw [Wu hp hr hz ha hn]
   cases hR:bW r with
   | false=>rw [FE hR,FE hR]
   | true =>
    have hneg:lA (pH a) r.aFA<0:=Classical.byContradiction λhnot=>by obtain ⟨k,e,hk⟩:=gD hnot;obtain ⟨_,hfk⟩:=BG e;have hpk:=ON hR hk hfk;omega
    unfold Pn
    rw [if_pos hneg]
 ·simp only [lZ];rw [if_pos (aY hk),aK hk,qA,bE qb];unfold tFS;rw [qF hk];simp only;unfold tFA;rw [aK hk];rfl
 ·simp only [lZ];rw [if_neg qk];unfold tFS;rw [qX (Nat.le_refl _)];rfl
def yT (k:M.Key) (x:M.aFP):Bool:=(x.Key.aFU==k.aFU)&&((x.Key.N==k.N)&&(x.Key.aFb.toList==k.aFb.toList))
theorem zV {s:M.aC} {k:M.Key} (hs:s.ok):mJ s k=some (lA (yT k) s.aE7):=by have hm:=le_max hs.aE7.1;unfold mJ;rw [findAll (L:=mQ s k) (f:=yT k) (A:=λi=>some (i:Int)) (E:=some (-1)) hs.aE7.1 (λm j hj => ?_) (λm => ?_),rN];(simp only [mQ];rw [if_pos (aY hj),aK hj,qA,bE qb];rfl);·simp only [mQ];rw [if_neg qk]
theorem UQ {x y:M.Key} (hx:Cj x=true) (hy:Cj y=true) (h : ¬cV x y<0) (hne:((x.aFU==y.aFU)&&((x.N==y.N)&&(x.aFb.toList==y.aFb.toList)))=false):cV y x<0:=by
 unfold cV at *
 rw [if_pos ⟨hx,hy⟩] at h
 rw [if_pos ⟨hy,hx⟩]
 by_cases hk:x.aFU=y.aFU
 ·rw [if_pos hk] at h
  rw [if_pos hk.symm]
  by_cases hn:x.N=y.N
  ·rw [if_pos hn] at h
   rw [if_pos hn.symm]
   have hb:(x.aFb.toList==y.aFb.toList)=false:=by simpa [hk,hn] using hne
   have hl:Op.bytesLess x.aFb.toList y.aFb.toList=false:=by
    cases e:Op.bytesLess x.aFb.toList y.aFb.toList with
    | false=>rfl
    | true=>rw [e,if_pos rfl] at h;omega
   have ht:=Cv x.aFb.toList y.aFb.toList
   rw [hl,Bool.beq_comm,hb,Bool.or_false] at ht
   have h2:Op.bytesLess y.aFb.toList x.aFb.toList=true:=by
    cases e:Op.bytesLess y.aFb.toList x.aFb.toList with
    | true=>rfl
    | false=>rw [e] at ht;cases ht
   rw [if_pos h2]
   omega
  ·rw [if_neg hn] at h;rw [if_neg (λe=>hn e.symm)];by_cases hlt:x.N<y.N;(rw [if_pos hlt] at h;omega);·rw [if_pos qb];omega
 ·rw [if_neg hk] at h;rw [if_neg (λe=>hk e.symm)];by_cases hlt:x.aFU<y.aFU;(rw [if_pos hlt] at h;omega);·rw [if_pos qb];omega
theorem Np {l:List M.aFP} (h1 : ∀(k:Nat) (x:M.aFP),l[k]? = some x->Cj x.Key=true/\bW x.aD=true) (h2 : ∀(k:Nat) (x y:M.aFP),l[k]? = some x->l[k+1]? = some y->cV x.Key y.Key<0):(List.range l.length).all (BF l)=true:=by
 rw [qQ]
 intro k hk
 have hk:=List.mem_range.1 hk
 unfold BF
 obtain ⟨a1,a2⟩:=h1 k _ (qF hk)
 cases k with
 | zero=>rw [qF hk];simp [a1,a2]
 | succ k =>
  have hk':k<l.length:=by omega
  have b:=h2 k _ _ (qF hk') (qF hk)
  rw [qF hk,Nat.add_sub_cancel,qF hk']
  simp [a1,a2,b]
theorem Hu {l:List M.aFP} (h:(List.range l.length).all (BF l)=true):(∀(k:Nat) (x:M.aFP),l[k]? = some x->Cj x.Key=true/\bW x.aD=true)/\(∀(k:Nat) (x y:M.aFP),l[k]? = some x->l[k+1]? = some y->cV x.Key y.Key<0):=by rw [qQ] at h;refine ⟨λk x hx => ?_,λk x y hx hy => ?_⟩;(have hk:k<l.length:=(List.getElem?_eq_some_iff.1 hx).1;have:=h k (List.mem_range.2 hk);unfold BF at this;rw [hx] at this;simp only [Option.any_some,qM] at this;exact this.1);·have hk:k+1<l.length:=(List.getElem?_eq_some_iff.1 hy).1;have:=h (k+1) (List.mem_range.2 hk);unfold BF at this;rw [hy,Nat.add_sub_cancel,hx] at this;simp only [Option.any_some,qM] at this;simpa using this.2
theorem Tj {α:Type} {l:List α} {p:Nat} {x:α} (hp:p<=l.length) (k:Nat):(l.take p++([x]++l.drop p))[k]? = if k<p then l[k]? else if k=p then some x else l[k-1]? := by
 have hl:(l.take p).length=p:=by rw [qT];omega
 rw [List.getElem?_append,hl]
 by_cases h1:k<p
 ·rw [if_pos h1,if_pos h1,List.getElem?_take_of_lt h1]
 ·rw [if_neg h1,if_neg h1];by_cases h2:k=p;(subst h2;simp);·rw [if_neg h2];obtain ⟨d,rfl⟩ : ∃d,k=p+1+d:=⟨k-p-1,qb⟩;rw [show p+1+d-p=d+1 by omega,List.singleton_append,List.getElem?_cons_succ,List.getElem?_drop,show p+1+d-1=p+d by omega]
def IV (k:M.Key) (x:M.aFP):Bool:=decide (cV x.Key k<0)
def CS (l:List M.aFP) (k:M.Key):Nat:=(l.takeWhile (IV k)).length
theorem ML (l:List M.aFP) (k:M.Key):CS l k<=l.length:=(List.takeWhile_prefix _).length_le
def HD (s:M.aC) (k:M.Key):Int:=if ((k.aFU==1)&&(decide (k.N>s.aFZ)&&decide (k.N<=1000000)))=true then k.N else s.aFZ
def NB (s:M.aC) (k:M.Key) (r:M.aD):M.aC:=(⟨s.Name,s.aE7.take (CS s.aE7 k)++([(⟨k,r⟩:M.aFP)]++s.aE7.drop (CS s.aE7 k)),HD s k⟩:M.aC)
def Pe (s:M.aC) (i:Nat) (r:M.aD):M.aC:=(⟨s.Name,(match s.aE7[i]? with | some x=>s.aE7.set i (⟨x.Key,r⟩:M.aFP) | none=>s.aE7),s.aFZ⟩:M.aC)
def Cd (s:M.aC) (k:M.Key) (r:M.aD):M.aC×Bool:=if hJ s=true then (if Cj k=true then (if lA (yT k) s.aE7<0 then (if s.aE7.length<16 then (NB s k r,true) else (s,false)) else (Pe s (lA (yT k) s.aE7).toNat r,true)) else (s,false)) else (s,false)
theorem xG {s:M.aC} (h:hJ s=true):(List.range s.aE7.length).all (BF s.aE7)=true/\mH s.Name=true/\s.aE7.length<=16/\0<=s.aFZ/\s.aFZ<=1000000:=by unfold hJ inR at h;simp only [qM,qL] at h;exact ⟨h.1,h.2.1,h.2.2.1,h.2.2.2.1,h.2.2.2.2⟩
theorem Vt {s:M.aC} (h1:(List.range s.aE7.length).all (BF s.aE7)=true) (h2:mH s.Name=true) (h3:s.aE7.length<=16) (h4:0<=s.aFZ) (h5:s.aFZ<=1000000):hJ s=true:=by unfold hJ inR;simp [h1,h2,h3,h4,h5]
theorem UG {s:M.aC} {k:M.Key} (h:hJ s=true):0<=HD s k/\HD s k<=1000000:=by obtain ⟨_,_,_,h4,h5⟩:=xG h;unfold HD;split;(rename_i hc;simp only [qM,qL] at hc;omega);·exact ⟨h4,h5⟩
theorem Ua {s:M.aC} {i:Nat} {r:M.aD} (h:hJ s=true) (hi:i<s.aE7.length):hJ (Pe s i r)=bW r:=by
 obtain ⟨h1,h2,h3,h4,h5⟩:=xG h
 obtain ⟨a1,a2⟩:=Hu h1
 have e:Pe s i r=(⟨s.Name,s.aE7.set i (⟨s.aE7[i].Key,r⟩:M.aFP),s.aFZ⟩:M.aC):=by unfold Pe;rw [qF hi]
 rw [e]
 have key : ∀(k:Nat) (x:M.aFP),(s.aE7.set i (⟨s.aE7[i].Key,r⟩:M.aFP))[k]? = some x -> ∃y,s.aE7[k]? = some y/\x.Key=y.Key/\(k≠i->x=y)/\(k=i->x.aD=r):=by intro k x hx;rw [List.getElem?_set] at hx;by_cases hk:i=k;(subst hk;rw [if_pos rfl,if_pos hi] at hx;cases hx;exact ⟨_,qF hi,rfl,λhh=>absurd rfl hh,λ_=>rfl⟩);·rw [if_neg hk] at hx;exact ⟨x,hx,rfl,λ_=>rfl,λhh=>absurd hh.symm hk⟩
 cases hr:bW r with
 | true =>
  refine Vt (Np (λk x hx => ?_) (λk x y hx hy => ?_)) h2 (by show (s.aE7.set i _).length<=16;rw [qN];exact h3) h4 h5
  ·obtain ⟨y,hy,e1,e2,e3⟩:=key k x hx;obtain ⟨b1,b2⟩:=a1 k y hy;refine ⟨by rw [e1];exact b1,?_⟩;by_cases hk:k=i;(rw [e3 hk];exact hr);·rw [e2 hk];exact b2
  ·obtain ⟨x',hx',e1,_⟩:=key k x hx;obtain ⟨y',hy',e2,_⟩:=key (k+1) y hy;rw [e1,e2];exact a2 k x' y' hx' hy'
 | false =>
  cases hq:hJ (⟨s.Name,s.aE7.set i (⟨s.aE7[i].Key,r⟩:M.aFP),s.aFZ⟩:M.aC) with
  | false=>rfl
  | true =>
   have:=(Hu (xG hq).1).1 i _ (by show (s.aE7.set i _)[i]? = _;rw [List.getElem?_set,if_pos rfl,if_pos hi])
   simp only at this
   rw [hr] at this
   cases this.2
theorem Su {s:M.aC} {k:M.Key} {r:M.aD} (h:hJ s=true) (hk:Cj k=true) (hr:bW r=true) (hf:lA (yT k) s.aE7<0) (au:Int) (hau:0<=au/\au<=1000000) :
  hJ (⟨s.Name,s.aE7.take (CS s.aE7 k)++([(⟨k,r⟩:M.aFP)]++s.aE7.drop (CS s.aE7 k)),au⟩:M.aC)=decide (s.aE7.length<16):=by
 obtain ⟨h1,h2,h3,h4,h5⟩:=xG h
 obtain ⟨a1,a2⟩:=Hu h1
 have hp:=ML s.aE7 k
 have hlen:(s.aE7.take (CS s.aE7 k)++([(⟨k,r⟩:M.aFP)]++s.aE7.drop (CS s.aE7 k))).length=s.aE7.length+1:=by simp only [qE,qT,qU,qJ,qK];omega
 have hall:(List.range (s.aE7.take (CS s.aE7 k)++([(⟨k,r⟩:M.aFP)]++s.aE7.drop (CS s.aE7 k))).length).all (BF (s.aE7.take (CS s.aE7 k)++([(⟨k,r⟩:M.aFP)]++s.aE7.drop (CS s.aE7 k))))=true:=by
  refine Np (λj x hx => ?_) (λj x y hx hy => ?_)
  ·rw [Tj hp] at hx;split at hx;(exact a1 j x hx);·split at hx;(cases hx;exact ⟨hk,hr⟩);·exact a1 _ x hx
  ·rw [Tj hp] at hx hy
   by_cases c1:j+1<CS s.aE7 k
   ·rw [if_pos qb] at hx;rw [if_pos c1] at hy;exact a2 j x y hx hy
   ·rw [if_neg c1] at hy
    by_cases c2:j+1=CS s.aE7 k
    ·rw [if_pos c2] at hy
     rw [if_pos qb] at hx
     cases hy
     have hj:j<s.aE7.length:=by omega
     have:=IT (f:=IV k) (l:=s.aE7) j hj (by show j<CS s.aE7 k;omega)
     rw [qF hj] at hx
     cases hx
     unfold IV at this
     simpa using this
    ·rw [if_neg c2] at hy
     by_cases c3:j=CS s.aE7 k
     ·rw [if_neg qb,if_pos c3] at hx
      cases hx
      rw [Nat.add_sub_cancel] at hy
      have hj:j<s.aE7.length:=(List.getElem?_eq_some_iff.1 hy).1
      have hj':(s.aE7.takeWhile (IV k)).length<s.aE7.length:=by show CS s.aE7 k<_;omega
      have hat:=I9 (f:=IV k) hj'
      have e1:s.aE7[(s.aE7.takeWhile (IV k)).length]=y:=by
       have:s.aE7[CS s.aE7 k]? = some y:=by rw [<-c3];exact hy
       exact (List.getElem?_eq_some_iff.1 this).2
      rw [e1] at hat
      unfold IV at hat
      have hne:=H8 hf y (by rw [<-e1];exact qG _)
      unfold yT at hne
      exact UQ (a1 j y hy).1 hk (by simpa using hat) hne
     ·rw [if_neg qb,if_neg c3] at hx;rw [show j+1-1=(j-1)+1 by omega] at hy;exact a2 (j-1) x y hx hy
 have e1:decide ((s.aE7.take (CS s.aE7 k)++([(⟨k,r⟩:M.aFP)]++s.aE7.drop (CS s.aE7 k))).length<=16)=decide (s.aE7.length<16):=decide_eq_decide.2 (by rw [hlen];omega)
 unfold hJ inR
 rw [hall,h2,e1,decide_eq_true hau.1,decide_eq_true hau.2]
 simp
theorem TD {s:M.aC} {k:M.Key} {r:M.aD} {au:Int} (p:Nat) (hs:s.ok) (hl:s.aE7.length<=1073741824) (hk:k.ok) (hr:r.ok) (hau:inI au):M.aC.ok (⟨s.Name,s.aE7.take p++([(⟨k,r⟩:M.aFP)]++s.aE7.drop p),au⟩:M.aC):=
 ⟨hs.Name,⟨by show (s.aE7.take p++([(⟨k,r⟩:M.aFP)]++s.aE7.drop p)).length<=maxLen;unfold maxLen;simp only [qE,qT,qU,qJ,qK];omega,λy hy=>by have hy':y∈s.aE7.take p++([(⟨k,r⟩:M.aFP)]++s.aE7.drop p):=hy;simp only [qP,List.mem_cons,qO,or_false] at hy';rcases hy' with h | rfl | h;(exact hs.aE7.2 y (List.mem_of_mem_take h));(exact ⟨hk,hr⟩);·exact hs.aE7.2 y (List.mem_of_mem_drop h)⟩,hau⟩
theorem Xr {s:M.aC} {r:M.aD} {i:Nat} (hi:i<s.aE7.length) (hs:s.ok) (hr:r.ok):M.aC.ok (⟨s.Name,s.aE7.set i (⟨s.aE7[i].Key,r⟩:M.aFP),s.aFZ⟩:M.aC):=
 ⟨hs.Name,⟨by show (s.aE7.set i _).length<=maxLen;rw [qN];exact hs.aE7.1,λy hy=>by have hy':y∈s.aE7.set i (⟨s.aE7[i].Key,r⟩:M.aFP):=hy;rcases List.mem_or_eq_of_mem_set hy' with h | rfl;(exact hs.aE7.2 y h);·exact ⟨(hs.aE7.2 _ (qG hi)).Key,hr⟩⟩,hs.aFZ⟩
theorem Sg {s:M.aC} {k:M.Key} (hs:s.ok) (hk:k.ok):inI (HD s k):=by unfold HD;split;(exact hk.N);·exact hs.aFZ
def tPS (s:M.aC) (k:M.Key) (r:M.aD) (j:Nat):Option (M.aC×Bool):=(Ap s.aE7 (j:Int)).bind λ_=>((app 56 ([]:List M.aFP) (List.take (j:Int).toNat s.aE7)).bind λ_=>((cC r).bind λaa=>((app 56 (List.take (j:Int).toNat s.aE7) ([(⟨k,aa⟩:M.aFP)])).bind λ_=>((app 56 ((List.take (j:Int).toNat s.aE7)++[(⟨k,aa⟩:M.aFP)]) (List.drop (j:Int).toNat s.aE7)).bind λ_=>(if (k.aFU==1)=true then ((bA k.N (i64.wrap (s.aFZ+1)) 1000000).bind λae=>(if ae=true then (some ((⟨s.Name,(((List.take (j:Int).toNat s.aE7)++[(⟨k,aa⟩:M.aFP)])++(List.drop (j:Int).toNat s.aE7)),k.N⟩:M.aC),true)) else (some ((⟨s.Name,(((List.take (j:Int).toNat s.aE7)++[(⟨k,aa⟩:M.aFP)])++(List.drop (j:Int).toNat s.aE7)),s.aFZ⟩:M.aC),true)))) else (some ((⟨s.Name,(((List.take (j:Int).toNat s.aE7)++[(⟨k,aa⟩:M.aFP)])++(List.drop (j:Int).toNat s.aE7)),s.aFZ⟩:M.aC),true)))))))
theorem yI {s:M.aC} {k:M.Key} {r:M.aD} (hs:s.ok) (hk:k.ok) (hr:r.ok) (hR:bW r=true) (hz:M.aC.sz s<=1073741824) (hzr:M.aD.sz r<=1073741824):dZ s k r=some (Cd s k r):=by
 have hl:s.aE7.length<=1073741824:=by simp only [M.aC.sz] at hz;omega
 have hp:=ML s.aE7 k
 unfold dZ Cd
 rw [yP hs,lR hk,oY hr,hR,mP s hz,zV hs,Bf r hzr]
 simp only [qA]
 cases hS:hJ s with
 | false=>simp
 | true =>
  cases hK:Cj k with
  | false=>simp
  | true =>
   simp only [qB,qD,if_false,if_true]
   by_cases h:lA (yT k) s.aE7<0
   ·rw [if_neg qc,if_pos h]
    by_cases aa:s.aE7.length<16
    ·rw [if_neg qc,if_pos aa,MZ (l:=s.aE7) (f:=IV k) (L:=oC s k r s) (S:=tPS s k r) hs.aE7.1 (λm j hj => ?_) (λm => ?_)]
     ·show tPS s k r (CS s.aE7 k)=_
      obtain ⟨_,_,_,ha4,ha5⟩:=xG hS
      have ew:i64.wrap (s.aFZ+1)=s.aFZ+1:=bL qb qb
      have ei:inR k.N (s.aFZ+1) 1000000=(decide (k.N>s.aFZ)&&decide (k.N<=1000000)):=by unfold inR;congr 1
      unfold tPS
      rw [Cb hp,qA,qH,EC (by rw [qT];omega) qb,qA,Bf r hzr,qA,dH qu,qA,dH qo,qA,qS,cD,qA,ew,ei]
      unfold NB HD
      cases (k.aFU==1)<;>cases (decide (k.N>s.aFZ)&&decide (k.N<=1000000))<;>rfl
     ·have hj':=hs.aE7.2 _ (qG hj);simp only [oC];rw [if_pos (aY hj),aK hj,qA,vE hj'.Key hk,qA,bE qb];rfl
     ·simp only [oC];rw [if_neg qk];rfl
    ·rw [if_pos qc,if_neg aa]
   ·obtain ⟨i,e,hi⟩:=gD h;rw [if_pos (by simpa using h),if_neg h,e,aK hi,qA,qH];unfold Pe;rw [qF hi]
def kI (s:M.aC) (k:M.Key):M.aD:=if lA (yT k) s.aE7<0 then (⟨([]:List M.Field)⟩:M.aD) else (match s.aE7[(lA (yT k) s.aE7).toNat]? with | some x=>x.aD | none=>(⟨([]:List M.Field)⟩:M.aD))
def L0 (s:M.aC) (w:M.bD):M.aC×Bool:=if (IH (kI s w.Key) w.Field w.N).2=true then Cd s w.Key (IH (kI s w.Key) w.Field w.N).1 else (s,false)
theorem G8:M.aD.ok (⟨([]:List M.Field)⟩:M.aD):=⟨⟨by simp [maxLen],qd⟩⟩
theorem GW {s:M.aC} {k:M.Key} (hs:s.ok):(kI s k).ok:=by unfold kI;split;(exact G8);·split;(rename_i x hx;exact (hs.aE7.2 x (List.mem_of_getElem? hx)).aD);·exact G8
theorem Nj (s:M.aC) (k:M.Key):M.aD.sz (kI s k)<=M.aC.sz s:=by
 unfold kI
 split
 ·simp [M.aD.sz,dG]
 ·split
  ·rename_i x hx
   have h1:=dV (f:=M.aFP.sz) (List.mem_of_getElem? hx)
   have h2:M.aD.sz x.aD<=M.aFP.sz x:=by simp only [M.aFP.sz];omega
   simp only [M.aC.sz]
   omega
  ·simp [M.aD.sz,dG]
theorem Uw {r:M.aD} {a:ByteArray} {n:Int} (hr:r.ok) (hl:r.aFA.length<=1073741824) (ha:a.size<=maxLen) (hn:inI n):M.aD.ok (⟨Pn r a n⟩:M.aD):=by unfold Pn;by_cases h:lA (pH a) r.aFA<0;(rw [if_pos h];exact Wi _ hr hl ha hn);·rw [if_neg h];obtain ⟨k,e,hk⟩:=gD h;rw [e,qH,qF hk];exact Td hk hr hn
theorem Mr {r:M.aD} {a:ByteArray} {n:Int} (hr:r.ok) (hl:r.aFA.length<=1073741824) (ha:a.size<=maxLen) (hn:inI n):(IH r a n).1.ok:=by unfold IH Mo;split;(split;(exact Uw hr hl ha hn);·exact hr);·exact hr
theorem E6 {r:M.aD} {a:ByteArray} {n:Int} (h:(IH r a n).2=true):bW (IH r a n).1=true:=by unfold IH Mo at h ⊢;by_cases h1:bW r=true;(rw [if_pos h1] at h ⊢;by_cases h2:bW (⟨Pn r a n⟩:M.aD)=true;(rw [if_pos h2];exact h2);·rw [if_neg h2] at h;cases h);·rw [if_neg h1] at h;cases h
theorem F4 {r:M.aD} (h:bW r=true):M.aD.sz r<=100:=by obtain ⟨h1,h2⟩:=xK h;have:=dP (w:=M.Field.sz) (b:=8) (xs:=r.aFA) (λx hx=>by have:=(h2 x hx).1;simp only [M.Field.sz];omega);simp only [M.aD.sz];omega
end Go.Proofs.YtipmihbgjolaaaaGreat.gen
