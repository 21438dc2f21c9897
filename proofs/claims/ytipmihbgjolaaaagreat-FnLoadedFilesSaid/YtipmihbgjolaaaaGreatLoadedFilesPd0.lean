/-
  Helper text. No conditions.
-/
import Derived.Test.YtipmihbgjolaaaaGreatLoadedFilesPz
set_option linter.unusedVariables false
set_option linter.unusedSimpArgs false
namespace Go.Proofs.YtipmihbgjolaaaaGreat.gen
open Go Go.Sh
open Go.IntKind (i64)
def Dj (p0:M.bC) (p1:M.bC):Option Bool:=
 if (p0.aFD.toList==p1.aFD.toList)=true then (if (p0.Top.toList==p1.Top.toList)=true then (some (p0.Id != p1.Id)) else (some false)) else (some false)
def oZ (p0:M.aFB) (p1:Int):Nat->Int->List M.tB->Option (List M.tB)
 | 0,_,_=>none
 | ae+1,v6,r7=>if (decide (v6<(List.length p0.aFa:Int)))=true then ((idx p0.aFa v6).bind λaa=>(if (aa.To==p1)=true then ((app 24 r7 ([aa])).bind λaf=>(oZ p0 p1 ae (i64.wrap (v6+1)) (r7++[aa]))) else (oZ p0 p1 ae (i64.wrap (v6+1)) r7))) else (some r7)
def CG (p0:M.aFB) (p1:Int):Option (List M.tB):=
 oZ p0 p1 fuel 0 ([]:List M.tB)
def iH (p1:List M.bC) (p2:Int) (p3:Int) (x3:Int):Nat->Int->Int->List M.tB->Option (M.aFB×Int)
 | 0,_,_,_=>none
 | ai+1,af,ae,aa=>if (decide (ae<(List.length p1:Int)))=true then ((idx p1 x3).bind λaj=>((idx p1 ae).bind λah=>((Dj aj ah).bind λak=>(if ak=true then ((CG (⟨aa⟩:M.aFB) ah.Id).bind λal=>(if (decide ((List.length al:Int)<5))=true then ((app 24 aa ([(⟨ah.Id,p2,p3⟩:M.tB)])).bind λao=>(iH p1 p2 p3 x3 ai (i64.wrap (af+1)) (i64.wrap (ae+1)) (aa++[(⟨ah.Id,p2,p3⟩:M.tB)]))) else (iH p1 p2 p3 x3 ai af (i64.wrap (ae+1)) aa))) else (iH p1 p2 p3 x3 ai af (i64.wrap (ae+1)) aa))))) else (some ((⟨aa⟩:M.aFB),af))
def Ep (p0:M.aFB) (p1:List M.bC) (p2:Int) (p3:Int):Option (M.aFB×Int):=
 (oL p0).bind λx1=>((yO p1 p2).bind λx3=>(if (decide (x3<0))=true then (some (x1,0)) else (iH p1 p2 p3 x3 fuel 0 0 x1.aFa)))
theorem cD (x a b:Int):bA x a b=some (inR x a b):=by unfold bA inR;by_cases h:a<=x;(rw [if_pos (by simpa using h)];simp [h]);·rw [if_neg (by simpa using h)];simp [h]
theorem bX (x a b:Int):bB x a b=some (inR x a b):=by unfold bB inR;by_cases h:a<=x;(rw [if_pos (by simpa using h)];simp [h]);·rw [if_neg (by simpa using h)];simp [h]
def Ka (r:M.aE9) (b:Bool):Int:=if b=true then 76 else i64.wrap (16+(List.length r.aFw:Int))
theorem Iv (r:M.aE9) (b:Bool):wN r b=some (Ka r b):=by unfold wN Ka;cases b<;>rfl
theorem H0 (r:M.aE9) (b:Bool):xD r b=some (Ka r b):=by unfold xD Ka;cases b<;>rfl
def RH (v:Int) (x:M.aFL):Int:=i64.wrap (v+Ka x.aE9 (x.aE9.aFu==3))
def CI (s:M.aE):Int:=s.aE6.foldl (λv c=>c.aFK.foldl RH v) 0
theorem Iy {s:M.aE} (hs:s.ok):wG s=some (CI s):=by have hm:=le_max hs.aE6.1;unfold wG CI;refine Gc (L:=eH s) (E:=some) hs.aE6.1 (λn v k hk => ?_) (λn v => ?_) 0;(have hc:=hs.aE6.2 _ (qG hk);have hm2:=le_max hc.aFK.1;simp only [eH];rw [if_pos (aY hk),bE qb];refine Gc (xs:=s.aE6[k].aFK) (L:=jG s (k:Int) (λv3 _=>eH s n v3 ((k+1:Nat):Int))) (E:=λv3=>eH s n v3 ((k+1:Nat):Int)) hc.aFK.1 (λn v j hj => ?_) (λn v => ?_) v;(simp only [jG];rw [aK hk,qA,if_pos (aY hj),aK hj,qA,Iv,qA,bE qb];rfl);·simp only [jG];rw [aK hk,qA,if_neg qk]);·simp only [eH];rw [if_neg qk]
theorem H5 {s:M.aE} (hs:s.ok):wX s=some (CI s):=by have hm:=le_max hs.aE6.1;unfold wX CI;refine Gc (L:=eR s) (E:=some) hs.aE6.1 (λn v k hk => ?_) (λn v => ?_) 0;(have hc:=hs.aE6.2 _ (qG hk);have hm2:=le_max hc.aFK.1;simp only [eR];rw [if_pos (aY hk),bE qb,aK hk,qA];refine Gc (xs:=s.aE6[k].aFK) (L:=jF s.aE6[k] (λv3 _=>eR s n v3 ((k+1:Nat):Int))) (E:=λv3=>eR s n v3 ((k+1:Nat):Int)) hc.aFK.1 (λn v j hj => ?_) (λn v => ?_) v;(simp only [jF];rw [if_pos (aY hj),aK hj,qA,H0,qA,bE qb];rfl);·simp only [jF];rw [if_neg qk]);·simp only [eR];rw [if_neg qk]
def OB (b:UInt8):Bool:=(decide (97<=b.toNat)&&decide (b.toNat<=122))||(decide (48<=b.toNat)&&decide (b.toNat<=57))
def Lj (s:ByteArray):Bool:=Uz s OB&&decide (s.size<=12)
theorem MA {s:ByteArray} (hs:s.size<=maxLen):zW s=some (Lj s):=by
 have hm:=le_max hs
 unfold zW Lj
 rw [HG (L:=iK s) (g:=OB) (F:=some false) (E:=some (decide (s.size<=12))) hs (λn k hk => ?_) (λn => ?_),aZ]
 ·simp only [iK]
  rw [if_pos (aY hk),GQ hk,qA,bE qb]
  generalize s[k]=b
  unfold OB
  generalize iK s n ((k+1:Nat):Int)=Z
  simp only [Bool.or_eq_true,qM,qL,Bool.not_eq_true',decide_eq_false_iff_not]
  repeat' split
  all_goals first | rfl | (exfalso;omega)
 ·simp only [iK];rw [if_neg qk];simp;omega
theorem Je {s:ByteArray} (hs:s.size<=maxLen):xQ s=some (Lj s):=by
 have hm:=le_max hs
 unfold xQ Lj
 rw [HG (L:=eA s) (g:=OB) (F:=some false) (E:=some (decide (s.size<=12))) hs (λn k hk => ?_) (λn => ?_),aZ]
 ·simp only [eA]
  rw [if_pos (aY hk),GQ hk,qA,bE qb]
  generalize s[k]=b
  unfold OB
  generalize eA s n ((k+1:Nat):Int)=Z
  simp only [Bool.or_eq_true,qM,qL,Bool.not_eq_true',decide_eq_false_iff_not]
  repeat' split
  all_goals first | rfl | (exfalso;omega)
 ·simp only [eA];rw [if_neg qk];simp;omega
def Cj (k:M.Key):Bool:=inR k.aFU 1 3&&(inR k.N (-1000000000000) 1000000000000&&(Lj k.aFb&&((k.aFU != 2||k.N==0)&&(k.aFU != 1||(k.aFb.toList==(⟨#[]⟩:ByteArray).toList)))))
theorem lR {k:M.Key} (hk:k.ok):fG k=some (Cj k):=by have ht:=MA hk.aFb;unfold fG Cj;simp only [cD,ht,qA];generalize inR k.aFU 1 3=a;generalize inR k.N (-1000000000000) 1000000000000=b;generalize Lj k.aFb=c;generalize (k.aFb.toList==(⟨#[]⟩:ByteArray).toList)=g;by_cases h1:k.aFU=2<;>by_cases h2:k.aFU=1<;>by_cases h3:k.N=0<;>cases a<;>cases b<;>cases c<;>cases g<;>simp [h1,h2,h3]<;>omega
theorem BW {k:M.Key} (hk:k.ok):uP k=some (Cj k):=by have ht:=Je hk.aFb;unfold uP Cj;simp only [bX,ht,qA];generalize inR k.aFU 1 3=a;generalize inR k.N (-1000000000000) 1000000000000=b;generalize Lj k.aFb=c;generalize (k.aFb.toList==(⟨#[]⟩:ByteArray).toList)=g;by_cases h1:k.aFU=2<;>by_cases h2:k.aFU=1<;>by_cases h3:k.N=0<;>cases a<;>cases b<;>cases c<;>cases g<;>simp [h1,h2,h3]<;>omega
theorem E3 {k:M.Key} (h:Cj k=true):k.aFb.size<=12:=by unfold Cj Lj at h;simp only [qM,qL] at h;omega
def JW (k:M.Key):Nat:=if Cj k=true then (if (k.aFU==2)=true then 1+k.aFb.size else 7+k.aFb.size) else 0
theorem Jr {k:M.Key} (hk:k.ok) : ∃l,kD k=some l/\l.length=JW k:=by
 unfold kD JW
 rw [lR hk,qA]
 by_cases h:Cj k=true
 ·have ht:=E3 h
  have hl:=aP k.aFb
  rw [if_neg (by simp [h]),if_pos h,Vn]
  by_cases h2:(k.aFU==2)=true
  ·have h3 : ¬(k.aFU != 2)=true:=by simp [bne,h2]
   rw [if_pos h2]
   have e0 : ∀n r,r.length<=7->bF k (n+1) 5 r=some (r++bO k.aFb):=by intro n r hr;simp only [bF];rw [if_pos qe,if_neg h3,dH qb,qA]
   exact ⟨_,e0 (18446744073709551609+6) _ qd,qc⟩
  ·have h3:(k.aFU != 2)=true:=by simp [bne,h2]
   rw [if_neg h2]
   have st : ∀n (v:Nat) r,r.length<=7->v<=5 -> ∃x:Int,bF k (n+1) (v:Int) r=bF k n ((v:Int)-1) (r++[x]):=by intro n v r hr hv;apply Exists.intro;simp only [bF];rw [if_pos qd,if_pos h3,if_pos (by rw [bL qb qb];simp;omega),dH qc,qA,bL (n:=(v:Int)-1) qb qb]
   obtain ⟨x1,e1⟩:=st (18446744073709551609+6) 5 ([(IntKind.u8.wrap k.aFU)]) qd qd
   obtain ⟨x2,e2⟩:=st (18446744073709551609+5) 4 ([(IntKind.u8.wrap k.aFU)]++[x1]) qd qd
   obtain ⟨x3,e3⟩:=st (18446744073709551609+4) 3 ([(IntKind.u8.wrap k.aFU)]++[x1]++[x2]) qd qd
   obtain ⟨x4,e4⟩:=st (18446744073709551609+3) 2 ([(IntKind.u8.wrap k.aFU)]++[x1]++[x2]++[x3]) qd qd
   obtain ⟨x5,e5⟩:=st (18446744073709551609+2) 1 ([(IntKind.u8.wrap k.aFU)]++[x1]++[x2]++[x3]++[x4]) qd qd
   obtain ⟨x6,e6⟩:=st (18446744073709551609+1) 0 ([(IntKind.u8.wrap k.aFU)]++[x1]++[x2]++[x3]++[x4]++[x5]) qd qd
   have e7 : ∀n r,r.length<=7->bF k (n+1) (-1) r=some (r++bO k.aFb):=by intro n r hr;simp only [bF];rw [if_neg qe,dH qb,qA]
   exact ⟨_,(e1.trans (e2.trans (e3.trans (e4.trans (e5.trans (e6.trans (e7 _ _ qd))))))),qc⟩
 ·rw [if_pos (by simp [h]),if_neg h];exact ⟨_,rfl,rfl⟩
theorem Jh {k:M.Key} (hk:k.ok) : ∃l,xZ k=some l/\l.length=JW k:=by
 unfold xZ JW
 rw [BW hk,qA]
 by_cases h:Cj k=true
 ·have ht:=E3 h
  have hl:=aP k.aFb
  rw [if_neg (by simp [h]),if_pos h,Vn]
  by_cases h2:(k.aFU==2)=true
  ·have h3 : ¬(k.aFU != 2)=true:=by simp [bne,h2]
   rw [if_pos h2,if_neg h3,dH qc,qA]
   exact ⟨_,rfl,qc⟩
  ·have h3:(k.aFU != 2)=true:=by simp [bne,h2]
   rw [if_neg h2,if_pos h3]
   have st : ∀n (v:Nat) r,r.length<=7->v<=5 -> ∃x:Int,fT k (n+1) (v:Int) r=fT k n ((v:Int)-1) (r++[x]):=by intro n v r hr hv;apply Exists.intro;simp only [fT];rw [if_pos qd,if_pos (by rw [bL qb qb];simp;omega),dH qc,qA,bL (n:=(v:Int)-1) qb qb]
   obtain ⟨x1,e1⟩:=st (18446744073709551609+6) 5 ([(IntKind.u8.wrap k.aFU)]) qd qd
   obtain ⟨x2,e2⟩:=st (18446744073709551609+5) 4 ([(IntKind.u8.wrap k.aFU)]++[x1]) qd qd
   obtain ⟨x3,e3⟩:=st (18446744073709551609+4) 3 ([(IntKind.u8.wrap k.aFU)]++[x1]++[x2]) qd qd
   obtain ⟨x4,e4⟩:=st (18446744073709551609+3) 2 ([(IntKind.u8.wrap k.aFU)]++[x1]++[x2]++[x3]) qd qd
   obtain ⟨x5,e5⟩:=st (18446744073709551609+2) 1 ([(IntKind.u8.wrap k.aFU)]++[x1]++[x2]++[x3]++[x4]) qd qd
   obtain ⟨x6,e6⟩:=st (18446744073709551609+1) 0 ([(IntKind.u8.wrap k.aFU)]++[x1]++[x2]++[x3]++[x4]++[x5]) qd qd
   have e7 : ∀n r,r.length<=7->fT k (n+1) (-1) r=some (r++bO k.aFb):=by intro n r hr;simp only [fT];rw [if_neg qe,dH qb,qA]
   exact ⟨_,(e1.trans (e2.trans (e3.trans (e4.trans (e5.trans (e6.trans (e7 _ _ qd))))))),qc⟩
 ·rw [if_pos (by simp [h]),if_neg h];exact ⟨_,rfl,rfl⟩
def I4 (sl:Bool) (b:UInt8):Bool:=(decide (97<=b.toNat)&&decide (b.toNat<=122))||(sl&&decide (b.toNat=47))
def N5 (s:ByteArray) (n:Int) (sl:Bool):Bool:=Uz s (I4 sl)&&inR (s.size:Int) 1 n
def mH (s:ByteArray):Bool:=Uz s (I4 false)&&inR (s.size:Int) 1 8
theorem cZ {s:ByteArray} (hs:s.size<=maxLen):bT s=some (mH s):=by
 have hm:=le_max hs
 unfold bT mH
 rw [HG (L:=nA s) (g:=I4 false) (F:=some false) (E:=some (inR (s.size:Int) 1 8)) hs (λn k hk => ?_) (λn => ?_),aZ]
 ·simp only [nA]
  rw [if_pos (aY hk),GQ hk,qA,bE qb]
  generalize s[k]=b
  unfold I4
  generalize nA s n ((k+1:Nat):Int)=Z
  simp only [Bool.or_eq_true,qM,qL,Bool.not_eq_true',decide_eq_false_iff_not,Bool.false_and,Bool.or_false]
  repeat' split
  all_goals first | rfl | (exfalso;omega)
 ·simp only [nA];rw [if_neg qk,cD,qA]
theorem GU {s:ByteArray} {m:Int} {sl:Bool} (hs:s.size<=maxLen):zX s m sl=some (N5 s m sl):=by
 have hm:=le_max hs
 unfold zX N5
 rw [HG (L:=iM s m sl) (g:=I4 sl) (F:=some false) (E:=some (inR (s.size:Int) 1 m)) hs (λn k hk => ?_) (λn => ?_),aZ]
 ·simp only [iM]
  rw [if_pos (aY hk),GQ hk,qA,bE qb]
  generalize s[k]=b
  unfold I4
  generalize iM s m sl n ((k+1:Nat):Int)=Z
  cases sl<;>simp only [Bool.or_eq_true,qM,qL,Bool.not_eq_true',decide_eq_false_iff_not,Bool.false_and,Bool.or_false,Bool.true_and,beq_eq_false_iff_ne,ne_eq,qD,if_true,if_false]
  all_goals repeat' split
  all_goals first | rfl | (exfalso;omega)
 ·simp only [iM];rw [if_neg qk,bX,qA]
theorem dX {s:ByteArray} (hs:s.size<=maxLen):cJ s=some (mH s):=by unfold cJ;rw [GU hs,qA];rfl
def PZ (x:M.Field):Bool:=mH x.Name&&inR x.N 0 1000000000
def DW (l:List M.Field) (k:Nat):Bool:=(l[k]?).any PZ&&(decide (k=0)||(l[k-1]?).any λy=>(l[k]?).any λx=>Op.bytesLess y.Name.toList x.Name.toList)
def bW (r:M.aD):Bool:=(List.range r.aFA.length).all (DW r.aFA)&&decide (r.aFA.length<=6)
theorem oY {r:M.aD} (hr:r.ok):bJ r=some (bW r):=by
 have hm:=le_max hr.aFA.1
 unfold bJ bW
 rw [nH (L:=gR r) (g:=DW r.aFA) (F:=some false) (E:=some (decide (r.aFA.length<=6))) hr.aFA.1 (λn k hk => ?_) (λn => ?_),aZ]
 ·have hf:=hr.aFA.2 _ (qG hk)
  simp only [gR]
  rw [if_pos (aY hk),aK hk,qA,bE qb,cZ hf.Name,qA,cD,qA]
  unfold DW PZ
  rw [qF hk]
  generalize gR r n ((k+1:Nat):Int)=Z
  by_cases h0:k=0
  ·subst h0;simp only [Option.any_some];generalize mH r.aFA[0].Name=a;generalize inR r.aFA[0].N 0 1000000000=b;cases a<;>cases b<;>simp
  ·have e:i64.wrap ((k:Int)-1)=((k-1:Nat):Int):=by rw [bL qb qb];omega
   have hk1:k-1<r.aFA.length:=by omega
   rw [if_pos (c:=(decide ((k:Int)>0))=true) qc,e,aK hk1,qA,qF hk1]
   simp only [Option.any_some,h0,decide_false,Bool.false_or]
   generalize mH r.aFA[k].Name=a
   generalize inR r.aFA[k].N 0 1000000000=b
   generalize Op.bytesLess r.aFA[k-1].Name.toList r.aFA[k].Name.toList=c
   cases a<;>cases b<;>cases c<;>simp
 ·simp only [gR];rw [if_neg qk];simp;omega
theorem ET {r:M.aD} (hr:r.ok):wJ r=some (bW r):=by
 have hm:=le_max hr.aFA.1
 unfold wJ bW
 rw [nH (L:=gU r) (g:=DW r.aFA) (F:=some false) (E:=some (decide (r.aFA.length<=6))) hr.aFA.1 (λn k hk => ?_) (λn => ?_),aZ]
 ·have hf:=hr.aFA.2 _ (qG hk)
  simp only [gU]
  rw [if_pos (aY hk),aK hk,qA,bE qb,dX hf.Name,qA,bX,qA]
  unfold DW PZ
  rw [qF hk]
  generalize gU r n ((k+1:Nat):Int)=Z
  by_cases h0:k=0
  ·subst h0;simp only [Option.any_some];generalize mH r.aFA[0].Name=a;generalize inR r.aFA[0].N 0 1000000000=b;cases a<;>cases b<;>simp
  ·have e:i64.wrap ((k:Int)-1)=((k-1:Nat):Int):=by rw [bL qb qb];omega
   have hk1:k-1<r.aFA.length:=by omega
   rw [if_pos (c:=(decide ((k:Int)>0))=true) qc,e,aK hk1,qA,qF hk1]
   simp only [Option.any_some,h0,decide_false,Bool.false_or]
   rw [Cv r.aFA[k-1].Name.toList r.aFA[k].Name.toList]
   generalize mH r.aFA[k].Name=a
   generalize inR r.aFA[k].N 0 1000000000=b
   generalize (Op.bytesLess r.aFA[k].Name.toList r.aFA[k-1].Name.toList||r.aFA[k].Name.toList==r.aFA[k-1].Name.toList)=c
   cases a<;>cases b<;>cases c<;>simp
 ·simp only [gU];rw [if_neg qk];simp;omega
theorem xK {r:M.aD} (h:bW r=true):r.aFA.length<=6 /\ ∀x∈r.aFA,x.Name.size<=8/\0<=x.N/\x.N<=1000000000:=by unfold bW at h;simp only [qM,qL,qQ,qR] at h;refine ⟨h.2,λx hx => ?_⟩;obtain ⟨k,hk,rfl⟩:=List.getElem_of_mem hx;have:=h.1 k hk;unfold DW PZ mH inR at this;rw [qF hk] at this;simp only [Option.any_some,qM,qL] at this;omega
theorem Aq {r:List Int} {n:Nat} (hr:r.length<=1048576) (hn:n<=1000000000000) : ∃l,bP r (n:Int)=some l/\l.length=r.length+(uv n).length:=by
 have hi:inR (n:Int) 0 1000000000000=true:=by unfold inR;simp;omega
 unfold bP
 rw [dH qc,qA,cD,qA,hi,if_neg qd]
 refine SL (L:=cK) (b:=λv=>IntKind.u8.wrap (i64.wrap (BitVec.ofInt (IntKind.i64.bits) (i64.wrap (BitVec.ofInt (IntKind.i64.bits) v&&&BitVec.ofInt (IntKind.i64.bits) 127).toNat)|||BitVec.ofInt (IntKind.i64.bits) 128).toNat)) (c:=λv=>IntKind.u8.wrap v) (λm n r h1 h2 => ?_) (λm n r h1 => ?_) 8 fuel n r qb qb qi qb
 ·simp only [cK];rw [if_pos qc,uvf]
 ·simp only [cK];rw [if_neg qc]
theorem An {r:List Int} {n:Nat} (hr:r.length<=1048576) (hn:n<=1000000000000) : ∃l,jE r (n:Int)=some l/\l.length=r.length+(uv n).length:=by
 have hi:inR (n:Int) 0 1000000000000=true:=by unfold inR;simp;omega
 unfold jE kG
 rw [dH qc,qA,qA,bX,qA,hi,if_neg qd]
 refine SL (L:=fV) (b:=λv=>IntKind.u8.wrap (i64.wrap ((Int.tmod v 128)+128))) (c:=λv=>IntKind.u8.wrap v) (λm n r h1 h2 => ?_) (λm n r h1 => ?_) 8 fuel n r qb qb qi qb
 ·simp only [fV];rw [if_pos qc,uvt h2]
 ·simp only [fV];rw [if_neg qc]
def Bd (x:M.Field):Nat:=(uv x.Name.size).length+x.Name.size+(uv x.N.toNat).length
def Kf (r:M.aD):Nat:=if bW r=true then (uv r.aFA.length).length+dG Bd r.aFA else 0
theorem Hw {r b:List Int} (hr:r.length<=1000) (hb:b.length<=1000) : ∃l,bN r b=some l/\l.length=r.length+((uv b.length).length+b.length):=by obtain ⟨l,e,hl⟩:=Aq (r:=r) (n:=b.length) qb qb;have h9:=FU b.length qb;refine ⟨l++b,?_,qc⟩;unfold bN;rw [e,qA,dH qb,qA]
theorem Gm {r:M.aD} (hr:r.ok) : ∃l,fZ r=some l/\l.length=Kf r:=by
 unfold fZ Kf
 rw [oY hr,qA]
 by_cases h:bW r=true
 ·obtain ⟨h6,hf⟩:=xK h
  have hw : ∀x∈r.aFA,Bd x<=26:=by intro x hx;have:=hf x hx;have h1:=FU x.Name.size qb;have h2:=FU x.N.toNat qb;unfold Bd;omega
  have hsum:=dP hw
  obtain ⟨l,e,hl⟩:=Aq (r:=[]) (n:=r.aFA.length) qd qb
  have h9:=FU r.aFA.length qb
  rw [if_neg (by simp [h]),if_pos h,e,qA]
  have:=PG (xs:=r.aFA) (w:=Bd) (B:=900) (L:=cQ r) (λn k hk q hq => ?_) (λn q => ?_) fuel 0 l qi qb (by simp at hl ⊢;omega)
  ·obtain ⟨z,e2,hz⟩:=this;exact ⟨z,e2,by simp at hl hz;omega⟩
  ·have hx:=hf _ (qG hk);have hw2:=hw _ (qG hk);obtain ⟨a,ea,ha⟩:=Hw (r:=q) (b:=bO r.aFA[k].Name) qb (by rw [aP];omega);rw [aP] at ha;have hn:=FU r.aFA[k].Name.size qb;obtain ⟨b,eb,hb⟩:=Aq (r:=a) (n:=r.aFA[k].N.toNat) qb qb;rw [Int.toNat_of_nonneg hx.2.1] at eb;refine ⟨b,by unfold Bd;omega,?_⟩;simp only [cQ];rw [if_pos (aY hk),aK hk,qA,ea,qA,eb,qA,bE qb]
  ·simp only [cQ];rw [if_neg qk]
 ·rw [if_pos (by simp [h]),if_neg h];exact ⟨_,rfl,rfl⟩
theorem Hp {r b:List Int} (hr:r.length<=1000) (hb:b.length<=1000) : ∃l,uX r b=some l/\l.length=r.length+((uv b.length).length+b.length):=by obtain ⟨l,e,hl⟩:=An (r:=r) (n:=b.length) qb qb;have h9:=FU b.length qb;refine ⟨l++b,?_,qc⟩;unfold uX;rw [e,qA,dH qb,qA]
theorem Gt {r:M.aD} (hr:r.ok) : ∃l,sW r=some l/\l.length=Kf r:=by
 unfold sW Kf
 rw [ET hr,qA]
 by_cases h:bW r=true
 ·obtain ⟨h6,hf⟩:=xK h
  have hw : ∀x∈r.aFA,Bd x<=26:=by intro x hx;have:=hf x hx;have h1:=FU x.Name.size qb;have h2:=FU x.N.toNat qb;unfold Bd;omega
  have hsum:=dP hw
  obtain ⟨l,e,hl⟩:=An (r:=[]) (n:=r.aFA.length) qd qb
  have h9:=FU r.aFA.length qb
  rw [if_neg (by simp [h]),if_pos h,e,qA]
  have:=PG (xs:=r.aFA) (w:=Bd) (B:=900) (L:=gP r) (λn k hk q hq => ?_) (λn q => ?_) fuel 0 l qi qb (by simp at hl ⊢;omega)
  ·obtain ⟨z,e2,hz⟩:=this;exact ⟨z,e2,by simp at hl hz;omega⟩
  ·have hx:=hf _ (qG hk);have hw2:=hw _ (qG hk);obtain ⟨a,ea,ha⟩:=Hp (r:=q) (b:=bO r.aFA[k].Name) qb (by rw [aP];omega);rw [aP] at ha;have hn:=FU r.aFA[k].Name.size qb;obtain ⟨b,eb,hb⟩:=An (r:=a) (n:=r.aFA[k].N.toNat) qb qb;rw [Int.toNat_of_nonneg hx.2.1] at eb;refine ⟨b,by unfold Bd;omega,?_⟩;simp only [gP];rw [if_pos (aY hk),aK hk,qA,ea,qA,eb,qA,bE qb]
  ·simp only [gP];rw [if_neg qk]
 ·rw [if_pos (by simp [h]),if_neg h];exact ⟨_,rfl,rfl⟩
def J0 (v:Int) (x:M.aFP):Int:=i64.wrap (v+((JW x.Key:Int)+(Kf x.aD:Int)))
def CB (s:M.aC):Int:=s.aE7.foldl J0 0
def A4 (d:M.aE5):Int:=d.aFH.foldl (λv s=>i64.wrap (v+CB s)) 0
def N2 (b:M.aJ):Int:=i64.wrap ((i64.wrap ((i64.wrap (CI b.aE6+i64.wrap (A4 b.bV.aFT+(List.length b.bV.Log:Int))))+CB b.aG.aFT))+(i64.wrap (40*(List.length b.aG.aFS.aM.aFO:Int))))
theorem Ez {s:M.aC} (hs:s.ok):uF s=some (CB s):=by have hm:=le_max hs.aE7.1;unfold uF CB;refine Gc (L:=kR s) (E:=some) hs.aE7.1 (λn v k hk => ?_) (λn v => ?_) 0;(have hi:=hs.aE7.2 _ (qG hk);obtain ⟨a,ea,ha⟩:=Jr hi.Key;obtain ⟨b,eb,hb⟩:=Gm hi.aD;simp only [kR];rw [if_pos (aY hk),aK hk,qA,ea,qA,eb,qA,bE qb,ha,hb];unfold J0;rw [wrap_add,Int.add_assoc]);·simp only [kR];rw [if_neg qk]
theorem GC {d:M.aE5} (hd:d.ok):tC d=some (A4 d):=by have hm:=le_max hd.aFH.1;unfold tC A4;refine Gc (L:=gO d) (E:=some) hd.aFH.1 (λn v k hk => ?_) (λn v => ?_) 0;(have hi:=hd.aFH.2 _ (qG hk);simp only [gO];rw [if_pos (aY hk),aK hk,qA,Ez hi,qA,bE qb]);·simp only [gO];rw [if_neg qk]
theorem Ls {b:M.aJ} (hb:b.ok):AK b=some (N2 b):=by unfold AK Bl N2;rw [Iy hb.aE6,qA,GC hb.bV.aFT,qA,qA,Ez hb.aG.aFT,qA]
theorem Em {s:M.aC} (hs:s.ok):tY s=some (CB s):=by have hm:=le_max hs.aE7.1;unfold tY CB;refine Gc (L:=kK s) (E:=some) hs.aE7.1 (λn v k hk => ?_) (λn v => ?_) 0;(have hi:=hs.aE7.2 _ (qG hk);obtain ⟨a,ea,ha⟩:=Jh hi.Key;obtain ⟨b,eb,hb⟩:=Gt hi.aD;simp only [kK];rw [if_pos (aY hk),aK hk,qA,ea,qA,eb,qA,bE qb,ha,hb];unfold J0;rw [Ub]);·simp only [kK];rw [if_neg qk]
theorem Gg {d:M.aE5} (hd:d.ok):sU d=some (A4 d):=by have hm:=le_max hd.aFH.1;unfold sU A4;refine Gc (L:=gM d) (E:=some) hd.aFH.1 (λn v k hk => ?_) (λn v => ?_) 0;(have hi:=hd.aFH.2 _ (qG hk);simp only [gM];rw [if_pos (aY hk),aK hk,qA,Em hi,qA,bE qb]);·simp only [gM];rw [if_neg qk]
theorem LA {b:M.aJ} (hb:b.ok):Au b=some (N2 b):=by unfold Au Ba N2;rw [H5 hb.aE6,qA,Gg hb.bV.aFT,qA,qA,Em hb.aG.aFT,qA]
def cV (x y:M.Key):Int:=if Cj x=true/\Cj y=true then (if x.aFU=y.aFU then (if x.N=y.N then (if Op.bytesLess x.aFb.toList y.aFb.toList=true then -1 else if (x.aFb.toList==y.aFb.toList)=true then 0 else 1) else if x.N<y.N then -1 else 1) else if x.aFU<y.aFU then -1 else 1) else 0
theorem vE {x y:M.Key} (hx:x.ok) (hy:y.ok):bG x y=some (cV x y):=by
 unfold bG zY cV
 rw [lR hx,lR hy]
 simp only [qA]
 cases h1:Cj x
 ·simp
 cases h2:Cj y
 ·simp
 simp only [qB,qD,if_false,if_true,and_self,bne_iff_ne,ne_eq,qL,Bool.not_eq_true',Bool.or_eq_false_iff,ite_not,qA]
 repeat' split
 all_goals first | rfl | (exfalso;omega) | (simp_all;done) | (simp_all;omega)
theorem C3 {x y:M.Key} (hx:x.ok) (hy:y.ok):pF x y=some (cV x y):=by
 have key:Lib.compareBytes x.aFb.data.toList y.aFb.data.toList=if Op.bytesLess x.aFb.toList y.aFb.toList=true then -1 else if (x.aFb.toList==y.aFb.toList)=true then 0 else 1:=by rw [EJ,<-ByteArray.toList_eq,<-ByteArray.toList_eq]
 unfold pF uO zZ nD cV
 rw [BW hx,BW hy]
 simp only [qA,key]
 cases h1:Cj x
 ·simp
 cases h2:Cj y
 ·simp
 simp only [qB,qD,if_false,if_true,and_self,bne_iff_ne,ne_eq,qL,Bool.not_eq_true',Bool.or_eq_false_iff,ite_not,qA]
 repeat' split
 all_goals first | rfl | (exfalso;omega) | (simp_all;done) | (simp_all;omega)
theorem Ha {p:M.aJ->Option Bool} {f:M.aJ->Bool} {xs:List M.aJ} (hx:xs.length<=maxLen) (hp : ∀x∈xs,p x=some (f x)):jU xs p=some (lA f xs):=by
 have hm:=le_max hx
 unfold jU
 rw [findAll (L:=cX xs p) (f:=f) (A:=λi=>some (i:Int)) (E:=some (-1)) hx (λn k hk=>by
  simp only [cX]
  rw [if_pos (aY hk),aK hk,qA,hp _ (qG hk),qA,bE qb]) (λn=>by
  simp only [cX]
  rw [if_neg qk]),rN]
theorem Ey {p:M.bC->Option Bool} {f:M.bC->Bool} {xs:List M.bC} (hx:xs.length<=maxLen) (hp : ∀x∈xs,p x=some (f x)):fY xs p=some (lA f xs):=by
 have hm:=le_max hx
 unfold fY
 rw [findAll (L:=dR xs p) (f:=f) (A:=λi=>some (i:Int)) (E:=some (-1)) hx (λn k hk=>by
  simp only [dR]
  rw [if_pos (aY hk),aK hk,qA,hp _ (qG hk),qA,bE qb]) (λn=>by
  simp only [dR]
  rw [if_neg qk]),rN]
theorem Iq {p:M.aFE->Option Bool} {f:M.aFE->Bool} {xs:List M.aFE} (hx:xs.length<=maxLen) (hp : ∀x∈xs,p x=some (f x)):lE xs p=some (lA f xs):=by
 have hm:=le_max hx
 unfold lE
 rw [findAll (L:=dI xs p) (f:=f) (A:=λi=>some (i:Int)) (E:=some (-1)) hx (λn k hk=>by
  simp only [dI]
  rw [if_pos (aY hk),aK hk,qA,hp _ (qG hk),qA,bE qb]) (λn=>by
  simp only [dI]
  rw [if_neg qk]),rN]
theorem CZ {p:M.aFL->Option Bool} {f:M.aFL->Bool} {xs:List M.aFL} (hx:xs.length<=maxLen) (hp : ∀x∈xs,p x=some (f x)):kB xs p=some (lA f xs):=by
 have hm:=le_max hx
 unfold kB
 rw [findAll (L:=cY xs p) (f:=f) (A:=λi=>some (i:Int)) (E:=some (-1)) hx (λn k hk=>by
  simp only [cY]
  rw [if_pos (aY hk),aK hk,qA,hp _ (qG hk),qA,bE qb]) (λn=>by
  simp only [cY]
  rw [if_neg qk]),rN]
theorem Ir {p:M.aC->Option Bool} {f:M.aC->Bool} {xs:List M.aC} (hx:xs.length<=maxLen) (hp : ∀x∈xs,p x=some (f x)):lG xs p=some (lA f xs):=by
 have hm:=le_max hx
 unfold lG
 rw [findAll (L:=dJ xs p) (f:=f) (A:=λi=>some (i:Int)) (E:=some (-1)) hx (λn k hk=>by
  simp only [dJ]
  rw [if_pos (aY hk),aK hk,qA,hp _ (qG hk),qA,bE qb]) (λn=>by
  simp only [dJ]
  rw [if_neg qk]),rN]
theorem Ik {p:M.Field->Option Bool} {f:M.Field->Bool} {xs:List M.Field} (hx:xs.length<=maxLen) (hp : ∀x∈xs,p x=some (f x)):lM xs p=some (lA f xs):=by
 have hm:=le_max hx
 unfold lM
 rw [findAll (L:=dF xs p) (f:=f) (A:=λi=>some (i:Int)) (E:=some (-1)) hx (λn k hk=>by
  simp only [dF]
  rw [if_pos (aY hk),aK hk,qA,hp _ (qG hk),qA,bE qb]) (λn=>by
  simp only [dF]
  rw [if_neg qk]),rN]
def nAt (a b:ByteArray) (x:M.aJ):Bool:=(x.aFD.toList==a.toList)&&(x.Top.toList==b.toList)
theorem wB {s:M.aA} {a b:ByteArray} (hs:s.ok):iU s a b=some (lA (nAt a b) s.aE8):=by have hm:=le_max hs.aE8.1;unfold iU;rw [findAll (L:=gK s a b) (f:=nAt a b) (A:=λi=>some (i:Int)) (E:=some (-1)) hs.aE8.1 (λm k hk => ?_) (λm => ?_),rN];(simp only [gK];rw [if_pos (aY hk),aK hk,qA,bE qb,Vq];rfl);·simp only [gK];rw [if_neg qk]
theorem DN {s:M.aA} {a b:ByteArray} (hs:s.ok):nN s a b=some (lA (nAt a b) s.aE8):=by unfold nN;rw [Ha (f:=nAt a b) hs.aE8.1 (λx _=>by simp only [sR,aZ];rfl),qA]
def BF (l:List M.aFP) (k:Nat):Bool:=(l[k]?).any (λx=>Cj x.Key&&bW x.aD)&&(decide (k=0)||(l[k-1]?).any λy=>(l[k]?).any λx=>decide (cV y.Key x.Key<0))
def hJ (s:M.aC):Bool:=(List.range s.aE7.length).all (BF s.aE7)&&(mH s.Name&&(decide (s.aE7.length<=16)&&inR s.aFZ 0 1000000))
def De (x:M.bD):Bool:=inR x.aFC 1 1000000&&(inR x.Seq 1 1000000&&(Cj x.Key&&(mH x.Field&&inR x.N 0 1000000000)))
def C8 (o:M.aM) (k:Nat):Bool:=(o.aFO[k]?).any λx=>De x&&((x.aFC==o.aFC)&&(x.Seq==i64.wrap ((i64.wrap (o.aFd-(List.length o.aFO:Int)))+(k:Int))))
def sN (o:M.aM):Bool:=(List.range o.aFO.length).all (C8 o)&&(inR o.aFC 1 1000000&&(inR o.aFd 1 1000000&&decide (o.aFO.length<=20)))
theorem yP {s:M.aC} (hs:s.ok):lX s=some (hJ s):=by
 have hm:=le_max hs.aE7.1
 unfold lX hJ
 rw [nH (L:=iW s) (g:=BF s.aE7) (F:=some false) (E:=some (mH s.Name&&(decide (s.aE7.length<=16)&&inR s.aFZ 0 1000000))) hs.aE7.1 (λn k hk => ?_) (λn => ?_),aZ]
 ·have hf:=hs.aE7.2 _ (qG hk)
  simp only [iW]
  rw [if_pos (aY hk),aK hk,qA,bE qb,lR hf.Key,qA,oY hf.aD,qA]
  unfold BF
  rw [qF hk]
  generalize iW s n ((k+1:Nat):Int)=Z
  by_cases h0:k=0
  ·subst h0;simp only [Option.any_some];generalize Cj s.aE7[0].Key=a;generalize bW s.aE7[0].aD=b;cases a<;>cases b<;>simp
  ·have e:i64.wrap ((k:Int)-1)=((k-1:Nat):Int):=by rw [bL qb qb];omega
   have hk1:k-1<s.aE7.length:=by omega
   have hg:=hs.aE7.2 _ (qG hk1)
   rw [if_pos (c:=(decide ((k:Int)>0))=true) qc,e,aK hk1,qA,vE hg.Key hf.Key,qA,qF hk1]
   simp only [Option.any_some,h0,decide_false,Bool.false_or]
   generalize Cj s.aE7[k].Key=a
   generalize bW s.aE7[k].aD=b
   by_cases hc:cV s.aE7[k-1].Key s.aE7[k].Key<0
   ·rw [if_neg (c:=(decide (cV s.aE7[k-1].Key s.aE7[k].Key>=0))=true) qc];cases a<;>cases b<;>simp [hc]
   ·rw [if_pos (c:=(decide (cV s.aE7[k-1].Key s.aE7[k].Key>=0))=true) qc];cases a<;>cases b<;>simp [hc]
 ·simp only [iW];rw [if_neg qk,cZ hs.Name,qA,cD,qA,aZ,aZ];congr 3;simp;omega
theorem Ao {x:M.bD} (hx:x.ok):jI x=some (De x):=by unfold jI De;simp only [cD,lR hx.Key,cZ hx.Field,qA,aZ]
theorem C9 {s:M.aC} (hs:s.ok):vV s=some (hJ s):=by
 have hm:=le_max hs.aE7.1
 unfold vV hJ
 rw [nH (L:=iX s) (g:=BF s.aE7) (F:=some false) (E:=some (mH s.Name&&(decide (s.aE7.length<=16)&&inR s.aFZ 0 1000000))) hs.aE7.1 (λn k hk => ?_) (λn => ?_),aZ]
 ·have hf:=hs.aE7.2 _ (qG hk)
  simp only [iX]
  rw [if_pos (aY hk),aK hk,qA,bE qb,BW hf.Key,qA,ET hf.aD,qA]
  unfold BF
  rw [qF hk]
  generalize iX s n ((k+1:Nat):Int)=Z
  by_cases h0:k=0
  ·subst h0;simp only [Option.any_some];generalize Cj s.aE7[0].Key=a;generalize bW s.aE7[0].aD=b;cases a<;>cases b<;>simp
  ·have e:i64.wrap ((k:Int)-1)=((k-1:Nat):Int):=by rw [bL qb qb];omega
   have hk1:k-1<s.aE7.length:=by omega
   have hg:=hs.aE7.2 _ (qG hk1)
   rw [if_pos (c:=(decide ((k:Int)>0))=true) qc,e,aK hk1,qA,C3 hg.Key hf.Key,qA,qF hk1]
   simp only [Option.any_some,h0,decide_false,Bool.false_or]
   generalize Cj s.aE7[k].Key=a
   generalize bW s.aE7[k].aD=b
   by_cases hc:cV s.aE7[k-1].Key s.aE7[k].Key<0
   ·rw [if_neg (c:=(decide (cV s.aE7[k-1].Key s.aE7[k].Key>=0))=true) qc];cases a<;>cases b<;>simp [hc]
   ·rw [if_pos (c:=(decide (cV s.aE7[k-1].Key s.aE7[k].Key>=0))=true) qc];cases a<;>cases b<;>simp [hc]
 ·simp only [iX];rw [if_neg qk,dX hs.Name,qA,bX,qA,aZ,aZ];congr 3;simp;omega
theorem Ci {x:M.bD} (hx:x.ok):mR x=some (De x):=by unfold mR De;simp only [bX,BW hx.Key,dX hx.Field,qA,aZ]
theorem oV {o:M.aM} (ho:o.ok):iD o=some (sN o):=by have hm:=le_max ho.aFO.1;unfold iD sN;rw [nH (L:=mD o) (g:=C8 o) (F:=some false) (E:=some true) ho.aFO.1 (λn k hk => ?_) (λn => ?_)];(simp only [cD,qA];by_cases h:o.aFO.length<=20;(rw [if_neg (c:=(decide ((List.length o.aFO:Int)>20))=true) qc];cases (List.range o.aFO.length).all (C8 o)<;>cases inR o.aFC 1 1000000<;>cases inR o.aFd 1 1000000<;>simp [h]);·rw [if_pos (c:=(decide ((List.length o.aFO:Int)>20))=true) qc];cases inR o.aFC 1 1000000<;>cases inR o.aFd 1 1000000<;>simp [h]);(have hf:=ho.aFO.2 _ (qG hk);simp only [mD];rw [if_pos (aY hk),aK hk,qA,bE qb,Ao hf,qA];unfold C8;rw [qF hk,Option.any_some];simp only [tM,fX,Vq]);·simp only [mD];rw [if_neg qk]
theorem KL {o:M.aM} (ho:o.ok):zH o=some (sN o):=by have hm:=le_max ho.aFO.1;unfold zH sN;rw [nH (L:=mF o) (g:=C8 o) (F:=some false) (E:=some (inR o.aFC 1 1000000&&(inR o.aFd 1 1000000&&decide (o.aFO.length<=20)))) ho.aFO.1 (λn k hk => ?_) (λn => ?_),aZ];(have hf:=ho.aFO.2 _ (qG hk);simp only [mF];rw [if_pos (aY hk),aK hk,qA,bE qb,Ci hf,qA];unfold C8;rw [qF hk,Option.any_some];simp only [tM,fX,Vq]);·simp only [mF];rw [if_neg qk];simp only [bX,qA,aZ];congr 3;simp;omega
def BN (r:M.aG):Bool:=hJ r.aFT&&((r.aFT.Name.toList==(⟨#[110,111,116,101,115]⟩:ByteArray).toList)&&(inR r.aFq 0 1000000000000&&sN r.aFS.aM))
theorem AN {r:M.aG} (hr:r.ok):mW r=some (BN r):=by unfold mW BN;simp only [yP hr.aFT,cD,oV hr.aFS.aM,qA,aZ]
theorem Jj {r:M.aG} (hr:r.ok):yC r=some (BN r):=by unfold yC BN;simp only [C9 hr.aFT,bX,KL hr.aFS.aM,qA,aZ]
theorem DQ {α:Type} {f:α->Bool} {xs:List α} {k:Nat} (hk:k<xs.length) (hf:f xs[k]=true):(lA f xs==(k:Int))=(List.range k).all (λj => !((xs[j]?).any f)):=by
 rw [Bool.eq_iff_iff]
 simp only [beq_iff_eq,qQ,qR]
 constructor
 ·intro h j hj
  unfold lA at h
  cases e:xs.findIdx? f with
  | none=>rw [e] at h;simp only at h;omega
  | some i =>
   rw [e] at h
   simp only at h
   have:i=k:=by omega
   subst this
   have:=(List.findIdx?_eq_some_iff_getElem.1 e).2.2 j hj
   rw [qF qb]
   simpa using this
 ·intro h;have e:xs.findIdx? f=some k:=List.findIdx?_eq_some_iff_getElem.2 ⟨hk,hf,λj hj=>by have:=h j hj;rw [qF qb] at this;simpa using this⟩;unfold lA;rw [e]
def EI (a b:ByteArray) (x:M.aFL):Bool:=(x.aFD.toList==a.toList)&&(x.aFo.toList==b.toList)
theorem E7 {c:M.aFE} {a b:ByteArray} (hc:c.ok):oK c a b=some (lA (EI a b) c.aFK):=by unfold oK;rw [CZ (f:=EI a b) hc.aFK.1 (λx _=>by simp only [tV,aZ];rfl),qA]
def ED (r:M.aE9):Bool:=inR r.aFu 1 4&&(inR r.aFm 0 999&&(inR r.aE3 0 1000000000000&&decide ((List.length r.aFw:Int)<=60)))
theorem HU (r:M.aE9):wW r=some (ED r):=by unfold wW ED;simp only [cD,qA,aZ]
theorem DH (r:M.aE9):sD r=some (ED r):=by unfold sD ED;simp only [bX,qA,aZ]
def VS (l:List M.aFL) (k:Nat) (x:M.aFL):Bool:=(List.range k).all λj => !((l[j]?).any (EI x.aFD x.aFo))
def BJ (l:List M.aFL) (k:Nat):Bool:=(l[k]?).any λx=>mH x.aFD&&(mH x.aFo&&(ED x.aE9&&VS l k x))
def D2 (l:List M.aFL):Bool:=(List.range l.length).all (BJ l)&&decide (l.length<=12)
theorem H7 {l:List M.aFL} (hl:l.length<=maxLen /\ ∀x∈l,M.aFL.ok x):sE l=some (D2 l):=by
 have hm:=le_max hl.1
 unfold sE D2
 rw [nH (L:=eM l) (g:=BJ l) (F:=some false) (E:=some (decide (l.length<=12))) hl.1 (λn k hk => ?_) (λn => ?_),aZ]
 ·have hf:=hl.2 _ (qG hk)
  simp only [eM]
  rw [if_pos (aY hk),aK hk,qA,bE qb,cZ hf.aFD,qA,cZ hf.aFo,qA,HU,qA]
  rw [nH (N:=k) (L:=gJ l (k:Int) l[k] (λ_=>eM l n ((k+1:Nat):Int))) (g:=λj => !((l[j]?).any (EI l[k].aFD l[k].aFo))) (F:=some false) (E:=eM l n ((k+1:Nat):Int)) (by have:=hl.1;omega) (λn j hj => ?_) (λn => ?_)]
  ·unfold BJ VS;rw [qF hk,Option.any_some];simp only [fX,Vq]
  ·have hj2:j<l.length:=by omega
   simp only [gJ]
   rw [if_pos (aY hj),aK hj2,qA,bE qb,Vq,qF hj2,Option.any_some,fX]
   rfl
  ·simp only [gJ];rw [if_neg qk]
 ·simp only [eM];rw [if_neg qk];simp;omega
theorem Jn {c:M.aFE} {Z:Option Bool} (hc:c.ok):eU c (λ_=>Z) fuel 0=if (List.range c.aFK.length).all (BJ c.aFK)=true then Z else some false:=by have hm:=le_max hc.aFK.1;refine nH (L:=eU c (λ_=>Z)) hc.aFK.1 (λn k hk => ?_) (λn => ?_);(have hf:=hc.aFK.2 _ (qG hk);simp only [eU];rw [if_pos (aY hk),aK hk,qA,bE qb,dX hf.aFD,qA,dX hf.aFo,qA,E7 hc,qA,DH,qA,tM,DQ hk (by simp [EI])];unfold BJ VS;rw [qF hk,Option.any_some];generalize eU c (λ_=>Z) n ((k+1:Nat):Int)=Y;generalize mH c.aFK[k].aFD=a;generalize mH c.aFK[k].aFo=b;generalize ED c.aFK[k].aE9=d;generalize (List.range k).all (λj => !((c.aFK[j]?).any (EI c.aFK[k].aFD c.aFK[k].aFo)))=e;cases a<;>cases b<;>cases d<;>cases e<;>rfl);·simp only [eU];rw [if_neg qk]
theorem Jo {c:M.aFE} {Z:Option Bool} (hc:c.ok):eI c (λ_=>Z) fuel 0=if (List.range c.aFK.length).all (BJ c.aFK)=true then Z else some false:=by have hm:=le_max hc.aFK.1;refine nH (L:=eI c (λ_=>Z)) hc.aFK.1 (λn k hk => ?_) (λn => ?_);(have hf:=hc.aFK.2 _ (qG hk);simp only [eI];rw [if_pos (aY hk),aK hk,qA,bE qb,dX hf.aFD,qA,dX hf.aFo,qA,E7 hc,qA,DH,qA,tM,DQ hk (by simp [EI])];unfold BJ VS;rw [qF hk,Option.any_some];generalize eI c (λ_=>Z) n ((k+1:Nat):Int)=Y;generalize mH c.aFK[k].aFD=a;generalize mH c.aFK[k].aFo=b;generalize ED c.aFK[k].aE9=d;generalize (List.range k).all (λj => !((c.aFK[j]?).any (EI c.aFK[k].aFD c.aFK[k].aFo)))=e;cases a<;>cases b<;>cases d<;>cases e<;>rfl);·simp only [eI];rw [if_neg qk]
def Fx (l:List M.aFE) (k:Nat):Bool:=(l[k]?).any (λc=>inR c.aE3 1 1000000000000&&D2 c.aFK)&&(decide (k=0)||(l[k-1]?).any λd=>(l[k]?).any λc=>decide (d.aE3<c.aE3))
def kC (s:M.aE):Bool:=(List.range s.aE6.length).all (Fx s.aE6)&&decide (s.aE6.length<=4)
theorem oF {s:M.aE} (hs:s.ok):cE s=some (kC s):=by
 have hm:=le_max hs.aE6.1
 unfold cE kC
 rw [nH (L:=eJ s) (g:=Fx s.aE6) (F:=some false) (E:=some (decide (s.aE6.length<=4))) hs.aE6.1 (λn k hk => ?_) (λn => ?_),aZ]
 ·have hf:=hs.aE6.2 _ (qG hk)
  simp only [eJ]
  rw [if_pos (aY hk),aK hk,qA,bE qb,cD,qA,H7 hf.aFK]
  simp only [qA]
  unfold Fx
  rw [qF hk]
  generalize eJ s n ((k+1:Nat):Int)=Z
  by_cases h0:k=0
  ·subst h0;simp only [Option.any_some];generalize inR s.aE6[0].aE3 1 1000000000000=a;generalize D2 s.aE6[0].aFK=b;cases a<;>cases b<;>simp
  ·have e:i64.wrap ((k:Int)-1)=((k-1:Nat):Int):=by rw [bL qb qb];omega
   have hk1:k-1<s.aE6.length:=by omega
   rw [if_pos (c:=(decide ((k:Int)>0))=true) qc,e,aK hk1,qA,qF hk1]
   simp only [Option.any_some,h0,decide_false,Bool.false_or]
   generalize inR s.aE6[k].aE3 1 1000000000000=a
   generalize D2 s.aE6[k].aFK=b
   by_cases hc:s.aE6[k-1].aE3<s.aE6[k].aE3
   ·rw [if_neg (c:=(decide (s.aE6[k-1].aE3>=s.aE6[k].aE3))=true) qc];cases a<;>cases b<;>simp [hc]
   ·rw [if_pos (c:=(decide (s.aE6[k-1].aE3>=s.aE6[k].aE3))=true) qc];cases a<;>cases b<;>simp [hc]
 ·simp only [eJ];rw [if_neg qk];simp;omega
theorem HW {s:M.aE} (hs:s.ok):wD s=some (kC s):=by
 have hm:=le_max hs.aE6.1
 unfold wD kC
 rw [nH (L:=eT s) (g:=Fx s.aE6) (F:=some false) (E:=some (decide (s.aE6.length<=4))) hs.aE6.1 (λn k hk => ?_) (λn => ?_),aZ]
 ·have hf:=hs.aE6.2 _ (qG hk)
  simp only [eT]
  rw [if_pos (aY hk),aK hk,qA,bE qb,bX,qA,Jn hf,Jo hf]
  unfold Fx D2
  rw [qF hk]
  generalize eT s n ((k+1:Nat):Int)=Z
  have aa:(decide ((List.length s.aE6[k].aFK:Int)>12)) = !decide (s.aE6[k].aFK.length<=12):=by by_cases h:s.aE6[k].aFK.length<=12;(simp [h];omega);·simp [h];omega
  rw [aa]
  by_cases h0:k=0
  ·subst h0;simp only [Option.any_some];generalize inR s.aE6[0].aE3 1 1000000000000=a;generalize (List.range s.aE6[0].aFK.length).all (BJ s.aE6[0].aFK)=b;generalize decide (s.aE6[0].aFK.length<=12)=d;cases a<;>cases b<;>cases d<;>simp
  ·have e:i64.wrap ((k:Int)-1)=((k-1:Nat):Int):=by rw [bL qb qb];omega
   have hk1:k-1<s.aE6.length:=by omega
   rw [if_pos (c:=(decide ((k:Int)>0))=true) qc,e,aK hk1,qA,qF hk1]
   simp only [Option.any_some,h0,decide_false,Bool.false_or]
   generalize inR s.aE6[k].aE3 1 1000000000000=a
   generalize (List.range s.aE6[k].aFK.length).all (BJ s.aE6[k].aFK)=b
   generalize decide (s.aE6[k].aFK.length<=12)=d
   by_cases hc:s.aE6[k-1].aE3<s.aE6[k].aE3
   ·rw [if_neg (c:=(decide (s.aE6[k].aE3<=s.aE6[k-1].aE3))=true) qc];cases a<;>cases b<;>cases d<;>simp [hc]
   ·rw [if_pos (c:=(decide (s.aE6[k].aE3<=s.aE6[k-1].aE3))=true) qc];cases a<;>cases b<;>cases d<;>simp [hc]
 ·simp only [eT];rw [if_neg qk];simp;omega
theorem MV {p:M.aE4} (hs:p.aFD.size<=maxLen) : ∀(n k:Nat) (v:Int),k<=3->3-k<n -> ∃r,bZ p n v (k:Int)=some r
 | 0,k,v,_,h=>by omega
 | n+1,k,v,h3,h=>by
  simp only [bZ]
  have hl:(List.length ([p.aFl,p.aFg,p.aFY]))=3:=rfl
  by_cases hk:k<3
  ·rw [if_pos qc,aK (by rw [hl];exact hk),qA,cD,qA,bE qb]
   obtain ⟨r1,e1⟩:=MV hs n (k+1) ([p.aFl,p.aFg,p.aFY][k]'(by rw [hl];exact hk)) qb qb
   obtain ⟨r2,e2⟩:=MV hs n (k+1) v qb qb
   rw [e1,e2]
   repeat' split
   all_goals exact ⟨_,rfl⟩
  ·have:k=3:=by omega
   subst this
   rw [if_neg qd,cZ hs]
   exact ⟨_,rfl⟩
theorem MU {p:M.aE4} (hs:p.aFD.size<=maxLen) : ∀(n:Nat) (v k:Int),0<=v->dK p n v k=bZ p n v k
 | 0,_,_,_=>rfl
 | n+1,v,k,hv=>by
  simp only [dK,bZ]
  rw [cZ hs,dX hs]
  cases hx:idx ([p.aFl,p.aFg,p.aFY]) k with
  | none=>rfl
  | some x =>
   simp only [qA,cD,bX]
   cases hi:inR x 0 1000000000000 with
   | false=>rfl
   | true =>
    have h0:0<=x:=by unfold inR at hi;simp at hi;exact hi.1
    by_cases e0:x=0
    ·subst e0
     have:(if (0:Int)>v then (0:Int) else v)=v:=by rw [if_neg qb]
     rw [this,MU hs n v _ hv]
     rfl
    ·by_cases e1:x<=v
     ·have e2:(decide (x<=v))=true:=by simpa using e1
      simp [e0,e1]
     ·have:(if x>v then x else v)=x:=by rw [if_pos qb]
      rw [this,MU hs n x _ h0]
      simp [e0,e1]
def Y9 (p:M.aE4):Bool:=(lN p).getD false
theorem BZ {p:M.aE4} (hp:p.ok):lN p=some (Y9 p):=by obtain ⟨r,e⟩:=MV hp.aFD fuel 0 0 qb qi;have e2:lN p=some r:=e;unfold Y9;rw [e2];rfl
theorem Fk {p:M.aE4} (hp:p.ok):vF p=some (Y9 p):=by rw [<-BZ hp];exact MU hp.aFD fuel 0 0 qb
def B4 (a:ByteArray) (x:M.aC):Bool:=x.Name.toList==a.toList
end Go.Proofs.YtipmihbgjolaaaaGreat.gen
