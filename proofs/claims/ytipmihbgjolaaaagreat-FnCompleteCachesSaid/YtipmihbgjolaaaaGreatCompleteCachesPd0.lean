/-
  Helper text. No conditions.
-/
import Derived.Test.YtipmihbgjolaaaaGreatCompleteCachesPz
set_option linter.unusedVariables false
set_option linter.unusedSimpArgs false
namespace Go.Proofs.YtipmihbgjolaaaaGreat.gen
open Go Go.Sh
open Go.IntKind (i64)
def AP (p0:M.aGl) (p1:Int):Option Bool:=
 (sP p0).bind λx1=>(if x1=true then (if (decide (p1>(i64.wrap (p0.aGg-2))))=true then (if (decide (p1<=p0.aGg))=true then (some (decide (p1>=1))) else (some false)) else (some false)) else (some false))
def Bo (p0:List ByteArray) (p1:ByteArray):Option Bool:=
 (mC p0 p1).bind λx1=>(some (decide (x1>=0)))
def DN (p0:M.aGl) (p1:ByteArray):Option Bool:=
 (Bo p0.aG8 p1).bind λx1=>(some x1)
def CD (p0:M.aGl) (p1:ByteArray) (p2:Int):Option M.aGm:=
 (sP p0).bind λx1=>(if (!x1)=true then ((jN).bind λx4=>(some x4)) else ((AP p0 p2).bind λx6=>(if (!x6)=true then (some (⟨1,404,p0.aGg,([]:List Int),false⟩:M.aGm)) else ((DN p0 p1).bind λx9=>(if (!x9)=true then (some (⟨1,404,p0.aGg,([]:List Int),false⟩:M.aGm)) else ((wB p0 p1 p2).bind λaa=>(some (⟨1,200,p2,aa,p0.aHJ⟩:M.aGm))))))))
theorem cF (x a b:Int):bA x a b=some (inR x a b):=by unfold bA inR;by_cases h:a<=x;(rw [if_pos (by simpa using h)];simp [h]);·rw [if_neg (by simpa using h)];simp [h]
theorem cH (x a b:Int):bB x a b=some (inR x a b):=by unfold bB inR;by_cases h:a<=x;(rw [if_pos (by simpa using h)];simp [h]);·rw [if_neg (by simpa using h)];simp [h]
def KH (r:M.aGm) (b:Bool):Int:=if b=true then 76 else i64.wrap (16+(List.length r.aHT:Int))
theorem Jc (r:M.aGm) (b:Bool):xI r b=some (KH r b):=by unfold xI KH;cases b<;>rfl
theorem IG (r:M.aGm) (b:Bool):xX r b=some (KH r b):=by unfold xX KH;cases b<;>rfl
def SP (v:Int) (x:M.aGw):Int:=i64.wrap (v+KH x.aGm (x.aGm.aHX==3))
def Dj (s:M.aC):Int:=s.aGi.foldl (λv c=>c.aGs.foldl SP v) 0
theorem Jf {s:M.aC} (hs:s.ok):xC s=some (Dj s):=by have hm:=le_max hs.aGi.1;unfold xC Dj;refine GM (L:=eO s) (E:=some) hs.aGi.1 (λn v k hk => ?_) (λn v => ?_) 0;(have hc:=hs.aGi.2 _ (qG hk);have hm2:=le_max hc.aGs.1;simp only [eO];rw [if_pos (aY hk),bD qb];refine GM (xs:=s.aGi[k].aGs) (L:=jO s (k:Int) (λv3 _=>eO s n v3 ((k+1:Nat):Int))) (E:=λv3=>eO s n v3 ((k+1:Nat):Int)) hc.aGs.1 (λn v j hj => ?_) (λn v => ?_) v;(simp only [jO];rw [aK hk,qA,if_pos (aY hj),aK hj,qA,Jc,qA,bD qb];rfl);·simp only [jO];rw [aK hk,qA,if_neg qk]);·simp only [eO];rw [if_neg qk]
theorem IK {s:M.aC} (hs:s.ok):xQ s=some (Dj s):=by have hm:=le_max hs.aGi.1;unfold xQ Dj;refine GM (L:=eX s) (E:=some) hs.aGi.1 (λn v k hk => ?_) (λn v => ?_) 0;(have hc:=hs.aGi.2 _ (qG hk);have hm2:=le_max hc.aGs.1;simp only [eX];rw [if_pos (aY hk),bD qb,aK hk,qA];refine GM (xs:=s.aGi[k].aGs) (L:=jM s.aGi[k] (λv3 _=>eX s n v3 ((k+1:Nat):Int))) (E:=λv3=>eX s n v3 ((k+1:Nat):Int)) hc.aGs.1 (λn v j hj => ?_) (λn v => ?_) v;(simp only [jM];rw [if_pos (aY hj),aK hj,qA,IG,qA,bD qb];rfl);·simp only [jM];rw [if_neg qk]);·simp only [eX];rw [if_neg qk]
def Pt (b:UInt8):Bool:=(decide (97<=b.toNat)&&decide (b.toNat<=122))||(decide (48<=b.toNat)&&decide (b.toNat<=57))
def LW (s:ByteArray):Bool:=VJ s Pt&&decide (s.size<=12)
theorem Ng {s:ByteArray} (hs:s.size<=maxLen):As s=some (LW s):=by
 have hm:=le_max hs
 unfold As LW
 rw [Ia (L:=iQ s) (g:=Pt) (F:=some false) (E:=some (decide (s.size<=12))) hs (λn k hk => ?_) (λn => ?_),aZ]
 ·simp only [iQ]
  rw [if_pos (aY hk),Ht hk,qA,bD qb]
  generalize s[k]=b
  unfold Pt
  generalize iQ s n ((k+1:Nat):Int)=Z
  simp only [Bool.or_eq_true,qM,qL,Bool.not_eq_true',decide_eq_false_iff_not]
  repeat' split
  all_goals first | rfl | (exfalso;omega)
 ·simp only [iQ];rw [if_neg qk];simp;omega
theorem JO {s:ByteArray} (hs:s.size<=maxLen):yJ s=some (LW s):=by
 have hm:=le_max hs
 unfold yJ LW
 rw [Ia (L:=eG s) (g:=Pt) (F:=some false) (E:=some (decide (s.size<=12))) hs (λn k hk => ?_) (λn => ?_),aZ]
 ·simp only [eG]
  rw [if_pos (aY hk),Ht hk,qA,bD qb]
  generalize s[k]=b
  unfold Pt
  generalize eG s n ((k+1:Nat):Int)=Z
  simp only [Bool.or_eq_true,qM,qL,Bool.not_eq_true',decide_eq_false_iff_not]
  repeat' split
  all_goals first | rfl | (exfalso;omega)
 ·simp only [eG];rw [if_neg qk];simp;omega
def CN (k:M.Key):Bool:=inR k.aG7 1 3&&(inR k.N (-1000000000000) 1000000000000&&(LW k.aHG&&((k.aG7 != 2||k.N==0)&&(k.aG7 != 1||(k.aHG.toList==(⟨#[]⟩:ByteArray).toList)))))
theorem mI {k:M.Key} (hk:k.ok):fP k=some (CN k):=by have ht:=Ng hk.aHG;unfold fP CN;simp only [cF,ht,qA];generalize inR k.aG7 1 3=a;generalize inR k.N (-1000000000000) 1000000000000=b;generalize LW k.aHG=c;generalize (k.aHG.toList==(⟨#[]⟩:ByteArray).toList)=g;by_cases h1:k.aG7=2<;>by_cases h2:k.aG7=1<;>by_cases h3:k.N=0<;>cases a<;>cases b<;>cases c<;>cases g<;>simp [h1,h2,h3]<;>omega
theorem Cp {k:M.Key} (hk:k.ok):vU k=some (CN k):=by have ht:=JO hk.aHG;unfold vU CN;simp only [cH,ht,qA];generalize inR k.aG7 1 3=a;generalize inR k.N (-1000000000000) 1000000000000=b;generalize LW k.aHG=c;generalize (k.aHG.toList==(⟨#[]⟩:ByteArray).toList)=g;by_cases h1:k.aG7=2<;>by_cases h2:k.aG7=1<;>by_cases h3:k.N=0<;>cases a<;>cases b<;>cases c<;>cases g<;>simp [h1,h2,h3]<;>omega
theorem FJ {k:M.Key} (h:CN k=true):k.aHG.size<=12:=by unfold CN LW at h;simp only [qM,qL] at h;omega
def Kt (k:M.Key):Nat:=if CN k=true then (if (k.aG7==2)=true then 1+k.aHG.size else 7+k.aHG.size) else 0
theorem J3 {k:M.Key} (hk:k.ok) : ∃l,kT k=some l/\l.length=Kt k:=by
 unfold kT Kt
 rw [mI hk,qA]
 by_cases h:CN k=true
 ·have ht:=FJ h
  have hl:=aQ k.aHG
  rw [if_neg (by simp [h]),if_pos h,Ue]
  by_cases h2:(k.aG7==2)=true
  ·have h3 : ¬(k.aG7 != 2)=true:=by simp [bne,h2]
   rw [if_pos h2]
   have e0 : ∀n r,r.length<=7->bE k (n+1) 5 r=some (r++bR k.aHG):=by intro n r hr;simp only [bE];rw [if_pos qe,if_neg h3,dN qb,qA]
   exact ⟨_,e0 (18446744073709551609+6) _ qd,qc⟩
  ·have h3:(k.aG7 != 2)=true:=by simp [bne,h2]
   rw [if_neg h2]
   have st : ∀n (v:Nat) r,r.length<=7->v<=5 -> ∃x:Int,bE k (n+1) (v:Int) r=bE k n ((v:Int)-1) (r++[x]):=by intro n v r hr hv;apply Exists.intro;simp only [bE];rw [if_pos qd,if_pos h3,if_pos (by rw [bN qb qb];simp;omega),dN qc,qA,bN (n:=(v:Int)-1) qb qb]
   obtain ⟨x1,e1⟩:=st (18446744073709551609+6) 5 ([(IntKind.u8.wrap k.aG7)]) qd qd
   obtain ⟨x2,e2⟩:=st (18446744073709551609+5) 4 ([(IntKind.u8.wrap k.aG7)]++[x1]) qd qd
   obtain ⟨x3,e3⟩:=st (18446744073709551609+4) 3 ([(IntKind.u8.wrap k.aG7)]++[x1]++[x2]) qd qd
   obtain ⟨x4,e4⟩:=st (18446744073709551609+3) 2 ([(IntKind.u8.wrap k.aG7)]++[x1]++[x2]++[x3]) qd qd
   obtain ⟨x5,e5⟩:=st (18446744073709551609+2) 1 ([(IntKind.u8.wrap k.aG7)]++[x1]++[x2]++[x3]++[x4]) qd qd
   obtain ⟨x6,e6⟩:=st (18446744073709551609+1) 0 ([(IntKind.u8.wrap k.aG7)]++[x1]++[x2]++[x3]++[x4]++[x5]) qd qd
   have e7 : ∀n r,r.length<=7->bE k (n+1) (-1) r=some (r++bR k.aHG):=by intro n r hr;simp only [bE];rw [if_neg qe,dN qb,qA]
   exact ⟨_,(e1.trans (e2.trans (e3.trans (e4.trans (e5.trans (e6.trans (e7 _ _ qd))))))),qc⟩
 ·rw [if_pos (by simp [h]),if_neg h];exact ⟨_,rfl,rfl⟩
theorem JR {k:M.Key} (hk:k.ok) : ∃l,yU k=some l/\l.length=Kt k:=by
 unfold yU Kt
 rw [Cp hk,qA]
 by_cases h:CN k=true
 ·have ht:=FJ h
  have hl:=aQ k.aHG
  rw [if_neg (by simp [h]),if_pos h,Ue]
  by_cases h2:(k.aG7==2)=true
  ·have h3 : ¬(k.aG7 != 2)=true:=by simp [bne,h2]
   rw [if_pos h2,if_neg h3,dN qc,qA]
   exact ⟨_,rfl,qc⟩
  ·have h3:(k.aG7 != 2)=true:=by simp [bne,h2]
   rw [if_neg h2,if_pos h3]
   have st : ∀n (v:Nat) r,r.length<=7->v<=5 -> ∃x:Int,gB k (n+1) (v:Int) r=gB k n ((v:Int)-1) (r++[x]):=by intro n v r hr hv;apply Exists.intro;simp only [gB];rw [if_pos qd,if_pos (by rw [bN qb qb];simp;omega),dN qc,qA,bN (n:=(v:Int)-1) qb qb]
   obtain ⟨x1,e1⟩:=st (18446744073709551609+6) 5 ([(IntKind.u8.wrap k.aG7)]) qd qd
   obtain ⟨x2,e2⟩:=st (18446744073709551609+5) 4 ([(IntKind.u8.wrap k.aG7)]++[x1]) qd qd
   obtain ⟨x3,e3⟩:=st (18446744073709551609+4) 3 ([(IntKind.u8.wrap k.aG7)]++[x1]++[x2]) qd qd
   obtain ⟨x4,e4⟩:=st (18446744073709551609+3) 2 ([(IntKind.u8.wrap k.aG7)]++[x1]++[x2]++[x3]) qd qd
   obtain ⟨x5,e5⟩:=st (18446744073709551609+2) 1 ([(IntKind.u8.wrap k.aG7)]++[x1]++[x2]++[x3]++[x4]) qd qd
   obtain ⟨x6,e6⟩:=st (18446744073709551609+1) 0 ([(IntKind.u8.wrap k.aG7)]++[x1]++[x2]++[x3]++[x4]++[x5]) qd qd
   have e7 : ∀n r,r.length<=7->gB k (n+1) (-1) r=some (r++bR k.aHG):=by intro n r hr;simp only [gB];rw [if_neg qe,dN qb,qA]
   exact ⟨_,(e1.trans (e2.trans (e3.trans (e4.trans (e5.trans (e6.trans (e7 _ _ qd))))))),qc⟩
 ·rw [if_pos (by simp [h]),if_neg h];exact ⟨_,rfl,rfl⟩
def JD (sl:Bool) (b:UInt8):Bool:=(decide (97<=b.toNat)&&decide (b.toNat<=122))||(sl&&decide (b.toNat=47))
def OY (s:ByteArray) (n:Int) (sl:Bool):Bool:=VJ s (JD sl)&&inR (s.size:Int) 1 n
def mT (s:ByteArray):Bool:=VJ s (JD false)&&inR (s.size:Int) 1 8
theorem dF {s:ByteArray} (hs:s.size<=maxLen):cA s=some (mT s):=by
 have hm:=le_max hs
 unfold cA mT
 rw [Ia (L:=nS s) (g:=JD false) (F:=some false) (E:=some (inR (s.size:Int) 1 8)) hs (λn k hk => ?_) (λn => ?_),aZ]
 ·simp only [nS]
  rw [if_pos (aY hk),Ht hk,qA,bD qb]
  generalize s[k]=b
  unfold JD
  generalize nS s n ((k+1:Nat):Int)=Z
  simp only [Bool.or_eq_true,qM,qL,Bool.not_eq_true',decide_eq_false_iff_not,Bool.false_and,Bool.or_false]
  repeat' split
  all_goals first | rfl | (exfalso;omega)
 ·simp only [nS];rw [if_neg qk,cF,qA]
theorem Hw {s:ByteArray} {m:Int} {sl:Bool} (hs:s.size<=maxLen):At s m sl=some (OY s m sl):=by
 have hm:=le_max hs
 unfold At OY
 rw [Ia (L:=iU s m sl) (g:=JD sl) (F:=some false) (E:=some (inR (s.size:Int) 1 m)) hs (λn k hk => ?_) (λn => ?_),aZ]
 ·simp only [iU]
  rw [if_pos (aY hk),Ht hk,qA,bD qb]
  generalize s[k]=b
  unfold JD
  generalize iU s m sl n ((k+1:Nat):Int)=Z
  cases sl<;>simp only [Bool.or_eq_true,qM,qL,Bool.not_eq_true',decide_eq_false_iff_not,Bool.false_and,Bool.or_false,Bool.true_and,beq_eq_false_iff_ne,ne_eq,qD,if_true,if_false]
  all_goals repeat' split
  all_goals first | rfl | (exfalso;omega)
 ·simp only [iU];rw [if_neg qk,cH,qA]
theorem eC {s:ByteArray} (hs:s.size<=maxLen):cP s=some (mT s):=by unfold cP;rw [Hw hs,qA];rfl
def QT (x:M.Field):Bool:=mT x.Name&&inR x.N 0 1000000000
def Es (l:List M.Field) (k:Nat):Bool:=(l[k]?).any QT&&(decide (k=0)||(l[k-1]?).any λy=>(l[k]?).any λx=>Op.bytesLess y.Name.toList x.Name.toList)
def cG (r:M.aE):Bool:=(List.range r.aGn.length).all (Es r.aGn)&&decide (r.aGn.length<=6)
theorem pT {r:M.aE} (hr:r.ok):bL r=some (cG r):=by
 have hm:=le_max hr.aGn.1
 unfold bL cG
 rw [mU (L:=hH r) (g:=Es r.aGn) (F:=some false) (E:=some (decide (r.aGn.length<=6))) hr.aGn.1 (λn k hk => ?_) (λn => ?_),aZ]
 ·have hf:=hr.aGn.2 _ (qG hk)
  simp only [hH]
  rw [if_pos (aY hk),aK hk,qA,bD qb,dF hf.Name,qA,cF,qA]
  unfold Es QT
  rw [qF hk]
  generalize hH r n ((k+1:Nat):Int)=Z
  by_cases h0:k=0
  ·subst h0;simp only [Option.any_some];generalize mT r.aGn[0].Name=a;generalize inR r.aGn[0].N 0 1000000000=b;cases a<;>cases b<;>simp
  ·have e:i64.wrap ((k:Int)-1)=((k-1:Nat):Int):=by rw [bN qb qb];omega
   have hk1:k-1<r.aGn.length:=by omega
   rw [if_pos (c:=(decide ((k:Int)>0))=true) qc,e,aK hk1,qA,qF hk1]
   simp only [Option.any_some,h0,decide_false,Bool.false_or]
   generalize mT r.aGn[k].Name=a
   generalize inR r.aGn[k].N 0 1000000000=b
   generalize Op.bytesLess r.aGn[k-1].Name.toList r.aGn[k].Name.toList=c
   cases a<;>cases b<;>cases c<;>simp
 ·simp only [hH];rw [if_neg qk];simp;omega
theorem Fz {r:M.aE} (hr:r.ok):xF r=some (cG r):=by
 have hm:=le_max hr.aGn.1
 unfold xF cG
 rw [mU (L:=iA r) (g:=Es r.aGn) (F:=some false) (E:=some (decide (r.aGn.length<=6))) hr.aGn.1 (λn k hk => ?_) (λn => ?_),aZ]
 ·have hf:=hr.aGn.2 _ (qG hk)
  simp only [iA]
  rw [if_pos (aY hk),aK hk,qA,bD qb,eC hf.Name,qA,cH,qA]
  unfold Es QT
  rw [qF hk]
  generalize iA r n ((k+1:Nat):Int)=Z
  by_cases h0:k=0
  ·subst h0;simp only [Option.any_some];generalize mT r.aGn[0].Name=a;generalize inR r.aGn[0].N 0 1000000000=b;cases a<;>cases b<;>simp
  ·have e:i64.wrap ((k:Int)-1)=((k-1:Nat):Int):=by rw [bN qb qb];omega
   have hk1:k-1<r.aGn.length:=by omega
   rw [if_pos (c:=(decide ((k:Int)>0))=true) qc,e,aK hk1,qA,qF hk1]
   simp only [Option.any_some,h0,decide_false,Bool.false_or]
   rw [C2 r.aGn[k-1].Name.toList r.aGn[k].Name.toList]
   generalize mT r.aGn[k].Name=a
   generalize inR r.aGn[k].N 0 1000000000=b
   generalize (Op.bytesLess r.aGn[k].Name.toList r.aGn[k-1].Name.toList||r.aGn[k].Name.toList==r.aGn[k-1].Name.toList)=c
   cases a<;>cases b<;>cases c<;>simp
 ·simp only [iA];rw [if_neg qk];simp;omega
theorem yF {r:M.aE} (h:cG r=true):r.aGn.length<=6 /\ ∀x∈r.aGn,x.Name.size<=8/\0<=x.N/\x.N<=1000000000:=by unfold cG at h;simp only [qM,qL,qQ,qR] at h;refine ⟨h.2,λx hx => ?_⟩;obtain ⟨k,hk,rfl⟩:=List.getElem_of_mem hx;have:=h.1 k hk;unfold Es QT mT inR at this;rw [qF hk] at this;simp only [Option.any_some,qM,qL] at this;omega
theorem AQ {r:List Int} {n:Nat} (hr:r.length<=1048576) (hn:n<=1000000000000) : ∃l,bS r (n:Int)=some l/\l.length=r.length+(uv n).length:=by
 have hi:inR (n:Int) 0 1000000000000=true:=by unfold inR;simp;omega
 unfold bS
 rw [dN qc,qA,cF,qA,hi,if_neg qd]
 refine TM (L:=cQ) (b:=λv=>IntKind.u8.wrap (i64.wrap (BitVec.ofInt (IntKind.i64.bits) (i64.wrap (BitVec.ofInt (IntKind.i64.bits) v&&&BitVec.ofInt (IntKind.i64.bits) 127).toNat)|||BitVec.ofInt (IntKind.i64.bits) 128).toNat)) (c:=λv=>IntKind.u8.wrap v) (λm n r h1 h2 => ?_) (λm n r h1 => ?_) 8 fuel n r qb qb qi qb
 ·simp only [cQ];rw [if_pos qc,uvf]
 ·simp only [cQ];rw [if_neg qc]
theorem AN {r:List Int} {n:Nat} (hr:r.length<=1048576) (hn:n<=1000000000000) : ∃l,jL r (n:Int)=some l/\l.length=r.length+(uv n).length:=by
 have hi:inR (n:Int) 0 1000000000000=true:=by unfold inR;simp;omega
 unfold jL kW
 rw [dN qc,qA,qA,cH,qA,hi,if_neg qd]
 refine TM (L:=gD) (b:=λv=>IntKind.u8.wrap (i64.wrap ((Int.tmod v 128)+128))) (c:=λv=>IntKind.u8.wrap v) (λm n r h1 h2 => ?_) (λm n r h1 => ?_) 8 fuel n r qb qb qi qb
 ·simp only [gD];rw [if_pos qc,uvt h2]
 ·simp only [gD];rw [if_neg qc]
def BH (x:M.Field):Nat:=(uv x.Name.size).length+x.Name.size+(uv x.N.toNat).length
def KL (r:M.aE):Nat:=if cG r=true then (uv r.aGn.length).length+cX BH r.aGn else 0
theorem H2 {r b:List Int} (hr:r.length<=1000) (hb:b.length<=1000) : ∃l,bQ r b=some l/\l.length=r.length+((uv b.length).length+b.length):=by obtain ⟨l,e,hl⟩:=AQ (r:=r) (n:=b.length) qb qb;have h9:=Gy b.length qb;refine ⟨l++b,?_,qc⟩;unfold bQ;rw [e,qA,dN qb,qA]
theorem GU {r:M.aE} (hr:r.ok) : ∃l,gG r=some l/\l.length=KL r:=by
 unfold gG KL
 rw [pT hr,qA]
 by_cases h:cG r=true
 ·obtain ⟨h6,hf⟩:=yF h
  have hw : ∀x∈r.aGn,BH x<=26:=by intro x hx;have:=hf x hx;have h1:=Gy x.Name.size qb;have h2:=Gy x.N.toNat qb;unfold BH;omega
  have hsum:=dI hw
  obtain ⟨l,e,hl⟩:=AQ (r:=[]) (n:=r.aGn.length) qd qb
  have h9:=Gy r.aGn.length qb
  rw [if_neg (by simp [h]),if_pos h,e,qA]
  have:=QB (xs:=r.aGn) (w:=BH) (B:=900) (L:=cW r) (λn k hk q hq => ?_) (λn q => ?_) fuel 0 l qi qb (by simp at hl ⊢;omega)
  ·obtain ⟨z,e2,hz⟩:=this;exact ⟨z,e2,by simp at hl hz;omega⟩
  ·have hx:=hf _ (qG hk);have hw2:=hw _ (qG hk);obtain ⟨a,ea,ha⟩:=H2 (r:=q) (b:=bR r.aGn[k].Name) qb (by rw [aQ];omega);rw [aQ] at ha;have hn:=Gy r.aGn[k].Name.size qb;obtain ⟨b,eb,hb⟩:=AQ (r:=a) (n:=r.aGn[k].N.toNat) qb qb;rw [Int.toNat_of_nonneg hx.2.1] at eb;refine ⟨b,by unfold BH;omega,?_⟩;simp only [cW];rw [if_pos (aY hk),aK hk,qA,ea,qA,eb,qA,bD qb]
  ·simp only [cW];rw [if_neg qk]
 ·rw [if_pos (by simp [h]),if_neg h];exact ⟨_,rfl,rfl⟩
theorem HV {r b:List Int} (hr:r.length<=1000) (hb:b.length<=1000) : ∃l,wC r b=some l/\l.length=r.length+((uv b.length).length+b.length):=by obtain ⟨l,e,hl⟩:=AN (r:=r) (n:=b.length) qb qb;have h9:=Gy b.length qb;refine ⟨l++b,?_,qc⟩;unfold wC;rw [e,qA,dN qb,qA]
theorem G0 {r:M.aE} (hr:r.ok) : ∃l,tW r=some l/\l.length=KL r:=by
 unfold tW KL
 rw [Fz hr,qA]
 by_cases h:cG r=true
 ·obtain ⟨h6,hf⟩:=yF h
  have hw : ∀x∈r.aGn,BH x<=26:=by intro x hx;have:=hf x hx;have h1:=Gy x.Name.size qb;have h2:=Gy x.N.toNat qb;unfold BH;omega
  have hsum:=dI hw
  obtain ⟨l,e,hl⟩:=AN (r:=[]) (n:=r.aGn.length) qd qb
  have h9:=Gy r.aGn.length qb
  rw [if_neg (by simp [h]),if_pos h,e,qA]
  have:=QB (xs:=r.aGn) (w:=BH) (B:=900) (L:=gY r) (λn k hk q hq => ?_) (λn q => ?_) fuel 0 l qi qb (by simp at hl ⊢;omega)
  ·obtain ⟨z,e2,hz⟩:=this;exact ⟨z,e2,by simp at hl hz;omega⟩
  ·have hx:=hf _ (qG hk);have hw2:=hw _ (qG hk);obtain ⟨a,ea,ha⟩:=HV (r:=q) (b:=bR r.aGn[k].Name) qb (by rw [aQ];omega);rw [aQ] at ha;have hn:=Gy r.aGn[k].Name.size qb;obtain ⟨b,eb,hb⟩:=AN (r:=a) (n:=r.aGn[k].N.toNat) qb qb;rw [Int.toNat_of_nonneg hx.2.1] at eb;refine ⟨b,by unfold BH;omega,?_⟩;simp only [gY];rw [if_pos (aY hk),aK hk,qA,ea,qA,eb,qA,bD qb]
  ·simp only [gY];rw [if_neg qk]
 ·rw [if_pos (by simp [h]),if_neg h];exact ⟨_,rfl,rfl⟩
def Ky (v:Int) (x:M.aG1):Int:=i64.wrap (v+((Kt x.Key:Int)+(KL x.aE:Int)))
def C8 (s:M.aD):Int:=s.aGk.foldl Ky 0
def BB (d:M.aGh):Int:=d.aGq.foldl (λv s=>i64.wrap (v+C8 s)) 0
def OV (b:M.aG):Int:=i64.wrap ((i64.wrap ((i64.wrap (Dj b.aGi+i64.wrap (BB b.bW.aG4+(List.length b.bW.Log:Int))))+C8 b.aH.aG4))+(i64.wrap (40*(List.length b.aH.aG5.aM.aG0:Int))))
theorem E6 {s:M.aD} (hs:s.ok):vE s=some (C8 s):=by have hm:=le_max hs.aGk.1;unfold vE C8;refine GM (L:=lI s) (E:=some) hs.aGk.1 (λn v k hk => ?_) (λn v => ?_) 0;(have hi:=hs.aGk.2 _ (qG hk);obtain ⟨a,ea,ha⟩:=J3 hi.Key;obtain ⟨b,eb,hb⟩:=GU hi.aE;simp only [lI];rw [if_pos (aY hk),aK hk,qA,ea,qA,eb,qA,bD qb,ha,hb];unfold Ky;rw [wrap_add,Int.add_assoc]);·simp only [lI];rw [if_neg qk]
theorem Hb {d:M.aGh} (hd:d.ok):uD d=some (BB d):=by have hm:=le_max hd.aGq.1;unfold uD BB;refine GM (L:=gX d) (E:=some) hd.aGq.1 (λn v k hk => ?_) (λn v => ?_) 0;(have hi:=hd.aGq.2 _ (qG hk);simp only [gX];rw [if_pos (aY hk),aK hk,qA,E6 hi,qA,bD qb]);·simp only [gX];rw [if_neg qk]
theorem L4 {b:M.aG} (hb:b.ok):Ba b=some (OV b):=by unfold Ba BP OV;rw [Jf hb.aGi,qA,Hb hb.bW.aG4,qA,qA,E6 hb.aH.aG4,qA]
theorem ET {s:M.aD} (hs:s.ok):uW s=some (C8 s):=by have hm:=le_max hs.aGk.1;unfold uW C8;refine GM (L:=lB s) (E:=some) hs.aGk.1 (λn v k hk => ?_) (λn v => ?_) 0;(have hi:=hs.aGk.2 _ (qG hk);obtain ⟨a,ea,ha⟩:=JR hi.Key;obtain ⟨b,eb,hb⟩:=G0 hi.aE;simp only [lB];rw [if_pos (aY hk),aK hk,qA,ea,qA,eb,qA,bD qb,ha,hb];unfold Ky;rw [Vd]);·simp only [lB];rw [if_neg qk]
theorem GO {d:M.aGh} (hd:d.ok):tU d=some (BB d):=by have hm:=le_max hd.aGq.1;unfold tU BB;refine GM (L:=gV d) (E:=some) hd.aGq.1 (λn v k hk => ?_) (λn v => ?_) 0;(have hi:=hd.aGq.2 _ (qG hk);simp only [gV];rw [if_pos (aY hk),aK hk,qA,ET hi,qA,bD qb]);·simp only [gV];rw [if_neg qk]
theorem Mc {b:M.aG} (hb:b.ok):AU b=some (OV b):=by unfold AU BF OV;rw [IK hb.aGi,qA,GO hb.bW.aG4,qA,qA,ET hb.aH.aG4,qA]
def dC (x y:M.Key):Int:=if CN x=true/\CN y=true then (if x.aG7=y.aG7 then (if x.N=y.N then (if Op.bytesLess x.aHG.toList y.aHG.toList=true then -1 else if (x.aHG.toList==y.aHG.toList)=true then 0 else 1) else if x.N<y.N then -1 else 1) else if x.aG7<y.aG7 then -1 else 1) else 0
theorem wG {x y:M.Key} (hx:x.ok) (hy:y.ok):bI x y=some (dC x y):=by
 unfold bI Au dC
 rw [mI hx,mI hy]
 simp only [qA]
 cases h1:CN x
 ·simp
 cases h2:CN y
 ·simp
 simp only [qB,qD,if_false,if_true,and_self,bne_iff_ne,ne_eq,qL,Bool.not_eq_true',Bool.or_eq_false_iff,ite_not,qA]
 repeat' split
 all_goals first | rfl | (exfalso;omega) | (simp_all;done) | (simp_all;omega)
theorem DD {x y:M.Key} (hx:x.ok) (hy:y.ok):pY x y=some (dC x y):=by
 have key:Lib.compareBytes x.aHG.data.toList y.aHG.data.toList=if Op.bytesLess x.aHG.toList y.aHG.toList=true then -1 else if (x.aHG.toList==y.aHG.toList)=true then 0 else 1:=by rw [Fo,<-ByteArray.toList_eq,<-ByteArray.toList_eq]
 unfold pY vT Av nV dC
 rw [Cp hx,Cp hy]
 simp only [qA,key]
 cases h1:CN x
 ·simp
 cases h2:CN y
 ·simp
 simp only [qB,qD,if_false,if_true,and_self,bne_iff_ne,ne_eq,qL,Bool.not_eq_true',Bool.or_eq_false_iff,ite_not,qA]
 repeat' split
 all_goals first | rfl | (exfalso;omega) | (simp_all;done) | (simp_all;omega)
theorem HH {p:M.aG->Option Bool} {f:M.aG->Bool} {xs:List M.aG} (hx:xs.length<=maxLen) (hp : ∀x∈xs,p x=some (f x)):kD xs p=some (kG f xs):=by
 have hm:=le_max hx
 unfold kD
 rw [findAll (L:=dD xs p) (f:=f) (A:=λi=>some (i:Int)) (E:=some (-1)) hx (λn k hk=>by
  simp only [dD]
  rw [if_pos (aY hk),aK hk,qA,hp _ (qG hk),qA,bD qb]) (λn=>by
  simp only [dD]
  rw [if_neg qk]),uB]
theorem I8 {p:M.aGo->Option Bool} {f:M.aGo->Bool} {xs:List M.aGo} (hx:xs.length<=maxLen) (hp : ∀x∈xs,p x=some (f x)):lV xs p=some (kG f xs):=by
 have hm:=le_max hx
 unfold lV
 rw [findAll (L:=dL xs p) (f:=f) (A:=λi=>some (i:Int)) (E:=some (-1)) hx (λn k hk=>by
  simp only [dL]
  rw [if_pos (aY hk),aK hk,qA,hp _ (qG hk),qA,bD qb]) (λn=>by
  simp only [dL]
  rw [if_neg qk]),uB]
theorem Dz {p:M.aGw->Option Bool} {f:M.aGw->Bool} {xs:List M.aGw} (hx:xs.length<=maxLen) (hp : ∀x∈xs,p x=some (f x)):kQ xs p=some (kG f xs):=by
 have hm:=le_max hx
 unfold kQ
 rw [findAll (L:=dE xs p) (f:=f) (A:=λi=>some (i:Int)) (E:=some (-1)) hx (λn k hk=>by
  simp only [dE]
  rw [if_pos (aY hk),aK hk,qA,hp _ (qG hk),qA,bD qb]) (λn=>by
  simp only [dE]
  rw [if_neg qk]),uB]
theorem I9 {p:M.aD->Option Bool} {f:M.aD->Bool} {xs:List M.aD} (hx:xs.length<=maxLen) (hp : ∀x∈xs,p x=some (f x)):lY xs p=some (kG f xs):=by
 have hm:=le_max hx
 unfold lY
 rw [findAll (L:=dM xs p) (f:=f) (A:=λi=>some (i:Int)) (E:=some (-1)) hx (λn k hk=>by
  simp only [dM]
  rw [if_pos (aY hk),aK hk,qA,hp _ (qG hk),qA,bD qb]) (λn=>by
  simp only [dM]
  rw [if_neg qk]),uB]
theorem I0 {p:M.Field->Option Bool} {f:M.Field->Bool} {xs:List M.Field} (hx:xs.length<=maxLen) (hp : ∀x∈xs,p x=some (f x)):mF xs p=some (kG f xs):=by
 have hm:=le_max hx
 unfold mF
 rw [findAll (L:=dK xs p) (f:=f) (A:=λi=>some (i:Int)) (E:=some (-1)) hx (λn k hk=>by
  simp only [dK]
  rw [if_pos (aY hk),aK hk,qA,hp _ (qG hk),qA,bD qb]) (λn=>by
  simp only [dK]
  rw [if_neg qk]),uB]
def nAt (a b:ByteArray) (x:M.aG):Bool:=(x.aGl.toList==a.toList)&&(x.Top.toList==b.toList)
theorem sZ {s:M.aA} {a b:ByteArray} (hs:s.ok):fD s a b=some (kG (nAt a b) s.aGj):=by have hm:=le_max hs.aGj.1;unfold fD;rw [findAll (L:=gT s a b) (f:=nAt a b) (A:=λi=>some (i:Int)) (E:=some (-1)) hs.aGj.1 (λm k hk => ?_) (λm => ?_),uB];(simp only [gT];rw [if_pos (aY hk),aK hk,qA,bD qb,WA];rfl);·simp only [gT];rw [if_neg qk]
theorem Jm {s:M.aA} {a b:ByteArray} (hs:s.ok):tA s a b=some (kG (nAt a b) s.aGj):=by unfold tA;rw [HH (f:=nAt a b) hs.aGj.1 (λx _=>by simp only [tR,aZ];rfl),qA]
def Ca (l:List M.aG1) (k:Nat):Bool:=(l[k]?).any (λx=>CN x.Key&&cG x.aE)&&(decide (k=0)||(l[k-1]?).any λy=>(l[k]?).any λx=>decide (dC y.Key x.Key<0))
def iI (s:M.aD):Bool:=(List.range s.aGk.length).all (Ca s.aGk)&&(mT s.Name&&(decide (s.aGk.length<=16)&&inR s.aHD 0 1000000))
def DO (x:M.bC):Bool:=inR x.aGp 1 1000000&&(inR x.Seq 1 1000000&&(CN x.Key&&(mT x.Field&&inR x.N 0 1000000000)))
def DJ (o:M.aM) (k:Nat):Bool:=(o.aG0[k]?).any λx=>DO x&&((x.aGp==o.aGp)&&(x.Seq==i64.wrap ((i64.wrap (o.aHH-(List.length o.aG0:Int)))+(k:Int))))
def tN (o:M.aM):Bool:=(List.range o.aG0.length).all (DJ o)&&(inR o.aGp 1 1000000&&(inR o.aHH 1 1000000&&decide (o.aG0.length<=20)))
theorem zN {s:M.aD} (hs:s.ok):mL s=some (iI s):=by
 have hm:=le_max hs.aGk.1
 unfold mL iI
 rw [mU (L:=jD s) (g:=Ca s.aGk) (F:=some false) (E:=some (mT s.Name&&(decide (s.aGk.length<=16)&&inR s.aHD 0 1000000))) hs.aGk.1 (λn k hk => ?_) (λn => ?_),aZ]
 ·have hf:=hs.aGk.2 _ (qG hk)
  simp only [jD]
  rw [if_pos (aY hk),aK hk,qA,bD qb,mI hf.Key,qA,pT hf.aE,qA]
  unfold Ca
  rw [qF hk]
  generalize jD s n ((k+1:Nat):Int)=Z
  by_cases h0:k=0
  ·subst h0;simp only [Option.any_some];generalize CN s.aGk[0].Key=a;generalize cG s.aGk[0].aE=b;cases a<;>cases b<;>simp
  ·have e:i64.wrap ((k:Int)-1)=((k-1:Nat):Int):=by rw [bN qb qb];omega
   have hk1:k-1<s.aGk.length:=by omega
   have hg:=hs.aGk.2 _ (qG hk1)
   rw [if_pos (c:=(decide ((k:Int)>0))=true) qc,e,aK hk1,qA,wG hg.Key hf.Key,qA,qF hk1]
   simp only [Option.any_some,h0,decide_false,Bool.false_or]
   generalize CN s.aGk[k].Key=a
   generalize cG s.aGk[k].aE=b
   by_cases hc:dC s.aGk[k-1].Key s.aGk[k].Key<0
   ·rw [if_neg (c:=(decide (dC s.aGk[k-1].Key s.aGk[k].Key>=0))=true) qc];cases a<;>cases b<;>simp [hc]
   ·rw [if_pos (c:=(decide (dC s.aGk[k-1].Key s.aGk[k].Key>=0))=true) qc];cases a<;>cases b<;>simp [hc]
 ·simp only [jD];rw [if_neg qk,dF hs.Name,qA,cF,qA,aZ,aZ];congr 3;simp;omega
theorem AO {x:M.bC} (hx:x.ok):jR x=some (DO x):=by unfold jR DO;simp only [cF,mI hx.Key,dF hx.Field,qA,aZ]
theorem DK {s:M.aD} (hs:s.ok):wP s=some (iI s):=by
 have hm:=le_max hs.aGk.1
 unfold wP iI
 rw [mU (L:=jF s) (g:=Ca s.aGk) (F:=some false) (E:=some (mT s.Name&&(decide (s.aGk.length<=16)&&inR s.aHD 0 1000000))) hs.aGk.1 (λn k hk => ?_) (λn => ?_),aZ]
 ·have hf:=hs.aGk.2 _ (qG hk)
  simp only [jF]
  rw [if_pos (aY hk),aK hk,qA,bD qb,Cp hf.Key,qA,Fz hf.aE,qA]
  unfold Ca
  rw [qF hk]
  generalize jF s n ((k+1:Nat):Int)=Z
  by_cases h0:k=0
  ·subst h0;simp only [Option.any_some];generalize CN s.aGk[0].Key=a;generalize cG s.aGk[0].aE=b;cases a<;>cases b<;>simp
  ·have e:i64.wrap ((k:Int)-1)=((k-1:Nat):Int):=by rw [bN qb qb];omega
   have hk1:k-1<s.aGk.length:=by omega
   have hg:=hs.aGk.2 _ (qG hk1)
   rw [if_pos (c:=(decide ((k:Int)>0))=true) qc,e,aK hk1,qA,DD hg.Key hf.Key,qA,qF hk1]
   simp only [Option.any_some,h0,decide_false,Bool.false_or]
   generalize CN s.aGk[k].Key=a
   generalize cG s.aGk[k].aE=b
   by_cases hc:dC s.aGk[k-1].Key s.aGk[k].Key<0
   ·rw [if_neg (c:=(decide (dC s.aGk[k-1].Key s.aGk[k].Key>=0))=true) qc];cases a<;>cases b<;>simp [hc]
   ·rw [if_pos (c:=(decide (dC s.aGk[k-1].Key s.aGk[k].Key>=0))=true) qc];cases a<;>cases b<;>simp [hc]
 ·simp only [jF];rw [if_neg qk,eC hs.Name,qA,cH,qA,aZ,aZ];congr 3;simp;omega
theorem CK {x:M.bC} (hx:x.ok):nI x=some (DO x):=by unfold nI DO;simp only [cH,Cp hx.Key,eC hx.Field,qA,aZ]
theorem pS {o:M.aM} (ho:o.ok):iN o=some (tN o):=by have hm:=le_max ho.aG0.1;unfold iN tN;rw [mU (L:=mQ o) (g:=DJ o) (F:=some false) (E:=some true) ho.aG0.1 (λn k hk => ?_) (λn => ?_)];(simp only [cF,qA];by_cases h:o.aG0.length<=20;(rw [if_neg (c:=(decide ((List.length o.aG0:Int)>20))=true) qc];cases (List.range o.aG0.length).all (DJ o)<;>cases inR o.aGp 1 1000000<;>cases inR o.aHH 1 1000000<;>simp [h]);·rw [if_pos (c:=(decide ((List.length o.aG0:Int)>20))=true) qc];cases inR o.aGp 1 1000000<;>cases inR o.aHH 1 1000000<;>simp [h]);(have hf:=ho.aG0.2 _ (qG hk);simp only [mQ];rw [if_pos (aY hk),aK hk,qA,bD qb,AO hf,qA];unfold DJ;rw [qF hk,Option.any_some];simp only [uM,gF,WA]);·simp only [mQ];rw [if_neg qk]
theorem Li {o:M.aM} (ho:o.ok):zZ o=some (tN o):=by have hm:=le_max ho.aG0.1;unfold zZ tN;rw [mU (L:=mR o) (g:=DJ o) (F:=some false) (E:=some (inR o.aGp 1 1000000&&(inR o.aHH 1 1000000&&decide (o.aG0.length<=20)))) ho.aG0.1 (λn k hk => ?_) (λn => ?_),aZ];(have hf:=ho.aG0.2 _ (qG hk);simp only [mR];rw [if_pos (aY hk),aK hk,qA,bD qb,CK hf,qA];unfold DJ;rw [qF hk,Option.any_some];simp only [uM,gF,WA]);·simp only [mR];rw [if_neg qk];simp only [cH,qA,aZ];congr 3;simp;omega
def Ci (r:M.aH):Bool:=iI r.aG4&&((r.aG4.Name.toList==(⟨#[110,111,116,101,115]⟩:ByteArray).toList)&&(inR r.aHS 0 1000000000000&&tN r.aG5.aM))
theorem Be {r:M.aH} (hr:r.ok):nO r=some (Ci r):=by unfold nO Ci;simp only [zN hr.aG4,cF,pS hr.aG5.aM,qA,aZ]
theorem JT {r:M.aH} (hr:r.ok):yW r=some (Ci r):=by unfold yW Ci;simp only [DK hr.aG4,cH,Li hr.aG5.aM,qA,aZ]
theorem Ek {α:Type} {f:α->Bool} {xs:List α} {k:Nat} (hk:k<xs.length) (hf:f xs[k]=true):(kG f xs==(k:Int))=(List.range k).all (λj => !((xs[j]?).any f)):=by
 rw [Bool.eq_iff_iff]
 simp only [beq_iff_eq,qQ,qR]
 constructor
 ·intro h j hj
  unfold kG at h
  cases e:xs.findIdx? f with
  | none=>rw [e] at h;simp only at h;omega
  | some i =>
   rw [e] at h
   simp only at h
   have:i=k:=by omega
   subst this
   have:=(List.findIdx?_eq_some_iff_getElem.1 e).2.2 j hj
   rw [qF qb]
   simpa using this
 ·intro h;have e:xs.findIdx? f=some k:=List.findIdx?_eq_some_iff_getElem.2 ⟨hk,hf,λj hj=>by have:=h j hj;rw [qF qb] at this;simpa using this⟩;unfold kG;rw [e]
def Fm (a b:ByteArray) (x:M.aGw):Bool:=(x.aGl.toList==a.toList)&&(x.aHQ.toList==b.toList)
theorem FO {c:M.aGo} {a b:ByteArray} (hc:c.ok):pG c a b=some (kG (Fm a b) c.aGs):=by unfold pG;rw [Dz (f:=Fm a b) hc.aGs.1 (λx _=>by simp only [uT,aZ];rfl),qA]
def Ff (r:M.aGm):Bool:=inR r.aHX 1 4&&(inR r.aHO 0 999&&(inR r.aGg 0 1000000000000&&decide ((List.length r.aHT:Int)<=60)))
theorem Ix (r:M.aGm):xP r=some (Ff r):=by unfold xP Ff;simp only [cF,qA,aZ]
theorem Eb (r:M.aGm):tB r=some (Ff r):=by unfold tB Ff;simp only [cH,qA,aZ]
def W7 (l:List M.aGw) (k:Nat) (x:M.aGw):Bool:=(List.range k).all λj => !((l[j]?).any (Fm x.aGl x.aHQ))
def Cd (l:List M.aGw) (k:Nat):Bool:=(l[k]?).any λx=>mT x.aGl&&(mT x.aHQ&&(Ff x.aGm&&W7 l k x))
def Ex (l:List M.aGw):Bool:=(List.range l.length).all (Cd l)&&decide (l.length<=12)
theorem IM {l:List M.aGw} (hl:l.length<=maxLen /\ ∀x∈l,M.aGw.ok x):tC l=some (Ex l):=by
 have hm:=le_max hl.1
 unfold tC Ex
 rw [mU (L:=eS l) (g:=Cd l) (F:=some false) (E:=some (decide (l.length<=12))) hl.1 (λn k hk => ?_) (λn => ?_),aZ]
 ·have hf:=hl.2 _ (qG hk)
  simp only [eS]
  rw [if_pos (aY hk),aK hk,qA,bD qb,dF hf.aGl,qA,dF hf.aHQ,qA,Ix,qA]
  rw [mU (N:=k) (L:=gS l (k:Int) l[k] (λ_=>eS l n ((k+1:Nat):Int))) (g:=λj => !((l[j]?).any (Fm l[k].aGl l[k].aHQ))) (F:=some false) (E:=eS l n ((k+1:Nat):Int)) (by have:=hl.1;omega) (λn j hj => ?_) (λn => ?_)]
  ·unfold Cd W7;rw [qF hk,Option.any_some];simp only [gF,WA]
  ·have hj2:j<l.length:=by omega
   simp only [gS]
   rw [if_pos (aY hj),aK hj2,qA,bD qb,WA,qF hj2,Option.any_some,gF]
   rfl
  ·simp only [gS];rw [if_neg qk]
 ·simp only [eS];rw [if_neg qk];simp;omega
theorem JY {c:M.aGo} {Z:Option Bool} (hc:c.ok):fA c (λ_=>Z) fuel 0=if (List.range c.aGs.length).all (Cd c.aGs)=true then Z else some false:=by have hm:=le_max hc.aGs.1;refine mU (L:=fA c (λ_=>Z)) hc.aGs.1 (λn k hk => ?_) (λn => ?_);(have hf:=hc.aGs.2 _ (qG hk);simp only [fA];rw [if_pos (aY hk),aK hk,qA,bD qb,eC hf.aGl,qA,eC hf.aHQ,qA,FO hc,qA,Eb,qA,uM,Ek hk (by simp [Fm])];unfold Cd W7;rw [qF hk,Option.any_some];generalize fA c (λ_=>Z) n ((k+1:Nat):Int)=Y;generalize mT c.aGs[k].aGl=a;generalize mT c.aGs[k].aHQ=b;generalize Ff c.aGs[k].aGm=d;generalize (List.range k).all (λj => !((c.aGs[j]?).any (Fm c.aGs[k].aGl c.aGs[k].aHQ)))=e;cases a<;>cases b<;>cases d<;>cases e<;>rfl);·simp only [fA];rw [if_neg qk]
theorem JZ {c:M.aGo} {Z:Option Bool} (hc:c.ok):eP c (λ_=>Z) fuel 0=if (List.range c.aGs.length).all (Cd c.aGs)=true then Z else some false:=by have hm:=le_max hc.aGs.1;refine mU (L:=eP c (λ_=>Z)) hc.aGs.1 (λn k hk => ?_) (λn => ?_);(have hf:=hc.aGs.2 _ (qG hk);simp only [eP];rw [if_pos (aY hk),aK hk,qA,bD qb,eC hf.aGl,qA,eC hf.aHQ,qA,FO hc,qA,Eb,qA,uM,Ek hk (by simp [Fm])];unfold Cd W7;rw [qF hk,Option.any_some];generalize eP c (λ_=>Z) n ((k+1:Nat):Int)=Y;generalize mT c.aGs[k].aGl=a;generalize mT c.aGs[k].aHQ=b;generalize Ff c.aGs[k].aGm=d;generalize (List.range k).all (λj => !((c.aGs[j]?).any (Fm c.aGs[k].aGl c.aGs[k].aHQ)))=e;cases a<;>cases b<;>cases d<;>cases e<;>rfl);·simp only [eP];rw [if_neg qk]
def Ga (l:List M.aGo) (k:Nat):Bool:=(l[k]?).any (λc=>inR c.aGg 1 1000000000000&&Ex c.aGs)&&(decide (k=0)||(l[k-1]?).any λd=>(l[k]?).any λc=>decide (d.aGg<c.aGg))
def fU (s:M.aC):Bool:=(List.range s.aGi.length).all (Ga s.aGi)&&decide (s.aGi.length<=4)
theorem pB {s:M.aC} (hs:s.ok):cM s=some (fU s):=by
 have hm:=le_max hs.aGi.1
 unfold cM fU
 rw [mU (L:=eQ s) (g:=Ga s.aGi) (F:=some false) (E:=some (decide (s.aGi.length<=4))) hs.aGi.1 (λn k hk => ?_) (λn => ?_),aZ]
 ·have hf:=hs.aGi.2 _ (qG hk)
  simp only [eQ]
  rw [if_pos (aY hk),aK hk,qA,bD qb,cF,qA,IM hf.aGs]
  simp only [qA]
  unfold Ga
  rw [qF hk]
  generalize eQ s n ((k+1:Nat):Int)=Z
  by_cases h0:k=0
  ·subst h0;simp only [Option.any_some];generalize inR s.aGi[0].aGg 1 1000000000000=a;generalize Ex s.aGi[0].aGs=b;cases a<;>cases b<;>simp
  ·have e:i64.wrap ((k:Int)-1)=((k-1:Nat):Int):=by rw [bN qb qb];omega
   have hk1:k-1<s.aGi.length:=by omega
   rw [if_pos (c:=(decide ((k:Int)>0))=true) qc,e,aK hk1,qA,qF hk1]
   simp only [Option.any_some,h0,decide_false,Bool.false_or]
   generalize inR s.aGi[k].aGg 1 1000000000000=a
   generalize Ex s.aGi[k].aGs=b
   by_cases hc:s.aGi[k-1].aGg<s.aGi[k].aGg
   ·rw [if_neg (c:=(decide (s.aGi[k-1].aGg>=s.aGi[k].aGg))=true) qc];cases a<;>cases b<;>simp [hc]
   ·rw [if_pos (c:=(decide (s.aGi[k-1].aGg>=s.aGi[k].aGg))=true) qc];cases a<;>cases b<;>simp [hc]
 ·simp only [eQ];rw [if_neg qk];simp;omega
theorem IA {s:M.aC} (hs:s.ok):wX s=some (fU s):=by
 have hm:=le_max hs.aGi.1
 unfold wX fU
 rw [mU (L:=eZ s) (g:=Ga s.aGi) (F:=some false) (E:=some (decide (s.aGi.length<=4))) hs.aGi.1 (λn k hk => ?_) (λn => ?_),aZ]
 ·have hf:=hs.aGi.2 _ (qG hk)
  simp only [eZ]
  rw [if_pos (aY hk),aK hk,qA,bD qb,cH,qA,JY hf,JZ hf]
  unfold Ga Ex
  rw [qF hk]
  generalize eZ s n ((k+1:Nat):Int)=Z
  have aa:(decide ((List.length s.aGi[k].aGs:Int)>12)) = !decide (s.aGi[k].aGs.length<=12):=by by_cases h:s.aGi[k].aGs.length<=12;(simp [h];omega);·simp [h];omega
  rw [aa]
  by_cases h0:k=0
  ·subst h0;simp only [Option.any_some];generalize inR s.aGi[0].aGg 1 1000000000000=a;generalize (List.range s.aGi[0].aGs.length).all (Cd s.aGi[0].aGs)=b;generalize decide (s.aGi[0].aGs.length<=12)=d;cases a<;>cases b<;>cases d<;>simp
  ·have e:i64.wrap ((k:Int)-1)=((k-1:Nat):Int):=by rw [bN qb qb];omega
   have hk1:k-1<s.aGi.length:=by omega
   rw [if_pos (c:=(decide ((k:Int)>0))=true) qc,e,aK hk1,qA,qF hk1]
   simp only [Option.any_some,h0,decide_false,Bool.false_or]
   generalize inR s.aGi[k].aGg 1 1000000000000=a
   generalize (List.range s.aGi[k].aGs.length).all (Cd s.aGi[k].aGs)=b
   generalize decide (s.aGi[k].aGs.length<=12)=d
   by_cases hc:s.aGi[k-1].aGg<s.aGi[k].aGg
   ·rw [if_neg (c:=(decide (s.aGi[k].aGg<=s.aGi[k-1].aGg))=true) qc];cases a<;>cases b<;>cases d<;>simp [hc]
   ·rw [if_pos (c:=(decide (s.aGi[k].aGg<=s.aGi[k-1].aGg))=true) qc];cases a<;>cases b<;>cases d<;>simp [hc]
 ·simp only [eZ];rw [if_neg qk];simp;omega
theorem NJ {p:M.aGf} (hs:p.aGl.size<=maxLen) : ∀(n k:Nat) (v:Int),k<=3->3-k<n -> ∃r,bU p n v (k:Int)=some r
 | 0,k,v,_,h=>by omega
 | n+1,k,v,h3,h=>by
  simp only [bU]
  have hl:(List.length ([p.aHF,p.aHC,p.aG6]))=3:=rfl
  by_cases hk:k<3
  ·rw [if_pos qc,aK (by rw [hl];exact hk),qA,cF,qA,bD qb]
   obtain ⟨r1,e1⟩:=NJ hs n (k+1) ([p.aHF,p.aHC,p.aG6][k]'(by rw [hl];exact hk)) qb qb
   obtain ⟨r2,e2⟩:=NJ hs n (k+1) v qb qb
   rw [e1,e2]
   repeat' split
   all_goals exact ⟨_,rfl⟩
  ·have:k=3:=by omega
   subst this
   rw [if_neg qd,dF hs]
   exact ⟨_,rfl⟩
theorem NI {p:M.aGf} (hs:p.aGl.size<=maxLen) : ∀(n:Nat) (v k:Int),0<=v->dO p n v k=bU p n v k
 | 0,_,_,_=>rfl
 | n+1,v,k,hv=>by
  simp only [dO,bU]
  rw [dF hs,eC hs]
  cases hx:idx ([p.aHF,p.aHC,p.aG6]) k with
  | none=>rfl
  | some x =>
   simp only [qA,cF,cH]
   cases hi:inR x 0 1000000000000 with
   | false=>rfl
   | true =>
    have h0:0<=x:=by unfold inR at hi;simp at hi;exact hi.1
    by_cases e0:x=0
    ·subst e0
     have:(if (0:Int)>v then (0:Int) else v)=v:=by rw [if_neg qb]
     rw [this,NI hs n v _ hv]
     rfl
    ·by_cases e1:x<=v
     ·have e2:(decide (x<=v))=true:=by simpa using e1
      simp [e0,e1]
     ·have:(if x>v then x else v)=x:=by rw [if_pos qb]
      rw [this,NI hs n x _ h0]
      simp [e0,e1]
def RA (p:M.aGf):Bool:=(cE p).getD false
theorem mD {p:M.aGf} (hp:p.ok):cE p=some (RA p):=by obtain ⟨r,e⟩:=NJ hp.aGl fuel 0 0 qb qi;have e2:cE p=some r:=e;unfold RA;rw [e2];rfl
theorem FW {p:M.aGf} (hp:p.ok):wH p=some (RA p):=by rw [<-mD hp];exact NI hp.aGl fuel 0 0 qb
def Cu (a:ByteArray) (x:M.aD):Bool:=x.Name.toList==a.toList
theorem CA {d:M.aGh} {a:ByteArray} (hd:d.ok):rO d a=some (kG (Cu a) d.aGq):=by have hm:=le_max hd.aGq.1;unfold rO;rw [findAll (L:=lQ d a) (f:=Cu a) (A:=λi=>some (i:Int)) (E:=some (-1)) hd.aGq.1 (λm k hk => ?_) (λm => ?_),uB];(simp only [lQ];rw [if_pos (aY hk),aK hk,qA,bD qb];rfl);·simp only [lQ];rw [if_neg qk]
theorem JW {d:M.aGh} {a:ByteArray} (hd:d.ok):yL d a=some (kG (Cu a) d.aGq):=by unfold yL;rw [I9 (f:=Cu a) hd.aGq.1 (λx _=>by simp only [vV];rfl),qA]
def rD (a:ByteArray) (x:M.Field):Bool:=x.Name.toList==a.toList
def jI (r:M.aE) (a:ByteArray):Int×Bool:=match r.aGn.find? (rD a) with | some x=>(x.N,true) | none=>(0,false)
end Go.Proofs.YtipmihbgjolaaaaGreat.gen
