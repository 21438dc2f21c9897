/-
  Helper text. No conditions.
-/
import Derived.Test.YtipmihbgjolaaaaGreatWorldsPz
set_option linter.unusedVariables false
set_option linter.unusedSimpArgs false
namespace Go.Proofs.YtipmihbgjolaaaaGreat.gen
open Go Go.Sh
open Go.IntKind (i64)
theorem bX (x a b:Int):aZ x a b=some (inR x a b):=by unfold aZ inR;by_cases h:a<=x;(rw [if_pos (by simpa using h)];simp [h]);·rw [if_neg (by simpa using h)];simp [h]
theorem bS (x a b:Int):aW x a b=some (inR x a b):=by unfold aW inR;by_cases h:a<=x;(rw [if_pos (by simpa using h)];simp [h]);·rw [if_neg (by simpa using h)];simp [h]
def G9 (r:M.aAM) (b:Bool):Int:=if b=true then 76 else i64.wrap (16+(List.length r.aA4:Int))
theorem Fs (r:M.aAM) (b:Bool):tA r b=some (G9 r b):=by unfold tA G9;cases b<;>rfl
theorem EW (r:M.aAM) (b:Bool):tM r b=some (G9 r b):=by unfold tM G9;cases b<;>rfl
def Od (v:Int) (x:M.aAR):Int:=i64.wrap (v+G9 x.aAM (x.aAM.aA0==3))
def AL (s:M.aF):Int:=s.aAE.foldl (λv c=>c.aAN.foldl Od v) 0
theorem Fv {s:M.aF} (hs:s.ok):sS s=some (AL s):=by have hm:=le_max hs.aAE.1;unfold sS AL;refine ED (L:=dU s) (E:=some) hs.aAE.1 (λn v k hk => ?_) (λn v => ?_) 0;(have hc:=hs.aAE.2 _ (qG hk);have hm2:=le_max hc.aAN.1;simp only [dU];rw [if_pos (bB hk),bM qb];refine ED (xs:=s.aAE[k].aAN) (L:=hP s (k:Int) (λv3 _=>dU s n v3 ((k+1:Nat):Int))) (E:=λv3=>dU s n v3 ((k+1:Nat):Int)) hc.aAN.1 (λn v j hj => ?_) (λn v => ?_) v;(simp only [hP];rw [aM hk,qA,if_pos (bB hj),aM hj,qA,Fs,qA,bM qb];rfl);·simp only [hP];rw [aM hk,qA,if_neg qk]);·simp only [dU];rw [if_neg qk]
theorem E0 {s:M.aF} (hs:s.ok):tI s=some (AL s):=by have hm:=le_max hs.aAE.1;unfold tI AL;refine ED (L:=eC s) (E:=some) hs.aAE.1 (λn v k hk => ?_) (λn v => ?_) 0;(have hc:=hs.aAE.2 _ (qG hk);have hm2:=le_max hc.aAN.1;simp only [eC];rw [if_pos (bB hk),bM qb,aM hk,qA];refine ED (xs:=s.aAE[k].aAN) (L:=hJ s.aAE[k] (λv3 _=>eC s n v3 ((k+1:Nat):Int))) (E:=λv3=>eC s n v3 ((k+1:Nat):Int)) hc.aAN.1 (λn v j hj => ?_) (λn v => ?_) v;(simp only [hJ];rw [if_pos (bB hj),aM hj,qA,EW,qA,bM qb];rfl);·simp only [hJ];rw [if_neg qk]);·simp only [eC];rw [if_neg qk]
def Ld (b:UInt8):Bool:=(decide (97<=b.toNat)&&decide (b.toNat<=122))||(decide (48<=b.toNat)&&decide (b.toNat<=57))
def Ig (s:ByteArray):Bool:=QO s Ld&&decide (s.size<=12)
theorem Jq {s:ByteArray} (hs:s.size<=maxLen):wB s=some (Ig s):=by
 have hm:=le_max hs
 unfold wB Ig
 rw [Ez (L:=gL s) (g:=Ld) (F:=some false) (E:=some (decide (s.size<=12))) hs (λn k hk => ?_) (λn => ?_),aY]
 ·simp only [gL]
  rw [if_pos (bB hk),DS hk,qA,bM qb]
  generalize s[k]=b
  unfold Ld
  generalize gL s n ((k+1:Nat):Int)=Z
  simp only [Bool.or_eq_true,qM,qL,Bool.not_eq_true',decide_eq_false_iff_not]
  repeat' split
  all_goals first | rfl | (exfalso;omega)
 ·simp only [gL];rw [if_neg qk];simp;omega
theorem F9 {s:ByteArray} (hs:s.size<=maxLen):tY s=some (Ig s):=by
 have hm:=le_max hs
 unfold tY Ig
 rw [Ez (L:=dP s) (g:=Ld) (F:=some false) (E:=some (decide (s.size<=12))) hs (λn k hk => ?_) (λn => ?_),aY]
 ·simp only [dP]
  rw [if_pos (bB hk),DS hk,qA,bM qb]
  generalize s[k]=b
  unfold Ld
  generalize dP s n ((k+1:Nat):Int)=Z
  simp only [Bool.or_eq_true,qM,qL,Bool.not_eq_true',decide_eq_false_iff_not]
  repeat' split
  all_goals first | rfl | (exfalso;omega)
 ·simp only [dP];rw [if_neg qk];simp;omega
def Ao (k:M.Key):Bool:=inR k.aAV 1 3&&(inR k.N (-1000000000000) 1000000000000&&(Ig k.aAf&&((k.aAV != 2||k.N==0)&&(k.aAV != 1||(k.aAf.toList==(⟨#[]⟩:ByteArray).toList)))))
theorem jT {k:M.Key} (hk:k.ok):eP k=some (Ao k):=by have ht:=Jq hk.aAf;unfold eP Ao;simp only [bX,ht,qA];generalize inR k.aAV 1 3=a;generalize inR k.N (-1000000000000) 1000000000000=b;generalize Ig k.aAf=c;generalize (k.aAf.toList==(⟨#[]⟩:ByteArray).toList)=g;by_cases h1:k.aAV=2<;>by_cases h2:k.aAV=1<;>by_cases h3:k.N=0<;>cases a<;>cases b<;>cases c<;>cases g<;>simp [h1,h2,h3]<;>omega
theorem zZ {k:M.Key} (hk:k.ok):rH k=some (Ao k):=by have ht:=F9 hk.aAf;unfold rH Ao;simp only [bS,ht,qA];generalize inR k.aAV 1 3=a;generalize inR k.N (-1000000000000) 1000000000000=b;generalize Ig k.aAf=c;generalize (k.aAf.toList==(⟨#[]⟩:ByteArray).toList)=g;by_cases h1:k.aAV=2<;>by_cases h2:k.aAV=1<;>by_cases h3:k.N=0<;>cases a<;>cases b<;>cases c<;>cases g<;>simp [h1,h2,h3]<;>omega
theorem Cx {k:M.Key} (h:Ao k=true):k.aAf.size<=12:=by unfold Ao Ig at h;simp only [qM,qL] at h;omega
def GU (k:M.Key):Nat:=if Ao k=true then (if (k.aAV==2)=true then 1+k.aAf.size else 7+k.aAf.size) else 0
theorem Gp {k:M.Key} (hk:k.ok) : ∃l,iP k=some l/\l.length=GU k:=by
 unfold iP GU
 rw [jT hk,qA]
 by_cases h:Ao k=true
 ·have ht:=Cx h
  have hl:=aP k.aAf
  rw [if_neg (by simp [h]),if_pos h,Tv]
  by_cases h2:(k.aAV==2)=true
  ·have h3 : ¬(k.aAV != 2)=true:=by simp [bne,h2]
   rw [if_pos h2]
   have e0 : ∀n r,r.length<=7->bC k (n+1) 5 r=some (r++cY k.aAf):=by intro n r hr;simp only [bC];rw [if_pos qe,if_neg h3,fQ qb,qA]
   exact ⟨_,e0 (18446744073709551609+6) _ qd,qc⟩
  ·have h3:(k.aAV != 2)=true:=by simp [bne,h2]
   rw [if_neg h2]
   have st : ∀n (v:Nat) r,r.length<=7->v<=5 -> ∃x:Int,bC k (n+1) (v:Int) r=bC k n ((v:Int)-1) (r++[x]):=by intro n v r hr hv;apply Exists.intro;simp only [bC];rw [if_pos qd,if_pos h3,if_pos (by rw [bI qb qb];simp;omega),fQ qc,qA,bI (n:=(v:Int)-1) qb qb]
   obtain ⟨x1,e1⟩:=st (18446744073709551609+6) 5 ([(IntKind.u8.wrap k.aAV)]) qd qd
   obtain ⟨x2,e2⟩:=st (18446744073709551609+5) 4 ([(IntKind.u8.wrap k.aAV)]++[x1]) qd qd
   obtain ⟨x3,e3⟩:=st (18446744073709551609+4) 3 ([(IntKind.u8.wrap k.aAV)]++[x1]++[x2]) qd qd
   obtain ⟨x4,e4⟩:=st (18446744073709551609+3) 2 ([(IntKind.u8.wrap k.aAV)]++[x1]++[x2]++[x3]) qd qd
   obtain ⟨x5,e5⟩:=st (18446744073709551609+2) 1 ([(IntKind.u8.wrap k.aAV)]++[x1]++[x2]++[x3]++[x4]) qd qd
   obtain ⟨x6,e6⟩:=st (18446744073709551609+1) 0 ([(IntKind.u8.wrap k.aAV)]++[x1]++[x2]++[x3]++[x4]++[x5]) qd qd
   have e7 : ∀n r,r.length<=7->bC k (n+1) (-1) r=some (r++cY k.aAf):=by intro n r hr;simp only [bC];rw [if_neg qe,fQ qb,qA]
   exact ⟨_,(e1.trans (e2.trans (e3.trans (e4.trans (e5.trans (e6.trans (e7 _ _ qd))))))),qc⟩
 ·rw [if_pos (by simp [h]),if_neg h];exact ⟨_,rfl,rfl⟩
theorem Gc {k:M.Key} (hk:k.ok) : ∃l,uG k=some l/\l.length=GU k:=by
 unfold uG GU
 rw [zZ hk,qA]
 by_cases h:Ao k=true
 ·have ht:=Cx h
  have hl:=aP k.aAf
  rw [if_neg (by simp [h]),if_pos h,Tv]
  by_cases h2:(k.aAV==2)=true
  ·have h3 : ¬(k.aAV != 2)=true:=by simp [bne,h2]
   rw [if_pos h2,if_neg h3,fQ qc,qA]
   exact ⟨_,rfl,qc⟩
  ·have h3:(k.aAV != 2)=true:=by simp [bne,h2]
   rw [if_neg h2,if_pos h3]
   have st : ∀n (v:Nat) r,r.length<=7->v<=5 -> ∃x:Int,fA k (n+1) (v:Int) r=fA k n ((v:Int)-1) (r++[x]):=by intro n v r hr hv;apply Exists.intro;simp only [fA];rw [if_pos qd,if_pos (by rw [bI qb qb];simp;omega),fQ qc,qA,bI (n:=(v:Int)-1) qb qb]
   obtain ⟨x1,e1⟩:=st (18446744073709551609+6) 5 ([(IntKind.u8.wrap k.aAV)]) qd qd
   obtain ⟨x2,e2⟩:=st (18446744073709551609+5) 4 ([(IntKind.u8.wrap k.aAV)]++[x1]) qd qd
   obtain ⟨x3,e3⟩:=st (18446744073709551609+4) 3 ([(IntKind.u8.wrap k.aAV)]++[x1]++[x2]) qd qd
   obtain ⟨x4,e4⟩:=st (18446744073709551609+3) 2 ([(IntKind.u8.wrap k.aAV)]++[x1]++[x2]++[x3]) qd qd
   obtain ⟨x5,e5⟩:=st (18446744073709551609+2) 1 ([(IntKind.u8.wrap k.aAV)]++[x1]++[x2]++[x3]++[x4]) qd qd
   obtain ⟨x6,e6⟩:=st (18446744073709551609+1) 0 ([(IntKind.u8.wrap k.aAV)]++[x1]++[x2]++[x3]++[x4]++[x5]) qd qd
   have e7 : ∀n r,r.length<=7->fA k (n+1) (-1) r=some (r++cY k.aAf):=by intro n r hr;simp only [fA];rw [if_neg qe,fQ qb,qA]
   exact ⟨_,(e1.trans (e2.trans (e3.trans (e4.trans (e5.trans (e6.trans (e7 _ _ qd))))))),qc⟩
 ·rw [if_pos (by simp [h]),if_neg h];exact ⟨_,rfl,rfl⟩
def FV (sl:Bool) (b:UInt8):Bool:=(decide (97<=b.toNat)&&decide (b.toNat<=122))||(sl&&decide (b.toNat=47))
def KN (s:ByteArray) (n:Int) (sl:Bool):Bool:=QO s (FV sl)&&inR (s.size:Int) 1 n
def kI (s:ByteArray):Bool:=QO s (FV false)&&inR (s.size:Int) 1 8
theorem cV {s:ByteArray} (hs:s.size<=maxLen):bP s=some (kI s):=by
 have hm:=le_max hs
 unfold bP kI
 rw [Ez (L:=lA s) (g:=FV false) (F:=some false) (E:=some (inR (s.size:Int) 1 8)) hs (λn k hk => ?_) (λn => ?_),aY]
 ·simp only [lA]
  rw [if_pos (bB hk),DS hk,qA,bM qb]
  generalize s[k]=b
  unfold FV
  generalize lA s n ((k+1:Nat):Int)=Z
  simp only [Bool.or_eq_true,qM,qL,Bool.not_eq_true',decide_eq_false_iff_not,Bool.false_and,Bool.or_false]
  repeat' split
  all_goals first | rfl | (exfalso;omega)
 ·simp only [lA];rw [if_neg qk,bX,qA]
theorem DT {s:ByteArray} {m:Int} {sl:Bool} (hs:s.size<=maxLen):wC s m sl=some (KN s m sl):=by
 have hm:=le_max hs
 unfold wC KN
 rw [Ez (L:=gN s m sl) (g:=FV sl) (F:=some false) (E:=some (inR (s.size:Int) 1 m)) hs (λn k hk => ?_) (λn => ?_),aY]
 ·simp only [gN]
  rw [if_pos (bB hk),DS hk,qA,bM qb]
  generalize s[k]=b
  unfold FV
  generalize gN s m sl n ((k+1:Nat):Int)=Z
  cases sl<;>simp only [Bool.or_eq_true,qM,qL,Bool.not_eq_true',decide_eq_false_iff_not,Bool.false_and,Bool.or_false,Bool.true_and,beq_eq_false_iff_ne,ne_eq,qD,if_true,if_false]
  all_goals repeat' split
  all_goals first | rfl | (exfalso;omega)
 ·simp only [gN];rw [if_neg qk,bS,qA]
theorem dM {s:ByteArray} (hs:s.size<=maxLen):cC s=some (kI s):=by unfold cC;rw [DT hs,qA];rfl
def MB (x:M.Field):Bool:=kI x.Name&&inR x.N 0 1000000000
def BF (l:List M.Field) (k:Nat):Bool:=(l[k]?).any MB&&(decide (k=0)||(l[k-1]?).any λy=>(l[k]?).any λx=>Op.bytesLess y.Name.toList x.Name.toList)
def bR (r:M.aC):Bool:=(List.range r.aAF.length).all (BF r.aAF)&&decide (r.aAF.length<=6)
theorem mU {r:M.aC} (hr:r.ok):bF r=some (bR r):=by
 have hm:=le_max hr.aAF.1
 unfold bF bR
 rw [lI (L:=fW r) (g:=BF r.aAF) (F:=some false) (E:=some (decide (r.aAF.length<=6))) hr.aAF.1 (λn k hk => ?_) (λn => ?_),aY]
 ·have hf:=hr.aAF.2 _ (qG hk)
  simp only [fW]
  rw [if_pos (bB hk),aM hk,qA,bM qb,cV hf.Name,qA,bX,qA]
  unfold BF MB
  rw [qF hk]
  generalize fW r n ((k+1:Nat):Int)=Z
  by_cases h0:k=0
  ·subst h0;simp only [Option.any_some];generalize kI r.aAF[0].Name=a;generalize inR r.aAF[0].N 0 1000000000=b;cases a<;>cases b<;>simp
  ·have e:i64.wrap ((k:Int)-1)=((k-1:Nat):Int):=by rw [bI qb qb];omega
   have hk1:k-1<r.aAF.length:=by omega
   rw [if_pos (c:=(decide ((k:Int)>0))=true) qc,e,aM hk1,qA,qF hk1]
   simp only [Option.any_some,h0,decide_false,Bool.false_or]
   generalize kI r.aAF[k].Name=a
   generalize inR r.aAF[k].N 0 1000000000=b
   generalize Op.bytesLess r.aAF[k-1].Name.toList r.aAF[k].Name.toList=c
   cases a<;>cases b<;>cases c<;>simp
 ·simp only [fW];rw [if_neg qk];simp;omega
theorem Cq {r:M.aC} (hr:r.ok):sW r=some (bR r):=by
 have hm:=le_max hr.aAF.1
 unfold sW bR
 rw [lI (L:=fZ r) (g:=BF r.aAF) (F:=some false) (E:=some (decide (r.aAF.length<=6))) hr.aAF.1 (λn k hk => ?_) (λn => ?_),aY]
 ·have hf:=hr.aAF.2 _ (qG hk)
  simp only [fZ]
  rw [if_pos (bB hk),aM hk,qA,bM qb,dM hf.Name,qA,bS,qA]
  unfold BF MB
  rw [qF hk]
  generalize fZ r n ((k+1:Nat):Int)=Z
  by_cases h0:k=0
  ·subst h0;simp only [Option.any_some];generalize kI r.aAF[0].Name=a;generalize inR r.aAF[0].N 0 1000000000=b;cases a<;>cases b<;>simp
  ·have e:i64.wrap ((k:Int)-1)=((k-1:Nat):Int):=by rw [bI qb qb];omega
   have hk1:k-1<r.aAF.length:=by omega
   rw [if_pos (c:=(decide ((k:Int)>0))=true) qc,e,aM hk1,qA,qF hk1]
   simp only [Option.any_some,h0,decide_false,Bool.false_or]
   rw [Aw r.aAF[k-1].Name.toList r.aAF[k].Name.toList]
   generalize kI r.aAF[k].Name=a
   generalize inR r.aAF[k].N 0 1000000000=b
   generalize (Op.bytesLess r.aAF[k].Name.toList r.aAF[k-1].Name.toList||r.aAF[k].Name.toList==r.aAF[k-1].Name.toList)=c
   cases a<;>cases b<;>cases c<;>simp
 ·simp only [fZ];rw [if_neg qk];simp;omega
theorem tU {r:M.aC} (h:bR r=true):r.aAF.length<=6 /\ ∀x∈r.aAF,x.Name.size<=8/\0<=x.N/\x.N<=1000000000:=by unfold bR at h;simp only [qM,qL,qQ,qR] at h;refine ⟨h.2,λx hx => ?_⟩;obtain ⟨k,hk,rfl⟩:=List.getElem_of_mem hx;have:=h.1 k hk;unfold BF MB kI inR at this;rw [qF hk] at this;simp only [Option.any_some,qM,qL] at this;omega
theorem wT {r:List Int} {n:Nat} (hr:r.length<=1048576) (hn:n<=1000000000000) : ∃l,bK r (n:Int)=some l/\l.length=r.length+(uv n).length:=by
 have hi:inR (n:Int) 0 1000000000000=true:=by unfold inR;simp;omega
 unfold bK
 rw [fQ qc,qA,bX,qA,hi,if_neg qd]
 refine O4 (L:=cD) (b:=λv=>IntKind.u8.wrap (i64.wrap (BitVec.ofInt (IntKind.i64.bits) (i64.wrap (BitVec.ofInt (IntKind.i64.bits) v&&&BitVec.ofInt (IntKind.i64.bits) 127).toNat)|||BitVec.ofInt (IntKind.i64.bits) 128).toNat)) (c:=λv=>IntKind.u8.wrap v) (λm n r h1 h2 => ?_) (λm n r h1 => ?_) 8 fuel n r qb qb qi qb
 ·simp only [cD];rw [if_pos qc,uvf]
 ·simp only [cD];rw [if_neg qc]
theorem wR {r:List Int} {n:Nat} (hr:r.length<=1048576) (hn:n<=1000000000000) : ∃l,hH r (n:Int)=some l/\l.length=r.length+(uv n).length:=by
 have hi:inR (n:Int) 0 1000000000000=true:=by unfold inR;simp;omega
 unfold hH xM
 rw [fQ qc,qA,qA,bS,qA,hi,if_neg qd]
 refine O4 (L:=fC) (b:=λv=>IntKind.u8.wrap (i64.wrap ((Int.tmod v 128)+128))) (c:=λv=>IntKind.u8.wrap v) (λm n r h1 h2 => ?_) (λm n r h1 => ?_) 8 fuel n r qb qb qi qb
 ·simp only [fC];rw [if_pos qc,uvt h2]
 ·simp only [fC];rw [if_neg qc]
def yJ (x:M.Field):Nat:=(uv x.Name.size).length+x.Name.size+(uv x.N.toNat).length
def Hd (r:M.aC):Nat:=if bR r=true then (uv r.aAF.length).length+gO yJ r.aAF else 0
theorem Er {r b:List Int} (hr:r.length<=1000) (hb:b.length<=1000) : ∃l,bJ r b=some l/\l.length=r.length+((uv b.length).length+b.length):=by obtain ⟨l,e,hl⟩:=wT (r:=r) (n:=b.length) qb qb;have h9:=Da b.length qb;refine ⟨l++b,?_,qc⟩;unfold bJ;rw [e,qA,fQ qb,qA]
theorem Du {r:M.aC} (hr:r.ok) : ∃l,fF r=some l/\l.length=Hd r:=by
 unfold fF Hd
 rw [mU hr,qA]
 by_cases h:bR r=true
 ·obtain ⟨h6,hf⟩:=tU h
  have hw : ∀x∈r.aAF,yJ x<=26:=by intro x hx;have:=hf x hx;have h1:=Da x.Name.size qb;have h2:=Da x.N.toNat qb;unfold yJ;omega
  have hsum:=fR hw
  obtain ⟨l,e,hl⟩:=wT (r:=[]) (n:=r.aAF.length) qd qb
  have h9:=Da r.aAF.length qb
  rw [if_neg (by simp [h]),if_pos h,e,qA]
  have:=Mi (xs:=r.aAF) (w:=yJ) (B:=900) (L:=cM r) (λn k hk q hq => ?_) (λn q => ?_) fuel 0 l qi qb (by simp at hl ⊢;omega)
  ·obtain ⟨z,e2,hz⟩:=this;exact ⟨z,e2,by simp at hl hz;omega⟩
  ·have hx:=hf _ (qG hk);have hw2:=hw _ (qG hk);obtain ⟨a,ea,ha⟩:=Er (r:=q) (b:=cY r.aAF[k].Name) qb (by rw [aP];omega);rw [aP] at ha;have hn:=Da r.aAF[k].Name.size qb;obtain ⟨b,eb,hb⟩:=wT (r:=a) (n:=r.aAF[k].N.toNat) qb qb;rw [Int.toNat_of_nonneg hx.2.1] at eb;refine ⟨b,by unfold yJ;omega,?_⟩;simp only [cM];rw [if_pos (bB hk),aM hk,qA,ea,qA,eb,qA,bM qb]
  ·simp only [cM];rw [if_neg qk]
 ·rw [if_pos (by simp [h]),if_neg h];exact ⟨_,rfl,rfl⟩
theorem Ek {r b:List Int} (hr:r.length<=1000) (hb:b.length<=1000) : ∃l,rP r b=some l/\l.length=r.length+((uv b.length).length+b.length):=by obtain ⟨l,e,hl⟩:=wR (r:=r) (n:=b.length) qb qb;have h9:=Da b.length qb;refine ⟨l++b,?_,qc⟩;unfold rP;rw [e,qA,fQ qb,qA]
theorem Dy {r:M.aC} (hr:r.ok) : ∃l,pC r=some l/\l.length=Hd r:=by
 unfold pC Hd
 rw [Cq hr,qA]
 by_cases h:bR r=true
 ·obtain ⟨h6,hf⟩:=tU h
  have hw : ∀x∈r.aAF,yJ x<=26:=by intro x hx;have:=hf x hx;have h1:=Da x.Name.size qb;have h2:=Da x.N.toNat qb;unfold yJ;omega
  have hsum:=fR hw
  obtain ⟨l,e,hl⟩:=wR (r:=[]) (n:=r.aAF.length) qd qb
  have h9:=Da r.aAF.length qb
  rw [if_neg (by simp [h]),if_pos h,e,qA]
  have:=Mi (xs:=r.aAF) (w:=yJ) (B:=900) (L:=fU r) (λn k hk q hq => ?_) (λn q => ?_) fuel 0 l qi qb (by simp at hl ⊢;omega)
  ·obtain ⟨z,e2,hz⟩:=this;exact ⟨z,e2,by simp at hl hz;omega⟩
  ·have hx:=hf _ (qG hk);have hw2:=hw _ (qG hk);obtain ⟨a,ea,ha⟩:=Ek (r:=q) (b:=cY r.aAF[k].Name) qb (by rw [aP];omega);rw [aP] at ha;have hn:=Da r.aAF[k].Name.size qb;obtain ⟨b,eb,hb⟩:=wR (r:=a) (n:=r.aAF[k].N.toNat) qb qb;rw [Int.toNat_of_nonneg hx.2.1] at eb;refine ⟨b,by unfold yJ;omega,?_⟩;simp only [fU];rw [if_pos (bB hk),aM hk,qA,ea,qA,eb,qA,bM qb]
  ·simp only [fU];rw [if_neg qk]
 ·rw [if_pos (by simp [h]),if_neg h];exact ⟨_,rfl,rfl⟩
def GW (v:Int) (x:M.aAQ):Int:=i64.wrap (v+((GU x.Key:Int)+(Hd x.aC:Int)))
def AD (s:M.aA):Int:=s.aAD.foldl GW 0
def yC (d:M.aAA):Int:=d.aAH.foldl (λv s=>i64.wrap (v+AD s)) 0
def KL (b:M.aO):Int:=i64.wrap ((i64.wrap ((i64.wrap (AL b.aAE+i64.wrap (yC b.cR.aAU+(List.length b.cR.Log:Int))))+AD b.aG.aAU))+(i64.wrap (40*(List.length b.aG.aAT.aH.aAP:Int))))
theorem B8 {s:M.aA} (hs:s.ok):pZ s=some (AD s):=by have hm:=le_max hs.aAD.1;unfold pZ AD;refine ED (L:=jA s) (E:=some) hs.aAD.1 (λn v k hk => ?_) (λn v => ?_) 0;(have hi:=hs.aAD.2 _ (qG hk);obtain ⟨a,ea,ha⟩:=Gp hi.Key;obtain ⟨b,eb,hb⟩:=Du hi.aC;simp only [jA];rw [if_pos (bB hk),aM hk,qA,ea,qA,eb,qA,bM qb,ha,hb];unfold GW;rw [wrap_add,Int.add_assoc]);·simp only [jA];rw [if_neg qk]
theorem DG {d:M.aAA} (hd:d.ok):pF d=some (yC d):=by have hm:=le_max hd.aAH.1;unfold pF yC;refine ED (L:=fT d) (E:=some) hd.aAH.1 (λn v k hk => ?_) (λn v => ?_) 0;(have hi:=hd.aAH.2 _ (qG hk);simp only [fT];rw [if_pos (bB hk),aM hk,qA,B8 hi,qA,bM qb]);·simp only [fT];rw [if_neg qk]
theorem Im {b:M.aO} (hb:b.ok):xH b=some (KL b):=by unfold xH yR KL;rw [Fv hb.aAE,qA,DG hb.cR.aAU,qA,qA,B8 hb.aG.aAU,qA]
theorem B3 {s:M.aA} (hs:s.ok):pU s=some (AD s):=by have hm:=le_max hs.aAD.1;unfold pU AD;refine ED (L:=iU s) (E:=some) hs.aAD.1 (λn v k hk => ?_) (λn v => ?_) 0;(have hi:=hs.aAD.2 _ (qG hk);obtain ⟨a,ea,ha⟩:=Gc hi.Key;obtain ⟨b,eb,hb⟩:=Dy hi.aC;simp only [iU];rw [if_pos (bB hk),aM hk,qA,ea,qA,eb,qA,bM qb,ha,hb];unfold GW;rw [Ql]);·simp only [iU];rw [if_neg qk]
theorem Dq {d:M.aAA} (hd:d.ok):pB d=some (yC d):=by have hm:=le_max hd.aAH.1;unfold pB yC;refine ED (L:=fS d) (E:=some) hd.aAH.1 (λn v k hk => ?_) (λn v => ?_) 0;(have hi:=hd.aAH.2 _ (qG hk);simp only [fS];rw [if_pos (bB hk),aM hk,qA,B3 hi,qA,bM qb]);·simp only [fS];rw [if_neg qk]
theorem It {b:M.aO} (hb:b.ok):wW b=some (KL b):=by unfold wW yG KL;rw [E0 hb.aAE,qA,Dq hb.cR.aAU,qA,qA,B3 hb.aG.aAU,qA]
def cQ (x y:M.Key):Int:=if Ao x=true/\Ao y=true then (if x.aAV=y.aAV then (if x.N=y.N then (if Op.bytesLess x.aAf.toList y.aAf.toList=true then -1 else if (x.aAf.toList==y.aAf.toList)=true then 0 else 1) else if x.N<y.N then -1 else 1) else if x.aAV<y.aAV then -1 else 1) else 0
theorem rU {x y:M.Key} (hx:x.ok) (hy:y.ok):bD x y=some (cQ x y):=by
 unfold bD wD cQ
 rw [jT hx,jT hy]
 simp only [qA]
 cases h1:Ao x
 ·simp
 cases h2:Ao y
 ·simp
 simp only [qB,qD,if_false,if_true,and_self,bne_iff_ne,ne_eq,qL,Bool.not_eq_true',Bool.or_eq_false_iff,ite_not,qA]
 repeat' split
 all_goals first | rfl | (exfalso;omega) | (simp_all;done) | (simp_all;omega)
theorem AY {x y:M.Key} (hx:x.ok) (hy:y.ok):mZ x y=some (cQ x y):=by
 have key:Lib.compareBytes x.aAf.data.toList y.aAf.data.toList=if Op.bytesLess x.aAf.toList y.aAf.toList=true then -1 else if (x.aAf.toList==y.aAf.toList)=true then 0 else 1:=by rw [Cj,<-ByteArray.toList_eq,<-ByteArray.toList_eq]
 unfold mZ rG wE lD cQ
 rw [zZ hx,zZ hy]
 simp only [qA,key]
 cases h1:Ao x
 ·simp
 cases h2:Ao y
 ·simp
 simp only [qB,qD,if_false,if_true,and_self,bne_iff_ne,ne_eq,qL,Bool.not_eq_true',Bool.or_eq_false_iff,ite_not,qA]
 repeat' split
 all_goals first | rfl | (exfalso;omega) | (simp_all;done) | (simp_all;omega)
theorem D6 {p:M.aO->Option Bool} {f:M.aO->Bool} {xs:List M.aO} (hx:xs.length<=maxLen) (hp : ∀x∈xs,p x=some (f x)):iG xs p=some (oF f xs):=by
 have hm:=le_max hx
 unfold iG
 rw [findAll (L:=cT xs p) (f:=f) (A:=λi=>some (i:Int)) (E:=some (-1)) hx (λn k hk=>by
  simp only [cT]
  rw [if_pos (bB hk),aM hk,qA,hp _ (qG hk),qA,bM qb]) (λn=>by
  simp only [cT]
  rw [if_neg qk]),tK]
theorem GD {p:M.bV->Option Bool} {f:M.bV->Bool} {xs:List M.bV} (hx:xs.length<=maxLen) (hp : ∀x∈xs,p x=some (f x)):kQ xs p=some (oF f xs):=by
 have hm:=le_max hx
 unfold kQ
 rw [findAll (L:=dI xs p) (f:=f) (A:=λi=>some (i:Int)) (E:=some (-1)) hx (λn k hk=>by
  simp only [dI]
  rw [if_pos (bB hk),aM hk,qA,hp _ (qG hk),qA,bM qb]) (λn=>by
  simp only [dI]
  rw [if_neg qk]),tK]
theorem D8 {p:M.aAR->Option Bool} {f:M.aAR->Bool} {xs:List M.aAR} (hx:xs.length<=maxLen) (hp : ∀x∈xs,p x=some (f x)):iN xs p=some (oF f xs):=by
 have hm:=le_max hx
 unfold iN
 rw [findAll (L:=cU xs p) (f:=f) (A:=λi=>some (i:Int)) (E:=some (-1)) hx (λn k hk=>by
  simp only [cU]
  rw [if_pos (bB hk),aM hk,qA,hp _ (qG hk),qA,bM qb]) (λn=>by
  simp only [cU]
  rw [if_neg qk]),tK]
theorem Fm {p:M.aA->Option Bool} {f:M.aA->Bool} {xs:List M.aA} (hx:xs.length<=maxLen) (hp : ∀x∈xs,p x=some (f x)):jL xs p=some (oF f xs):=by
 have hm:=le_max hx
 unfold jL
 rw [findAll (L:=dB xs p) (f:=f) (A:=λi=>some (i:Int)) (E:=some (-1)) hx (λn k hk=>by
  simp only [dB]
  rw [if_pos (bB hk),aM hk,qA,hp _ (qG hk),qA,bM qb]) (λn=>by
  simp only [dB]
  rw [if_neg qk]),tK]
theorem Fg {p:M.Field->Option Bool} {f:M.Field->Bool} {xs:List M.Field} (hx:xs.length<=maxLen) (hp : ∀x∈xs,p x=some (f x)):jP xs p=some (oF f xs):=by
 have hm:=le_max hx
 unfold jP
 rw [findAll (L:=dA xs p) (f:=f) (A:=λi=>some (i:Int)) (E:=some (-1)) hx (λn k hk=>by
  simp only [dA]
  rw [if_pos (bB hk),aM hk,qA,hp _ (qG hk),qA,bM qb]) (λn=>by
  simp only [dA]
  rw [if_neg qk]),tK]
def nAt (a b:ByteArray) (x:M.aO):Bool:=(x.aAO.toList==a.toList)&&(x.Top.toList==b.toList)
theorem Bg {s:M.aJ} {a b:ByteArray} (hs:s.ok):lZ s a b=some (oF (nAt a b) s.aAG):=by have hm:=le_max hs.aAG.1;unfold lZ;rw [findAll (L:=fP s a b) (f:=nAt a b) (A:=λi=>some (i:Int)) (E:=some (-1)) hs.aAG.1 (λm k hk => ?_) (λm => ?_),tK];(simp only [fP];rw [if_pos (bB hk),aM hk,qA,bM qb,RD];rfl);·simp only [fP];rw [if_neg qk]
theorem FD {s:M.aJ} {a b:ByteArray} (hs:s.ok):oL s a b=some (oF (nAt a b) s.aAG):=by unfold oL;rw [D6 (f:=nAt a b) hs.aAG.1 (λx _=>by simp only [oZ,aY];rfl),qA]
def zK (l:List M.aAQ) (k:Nat):Bool:=(l[k]?).any (λx=>Ao x.Key&&bR x.aC)&&(decide (k=0)||(l[k-1]?).any λy=>(l[k]?).any λx=>decide (cQ y.Key x.Key<0))
def gE (s:M.aA):Bool:=(List.range s.aAD.length).all (zK s.aAD)&&(kI s.Name&&(decide (s.aAD.length<=16)&&inR s.aAd 0 1000000))
def A9 (x:M.bA):Bool:=inR x.aAK 1 1000000&&(inR x.Seq 1 1000000&&(Ao x.Key&&(kI x.Field&&inR x.N 0 1000000000)))
def A5 (o:M.aH) (k:Nat):Bool:=(o.aAP[k]?).any λx=>A9 x&&((x.aAK==o.aAK)&&(x.Seq==i64.wrap ((i64.wrap (o.aAh-(List.length o.aAP:Int)))+(k:Int))))
def oU (o:M.aH):Bool:=(List.range o.aAP.length).all (A5 o)&&(inR o.aAK 1 1000000&&(inR o.aAh 1 1000000&&decide (o.aAP.length<=20)))
theorem uU {s:M.aA} (hs:s.ok):jY s=some (gE s):=by
 have hm:=le_max hs.aAD.1
 unfold jY gE
 rw [lI (L:=gT s) (g:=zK s.aAD) (F:=some false) (E:=some (kI s.Name&&(decide (s.aAD.length<=16)&&inR s.aAd 0 1000000))) hs.aAD.1 (λn k hk => ?_) (λn => ?_),aY]
 ·have hf:=hs.aAD.2 _ (qG hk)
  simp only [gT]
  rw [if_pos (bB hk),aM hk,qA,bM qb,jT hf.Key,qA,mU hf.aC,qA]
  unfold zK
  rw [qF hk]
  generalize gT s n ((k+1:Nat):Int)=Z
  by_cases h0:k=0
  ·subst h0;simp only [Option.any_some];generalize Ao s.aAD[0].Key=a;generalize bR s.aAD[0].aC=b;cases a<;>cases b<;>simp
  ·have e:i64.wrap ((k:Int)-1)=((k-1:Nat):Int):=by rw [bI qb qb];omega
   have hk1:k-1<s.aAD.length:=by omega
   have hg:=hs.aAD.2 _ (qG hk1)
   rw [if_pos (c:=(decide ((k:Int)>0))=true) qc,e,aM hk1,qA,rU hg.Key hf.Key,qA,qF hk1]
   simp only [Option.any_some,h0,decide_false,Bool.false_or]
   generalize Ao s.aAD[k].Key=a
   generalize bR s.aAD[k].aC=b
   by_cases hc:cQ s.aAD[k-1].Key s.aAD[k].Key<0
   ·rw [if_neg (c:=(decide (cQ s.aAD[k-1].Key s.aAD[k].Key>=0))=true) qc];cases a<;>cases b<;>simp [hc]
   ·rw [if_pos (c:=(decide (cQ s.aAD[k-1].Key s.aAD[k].Key>=0))=true) qc];cases a<;>cases b<;>simp [hc]
 ·simp only [gT];rw [if_neg qk,cV hs.Name,qA,bX,qA,aY,aY];congr 3;simp;omega
theorem wS {x:M.bA} (hx:x.ok):hU x=some (A9 x):=by unfold hU A9;simp only [bX,jT hx.Key,cV hx.Field,qA,aY]
theorem A6 {s:M.aA} (hs:s.ok):sH s=some (gE s):=by
 have hm:=le_max hs.aAD.1
 unfold sH gE
 rw [lI (L:=gU s) (g:=zK s.aAD) (F:=some false) (E:=some (kI s.Name&&(decide (s.aAD.length<=16)&&inR s.aAd 0 1000000))) hs.aAD.1 (λn k hk => ?_) (λn => ?_),aY]
 ·have hf:=hs.aAD.2 _ (qG hk)
  simp only [gU]
  rw [if_pos (bB hk),aM hk,qA,bM qb,zZ hf.Key,qA,Cq hf.aC,qA]
  unfold zK
  rw [qF hk]
  generalize gU s n ((k+1:Nat):Int)=Z
  by_cases h0:k=0
  ·subst h0;simp only [Option.any_some];generalize Ao s.aAD[0].Key=a;generalize bR s.aAD[0].aC=b;cases a<;>cases b<;>simp
  ·have e:i64.wrap ((k:Int)-1)=((k-1:Nat):Int):=by rw [bI qb qb];omega
   have hk1:k-1<s.aAD.length:=by omega
   have hg:=hs.aAD.2 _ (qG hk1)
   rw [if_pos (c:=(decide ((k:Int)>0))=true) qc,e,aM hk1,qA,AY hg.Key hf.Key,qA,qF hk1]
   simp only [Option.any_some,h0,decide_false,Bool.false_or]
   generalize Ao s.aAD[k].Key=a
   generalize bR s.aAD[k].aC=b
   by_cases hc:cQ s.aAD[k-1].Key s.aAD[k].Key<0
   ·rw [if_neg (c:=(decide (cQ s.aAD[k-1].Key s.aAD[k].Key>=0))=true) qc];cases a<;>cases b<;>simp [hc]
   ·rw [if_pos (c:=(decide (cQ s.aAD[k-1].Key s.aAD[k].Key>=0))=true) qc];cases a<;>cases b<;>simp [hc]
 ·simp only [gU];rw [if_neg qk,dM hs.Name,qA,bS,qA,aY,aY];congr 3;simp;omega
theorem An {x:M.bA} (hx:x.ok):kS x=some (A9 x):=by unfold kS A9;simp only [bS,zZ hx.Key,dM hx.Field,qA,aY]
theorem mT {o:M.aH} (ho:o.ok):gI o=some (oU o):=by have hm:=le_max ho.aAP.1;unfold gI oU;rw [lI (L:=kF o) (g:=A5 o) (F:=some false) (E:=some true) ho.aAP.1 (λn k hk => ?_) (λn => ?_)];(simp only [bX,qA];by_cases h:o.aAP.length<=20;(rw [if_neg (c:=(decide ((List.length o.aAP:Int)>20))=true) qc];cases (List.range o.aAP.length).all (A5 o)<;>cases inR o.aAK 1 1000000<;>cases inR o.aAh 1 1000000<;>simp [h]);·rw [if_pos (c:=(decide ((List.length o.aAP:Int)>20))=true) qc];cases inR o.aAK 1 1000000<;>cases inR o.aAh 1 1000000<;>simp [h]);(have hf:=ho.aAP.2 _ (qG hk);simp only [kF];rw [if_pos (bB hk),aM hk,qA,bM qb,wS hf,qA];unfold A5;rw [qF hk,Option.any_some];simp only [pM,fE,RD]);·simp only [kF];rw [if_neg qk]
theorem HJ {o:M.aH} (ho:o.ok):vJ o=some (oU o):=by have hm:=le_max ho.aAP.1;unfold vJ oU;rw [lI (L:=kG o) (g:=A5 o) (F:=some false) (E:=some (inR o.aAK 1 1000000&&(inR o.aAh 1 1000000&&decide (o.aAP.length<=20)))) ho.aAP.1 (λn k hk => ?_) (λn => ?_),aY];(have hf:=ho.aAP.2 _ (qG hk);simp only [kG];rw [if_pos (bB hk),aM hk,qA,bM qb,An hf,qA];unfold A5;rw [qF hk,Option.any_some];simp only [pM,fE,RD]);·simp only [kG];rw [if_neg qk];simp only [bS,qA,aY];congr 3;simp;omega
def zR (r:M.aG):Bool:=gE r.aAU&&((r.aAU.Name.toList==(⟨#[110,111,116,101,115]⟩:ByteArray).toList)&&(inR r.aAu 0 1000000000000&&oU r.aAT.aH))
theorem xL {r:M.aG} (hr:r.ok):kW r=some (zR r):=by unfold kW zR;simp only [uU hr.aAU,bX,mT hr.aAT.aH,qA,aY]
theorem Ge {r:M.aG} (hr:r.ok):uH r=some (zR r):=by unfold uH zR;simp only [A6 hr.aAU,bS,HJ hr.aAT.aH,qA,aY]
theorem I9 {α:Type} {f:α->Bool} {xs:List α} {k:Nat} (hk:k<xs.length) (hf:f xs[k]=true):(oF f xs==(k:Int))=(List.range k).all (λj => !((xs[j]?).any f)):=by
 rw [Bool.eq_iff_iff]
 simp only [beq_iff_eq,qQ,qR]
 constructor
 ·intro h j hj
  unfold oF at h
  cases e:xs.findIdx? f with
  | none=>rw [e] at h;simp only at h;omega
  | some i =>
   rw [e] at h
   simp only at h
   have:i=k:=by omega
   subst this
   have:=(List.findIdx?_eq_some_iff_getElem.1 e).2.2 j hj
   rw [qF qb]
   simpa using this
 ·intro h;have e:xs.findIdx? f=some k:=List.findIdx?_eq_some_iff_getElem.2 ⟨hk,hf,λj hj=>by have:=h j hj;rw [qF qb] at this;simpa using this⟩;unfold oF;rw [e]
def Ci (a b:ByteArray) (x:M.aAR):Bool:=(x.aAO.toList==a.toList)&&(x.aAs.toList==b.toList)
theorem CC {c:M.aAL} {a b:ByteArray} (hc:c.ok):uP c a b=some (oF (Ci a b) c.aAN):=by unfold uP;rw [D8 (f:=Ci a b) hc.aAN.1 (λx _=>by simp only [uA,aY];rfl),qA]
def Cc (r:M.aAM):Bool:=inR r.aA0 1 4&&(inR r.aAw 0 999&&(inR r.aAB 0 1000000000000&&decide ((List.length r.aA4:Int)<=60)))
theorem EO (r:M.aAM):tH r=some (Cc r):=by unfold tH Cc;simp only [bX,qA,aY]
theorem Bu (r:M.aAM):oM r=some (Cc r):=by unfold oM Cc;simp only [bS,qA,aY]
def R8 (l:List M.aAR) (k:Nat) (x:M.aAR):Bool:=(List.range k).all λj => !((l[j]?).any (Ci x.aAO x.aAs))
def zN (l:List M.aAR) (k:Nat):Bool:=(l[k]?).any λx=>kI x.aAO&&(kI x.aAs&&(Cc x.aAM&&R8 l k x))
def BJ (l:List M.aAR):Bool:=(List.range l.length).all (zN l)&&decide (l.length<=12)
theorem E2 {l:List M.aAR} (hl:l.length<=maxLen /\ ∀x∈l,M.aAR.ok x):oN l=some (BJ l):=by
 have hm:=le_max hl.1
 unfold oN BJ
 rw [lI (L:=dY l) (g:=zN l) (F:=some false) (E:=some (decide (l.length<=12))) hl.1 (λn k hk => ?_) (λn => ?_),aY]
 ·have hf:=hl.2 _ (qG hk)
  simp only [dY]
  rw [if_pos (bB hk),aM hk,qA,bM qb,cV hf.aAO,qA,cV hf.aAs,qA,EO,qA]
  rw [lI (N:=k) (L:=fO l (k:Int) l[k] (λ_=>dY l n ((k+1:Nat):Int))) (g:=λj => !((l[j]?).any (Ci l[k].aAO l[k].aAs))) (F:=some false) (E:=dY l n ((k+1:Nat):Int)) (by have:=hl.1;omega) (λn j hj => ?_) (λn => ?_)]
  ·unfold zN R8;rw [qF hk,Option.any_some];simp only [fE,RD]
  ·have hj2:j<l.length:=by omega
   simp only [fO]
   rw [if_pos (bB hj),aM hj2,qA,bM qb,RD,qF hj2,Option.any_some,fE]
   rfl
  ·simp only [fO];rw [if_neg qk]
 ·simp only [dY];rw [if_neg qk];simp;omega
theorem Gk {c:M.aAL} {Z:Option Bool} (hc:c.ok):eF c (λ_=>Z) fuel 0=if (List.range c.aAN.length).all (zN c.aAN)=true then Z else some false:=by have hm:=le_max hc.aAN.1;refine lI (L:=eF c (λ_=>Z)) hc.aAN.1 (λn k hk => ?_) (λn => ?_);(have hf:=hc.aAN.2 _ (qG hk);simp only [eF];rw [if_pos (bB hk),aM hk,qA,bM qb,dM hf.aAO,qA,dM hf.aAs,qA,CC hc,qA,Bu,qA,pM,I9 hk (by simp [Ci])];unfold zN R8;rw [qF hk,Option.any_some];generalize eF c (λ_=>Z) n ((k+1:Nat):Int)=Y;generalize kI c.aAN[k].aAO=a;generalize kI c.aAN[k].aAs=b;generalize Cc c.aAN[k].aAM=d;generalize (List.range k).all (λj => !((c.aAN[j]?).any (Ci c.aAN[k].aAO c.aAN[k].aAs)))=e;cases a<;>cases b<;>cases d<;>cases e<;>rfl);·simp only [eF];rw [if_neg qk]
theorem Gl {c:M.aAL} {Z:Option Bool} (hc:c.ok):dV c (λ_=>Z) fuel 0=if (List.range c.aAN.length).all (zN c.aAN)=true then Z else some false:=by have hm:=le_max hc.aAN.1;refine lI (L:=dV c (λ_=>Z)) hc.aAN.1 (λn k hk => ?_) (λn => ?_);(have hf:=hc.aAN.2 _ (qG hk);simp only [dV];rw [if_pos (bB hk),aM hk,qA,bM qb,dM hf.aAO,qA,dM hf.aAs,qA,CC hc,qA,Bu,qA,pM,I9 hk (by simp [Ci])];unfold zN R8;rw [qF hk,Option.any_some];generalize dV c (λ_=>Z) n ((k+1:Nat):Int)=Y;generalize kI c.aAN[k].aAO=a;generalize kI c.aAN[k].aAs=b;generalize Cc c.aAN[k].aAM=d;generalize (List.range k).all (λj => !((c.aAN[j]?).any (Ci c.aAN[k].aAO c.aAN[k].aAs)))=e;cases a<;>cases b<;>cases d<;>cases e<;>rfl);·simp only [dV];rw [if_neg qk]
def CS (l:List M.aAL) (k:Nat):Bool:=(l[k]?).any (λc=>inR c.aAB 1 1000000000000&&BJ c.aAN)&&(decide (k=0)||(l[k-1]?).any λd=>(l[k]?).any λc=>decide (d.aAB<c.aAB))
def iO (s:M.aF):Bool:=(List.range s.aAE.length).all (CS s.aAE)&&decide (s.aAE.length<=4)
theorem mC {s:M.aF} (hs:s.ok):bY s=some (iO s):=by
 have hm:=le_max hs.aAE.1
 unfold bY iO
 rw [lI (L:=dW s) (g:=CS s.aAE) (F:=some false) (E:=some (decide (s.aAE.length<=4))) hs.aAE.1 (λn k hk => ?_) (λn => ?_),aY]
 ·have hf:=hs.aAE.2 _ (qG hk)
  simp only [dW]
  rw [if_pos (bB hk),aM hk,qA,bM qb,bX,qA,E2 hf.aAN]
  simp only [qA]
  unfold CS
  rw [qF hk]
  generalize dW s n ((k+1:Nat):Int)=Z
  by_cases h0:k=0
  ·subst h0;simp only [Option.any_some];generalize inR s.aAE[0].aAB 1 1000000000000=a;generalize BJ s.aAE[0].aAN=b;cases a<;>cases b<;>simp
  ·have e:i64.wrap ((k:Int)-1)=((k-1:Nat):Int):=by rw [bI qb qb];omega
   have hk1:k-1<s.aAE.length:=by omega
   rw [if_pos (c:=(decide ((k:Int)>0))=true) qc,e,aM hk1,qA,qF hk1]
   simp only [Option.any_some,h0,decide_false,Bool.false_or]
   generalize inR s.aAE[k].aAB 1 1000000000000=a
   generalize BJ s.aAE[k].aAN=b
   by_cases hc:s.aAE[k-1].aAB<s.aAE[k].aAB
   ·rw [if_neg (c:=(decide (s.aAE[k-1].aAB>=s.aAE[k].aAB))=true) qc];cases a<;>cases b<;>simp [hc]
   ·rw [if_pos (c:=(decide (s.aAE[k-1].aAB>=s.aAE[k].aAB))=true) qc];cases a<;>cases b<;>simp [hc]
 ·simp only [dW];rw [if_neg qk];simp;omega
theorem ER {s:M.aF} (hs:s.ok):sP s=some (iO s):=by
 have hm:=le_max hs.aAE.1
 unfold sP iO
 rw [lI (L:=eE s) (g:=CS s.aAE) (F:=some false) (E:=some (decide (s.aAE.length<=4))) hs.aAE.1 (λn k hk => ?_) (λn => ?_),aY]
 ·have hf:=hs.aAE.2 _ (qG hk)
  simp only [eE]
  rw [if_pos (bB hk),aM hk,qA,bM qb,bS,qA,Gk hf,Gl hf]
  unfold CS BJ
  rw [qF hk]
  generalize eE s n ((k+1:Nat):Int)=Z
  have aa:(decide ((List.length s.aAE[k].aAN:Int)>12)) = !decide (s.aAE[k].aAN.length<=12):=by by_cases h:s.aAE[k].aAN.length<=12;(simp [h];omega);·simp [h];omega
  rw [aa]
  by_cases h0:k=0
  ·subst h0;simp only [Option.any_some];generalize inR s.aAE[0].aAB 1 1000000000000=a;generalize (List.range s.aAE[0].aAN.length).all (zN s.aAE[0].aAN)=b;generalize decide (s.aAE[0].aAN.length<=12)=d;cases a<;>cases b<;>cases d<;>simp
  ·have e:i64.wrap ((k:Int)-1)=((k-1:Nat):Int):=by rw [bI qb qb];omega
   have hk1:k-1<s.aAE.length:=by omega
   rw [if_pos (c:=(decide ((k:Int)>0))=true) qc,e,aM hk1,qA,qF hk1]
   simp only [Option.any_some,h0,decide_false,Bool.false_or]
   generalize inR s.aAE[k].aAB 1 1000000000000=a
   generalize (List.range s.aAE[k].aAN.length).all (zN s.aAE[k].aAN)=b
   generalize decide (s.aAE[k].aAN.length<=12)=d
   by_cases hc:s.aAE[k-1].aAB<s.aAE[k].aAB
   ·rw [if_neg (c:=(decide (s.aAE[k].aAB<=s.aAE[k-1].aAB))=true) qc];cases a<;>cases b<;>cases d<;>simp [hc]
   ·rw [if_pos (c:=(decide (s.aAE[k].aAB<=s.aAE[k-1].aAB))=true) qc];cases a<;>cases b<;>cases d<;>simp [hc]
 ·simp only [eE];rw [if_neg qk];simp;omega
theorem JL {p:M.aAC} (hs:p.aAO.size<=maxLen) : ∀(n k:Nat) (v:Int),k<=3->3-k<n -> ∃r,bT p n v (k:Int)=some r
 | 0,k,v,_,h=>by omega
 | n+1,k,v,h3,h=>by
  simp only [bT]
  have hl:(List.length ([p.aAr,p.aAl,p.aAc]))=3:=rfl
  by_cases hk:k<3
  ·rw [if_pos qc,aM (by rw [hl];exact hk),qA,bX,qA,bM qb]
   obtain ⟨r1,e1⟩:=JL hs n (k+1) ([p.aAr,p.aAl,p.aAc][k]'(by rw [hl];exact hk)) qb qb
   obtain ⟨r2,e2⟩:=JL hs n (k+1) v qb qb
   rw [e1,e2]
   repeat' split
   all_goals exact ⟨_,rfl⟩
  ·have:k=3:=by omega
   subst this
   rw [if_neg qd,cV hs]
   exact ⟨_,rfl⟩
theorem JK {p:M.aAC} (hs:p.aAO.size<=maxLen) : ∀(n:Nat) (v k:Int),0<=v->dC p n v k=bT p n v k
 | 0,_,_,_=>rfl
 | n+1,v,k,hv=>by
  simp only [dC,bT]
  rw [cV hs,dM hs]
  cases hx:idx ([p.aAr,p.aAl,p.aAc]) k with
  | none=>rfl
  | some x =>
   simp only [qA,bX,bS]
   cases hi:inR x 0 1000000000000 with
   | false=>rfl
   | true =>
    have h0:0<=x:=by unfold inR at hi;simp at hi;exact hi.1
    by_cases e0:x=0
    ·subst e0
     have:(if (0:Int)>v then (0:Int) else v)=v:=by rw [if_neg qb]
     rw [this,JK hs n v _ hv]
     rfl
    ·by_cases e1:x<=v
     ·have e2:(decide (x<=v))=true:=by simpa using e1
      simp [e0,e1]
     ·have:(if x>v then x else v)=x:=by rw [if_pos qb]
      rw [this,JK hs n x _ h0]
      simp [e0,e1]
def Vh (p:M.aAC):Bool:=(jQ p).getD false
theorem Ab {p:M.aAC} (hp:p.ok):jQ p=some (Vh p):=by obtain ⟨r,e⟩:=JL hp.aAO fuel 0 0 qb qi;have e2:jQ p=some r:=e;unfold Vh;rw [e2];rfl
theorem CK {p:M.aAC} (hp:p.ok):rV p=some (Vh p):=by rw [<-Ab hp];exact JK hp.aAO fuel 0 0 qb
def Af (a:ByteArray) (x:M.aA):Bool:=x.Name.toList==a.toList
theorem Ai {d:M.aAA} {a:ByteArray} (hd:d.ok):nK d a=some (oF (Af a) d.aAH):=by have hm:=le_max hd.aAH.1;unfold nK;rw [findAll (L:=jF d a) (f:=Af a) (A:=λi=>some (i:Int)) (E:=some (-1)) hd.aAH.1 (λm k hk => ?_) (λm => ?_),tK];(simp only [jF];rw [if_pos (bB hk),aM hk,qA,bM qb];rfl);·simp only [jF];rw [if_neg qk]
theorem Gi {d:M.aAA} {a:ByteArray} (hd:d.ok):tZ d a=some (oF (Af a) d.aAH):=by unfold tZ;rw [Fm (f:=Af a) hd.aAH.1 (λx _=>by simp only [rJ];rfl),qA]
def nB (a:ByteArray) (x:M.Field):Bool:=x.Name.toList==a.toList
def gX (r:M.aC) (a:ByteArray):Int×Bool:=match r.aAF.find? (nB a) with | some x=>(x.N,true) | none=>(0,false)
theorem EF {r:M.aC} {a:ByteArray} (hm:r.aAF.length<=9223372036854775807) : ∀(n k:Nat),r.aAF.length-k<n->k<=r.aAF.length->nA r a n (k:Int)=some (match (r.aAF.drop k).find? (nB a) with | some x=>(x.N,true) | none=>(0,false))
 | 0,k,h,_=>by omega
 | n+1,k,h,hk=>by
  simp only [nA]
  rcases Nat.lt_or_ge k r.aAF.length with h1 | h1
  ·rw [if_pos (bB h1),aM h1,qA,bM qb,EF hm n (k+1) qb h1,qV h1,List.find?_cons]
   cases e:nB a r.aAF[k] with
   | true=>rw [if_pos (show (r.aAF[k].Name.toList==a.toList)=true from e)]
   | false=>rw [if_neg (by rw [show (r.aAF[k].Name.toList==a.toList)=false from e];simp)]
  ·have:k=r.aAF.length:=by omega
   subst this
   rw [if_neg qk,qY]
   rfl
theorem oY {r:M.aC} {a:ByteArray} (hr:r.ok):iM r a=some (gX r a):=by have hm:=le_max hr.aAF.1;have:=EF (a:=a) hm fuel 0 qi qb;exact this
end Go.Proofs.YtipmihbgjolaaaaGreat.gen
