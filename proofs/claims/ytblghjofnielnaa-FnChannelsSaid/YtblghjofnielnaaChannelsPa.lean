/-
  Helper text. No conditions.
-/
import Derived.Test.YtblghjofnielnaaChannelsPz
namespace Go.Proofs.Ytblghjofnielnaa.gen
open Go Go.Sh
open Go.IntKind (i64)
set_option linter.unusedVariables false
set_option linter.unusedSimpArgs false
theorem fL (x:Int):inI (i64.wrap x):=by unfold inI;rw [IntKind.wrap_i64];omega
theorem yS:inI 0:=by unfold inI;omega
theorem aBi (n:Nat) (h:n≤1048576):n≤maxLen:=by unfold maxLen;omega
theorem sz0:((⟨#[]⟩:ByteArray)).size≤maxLen:=aBi _ (by decide)
theorem rD {α:Type} {f:α→Nat} : ∀(l r:List α),iV f (l++r)=iV f l+iV f r
 | [],r=>by simp [iV]
 | y::l,r=>by simp only [List.cons_append,iV,rD l r];omega
theorem kA (x a b:Int):cY x a b=some (inR x a b):=by
 unfold cY inR
 by_cases h:a≤x
 ·rw [if_pos (by simpa using h)];simp [h]
 ·rw [if_neg (by simpa using h)];simp [h]
def vX (sl:Bool) (b:UInt8):Bool:=(decide (97≤b.toNat)&&decide (b.toNat≤122))||(sl&&decide (b.toNat=47))
def qG (s:ByteArray):Bool:=aAh s (vX false)&&inR (s.size:Int) 1 8
theorem gL {s:ByteArray} (hs:s.size≤maxLen):dF s=some (qG s):=by
 have hm:=le_max hs
 unfold dF qG
 rw [yU (L:=cA s) (g:=vX false) (F:=some false) (E:=some (inR (s.size:Int) 1 8)) hs (fun n k hk => ?_) (fun n => ?_),jB]
 ·simp only [cA]
  rw [if_pos (gH hk),yQ hk,Option.bind_some,hJ (by omega)]
  generalize s[k]=b
  unfold vX
  generalize cA s n ((k+1:Nat):Int)=Z
  simp only [Bool.or_eq_true,Bool.and_eq_true,decide_eq_true_eq,Bool.not_eq_true',decide_eq_false_iff_not,Bool.false_and,Bool.or_false]
  repeat' split
  all_goals first | rfl | (exfalso;omega)
 ·simp only [cA]
  rw [if_neg (by rw [fF];simp),kA,Option.bind_some]
def mM (p:M.aO) (k:Nat):Bool:=(p.aF[k]?).any fun x=>qG x.Path&&(x.Version==p.Version)
def rP (p:M.aO):Bool:=(List.range p.aF.length).all (mM p)&&(inR p.Id 1 1000000000000&&(qG p.Site&&(qG p.Top&&(inR p.Version 1 1000000000000&&decide ((p.aF.length:Int)≤8)))))
theorem iJ {p:M.aO} (hp:p.ok):dI p=some (rP p):=by
 have hm:=le_max hp.aF.1
 unfold dI rP
 rw [vY (L:=cN p) (g:=mM p) (F:=some false) (E:=some (inR p.Id 1 1000000000000&&(qG p.Site&&(qG p.Top&&(inR p.Version 1 1000000000000&&decide ((p.aF.length:Int)≤8)))))) hp.aF.1 (fun n k hk => ?_) (fun n => ?_),jB]
 ·have hf:=hp.aF.2 _ (List.getElem_mem hk)
  simp only [cN]
  rw [if_pos (gH hk),dQ hk,Option.bind_some,hJ (by omega),gL hf.Path,Option.bind_some]
  unfold mM
  rw [List.getElem?_eq_getElem hk,Option.any_some]
  simp only [yM,tU,aBj]
 ·simp only [cN]
  rw [if_neg (by rw [fF];simp)]
  simp only [gL hp.Site,gL hp.Top,kA,Option.bind_some,jB]
theorem iU (x:List M.Instr) (hs:x.length≤1073741824):dC x=some x:=by
 unfold dC
 rw [aA0 hs (by omega),Option.bind_some]
theorem oE (x:M.Machine) (hs:M.Machine.sz x≤1073741824):fD x=some x:=by
 simp only [M.Machine.sz] at hs
 unfold fD
 rw [iU _ (by omega),Option.bind_some,aA0 (by omega) (by omega),Option.bind_some]
theorem oJ (x:M.aO) (hs:M.aO.sz x≤1073741824):cH x=some x:=by
 simp only [M.aO.sz] at hs
 unfold cH
 rw [aA0 (by omega) (by omega),Option.bind_some,oE _ (by omega),Option.bind_some]
def kV (p:M.aO) (f:ByteArray) (v:Int):M.aO:=(⟨p.Id,p.Site,p.Top,p.Version,p.aF++[(⟨f,v⟩:M.aF)],p.Machine⟩:M.aO)
def pX (p:M.aO) (f:ByteArray) (x:M.Response):M.aO×Bool:=if (x.Status != 200)=true then (p,false) else if (x.Version != p.Version)=true then (p,false) else if rP p=true then (if rP (kV p f x.Version)=true then (kV p f x.Version,true) else (p,false)) else (p,false)
theorem rX {p:M.aO} {f:ByteArray} {v:Int} (hp:p.ok) (hl:p.aF.length≤4194304) (hf:f.size≤maxLen) (hv:inI v):(kV p f v).ok:=
 ⟨hp.Id,hp.Site,hp.Top,hp.Version,⟨by show (p.aF++_).length≤maxLen;unfold maxLen;simp;omega,fun y hy=>by
  have hy':y∈p.aF++[(⟨f,v⟩:M.aF)]:=hy
  simp only [List.mem_append,List.mem_cons,List.not_mem_nil,or_false] at hy'
  rcases hy' with hy | rfl
  ·exact hp.aF.2 y hy
  ·exact ⟨hf,hv⟩⟩,hp.Machine⟩
theorem yO {p:M.aO} {f:ByteArray} {x:M.Response} (hp:p.ok) (hl:p.aF.length≤4194304) (hf:f.size≤maxLen) (hv:inI x.Version):(pX p f x).1.ok:=by
 unfold pX
 split
 ·exact hp
 ·split
  ·exact hp
  ·split
   ·split
    ·exact rX hp hl hf hv
    ·exact hp
   ·exact hp
theorem yL (p:M.aO) (f:ByteArray) (x:M.Response):M.aO.sz (pX p f x).1≤M.aO.sz p+f.size+1:=by
 have h:M.aO.sz (kV p f x.Version)=M.aO.sz p+f.size+1:=by
  simp only [kV,M.aO.sz,List.length_append,List.length_cons,List.length_nil,rD,iV,M.aF.sz]
  omega
 unfold pX
 split
 ·show M.aO.sz p≤_;omega
 ·split
  ·show M.aO.sz p≤_;omega
  ·split
   ·split
    ·show M.aO.sz (kV p f x.Version)≤_;omega
    ·show M.aO.sz p≤_;omega
   ·show M.aO.sz p≤_;omega
theorem nW {p:M.aO} {f:ByteArray} {x:M.Response} (hp:p.ok) (hl:p.aF.length≤4194304) (hz:M.aO.sz p≤1073741824) (hf:f.size≤maxLen) (hv:inI x.Version):cK p f x=some (pX p f x):=by
 have e:=iJ (rX hp hl hf hv)
 unfold kV at e
 unfold cK pX
 rw [oJ p hz,Option.bind_some,jT (by simp only [List.length_cons,List.length_nil];omega),Option.bind_some,iJ hp,Option.bind_some,e,Option.bind_some]
 unfold kV
 cases (x.Status != 200)
 ·cases (x.Version != p.Version)
  ·cases rP p
   ·simp
   ·cases rP (⟨p.Id,p.Site,p.Top,p.Version,p.aF++[(⟨f,x.Version⟩:M.aF)],p.Machine⟩:M.aO)<;>simp
  ·simp
 ·simp
theorem aBd (n:Int):inR n 0 0=(n==0):=by
 unfold inR
 rw [Bool.eq_iff_iff]
 simp only [Bool.and_eq_true,decide_eq_true_eq,beq_iff_eq]
 omega
theorem uZ {k:Int} (h:inR k 1 9=true):k=1∨k=2∨k=3∨k=4∨k=5∨k=6∨k=7∨k=8∨k=9:=by
 unfold inR at h
 simp only [Bool.and_eq_true,decide_eq_true_eq] at h
 omega
theorem aBP {α β:Type} (c:Bool) (x y:Option α) (f:α→Option β):(if c=true then x else y).bind f=if c=true then x.bind f else y.bind f:=by split<;>rfl
theorem uX {k r n m:Int} {t:ByteArray} (ht:t.size≤maxLen) : ∃b,dK (⟨k,r,n,t⟩:M.Instr) m=some b:=by
 unfold dK
 simp only [kA,gL ht,Option.bind_some,aBd]
 generalize inR r 0 3=a1
 generalize (r != 0)=a2
 generalize qG t=a3
 generalize (t.toList==(⟨#[]⟩:ByteArray).toList)=a4
 generalize inR n 0 1000=a5
 generalize inR n 0 3=a6
 generalize inR n 0 m=a7
 generalize inR n 0 100=a8
 generalize (n==0)=a9
 cases hk:inR k 1 9 with
 | false=>exact ⟨false,by simp only [aBP,Option.bind_some,Bool.not_false,if_true,ite_self]⟩
 | true =>
  rcases uZ hk with rfl | rfl | rfl | rfl | rfl | rfl | rfl | rfl | rfl
  all_goals clear hk
  all_goals simp +decide only [Option.bind_some,aBP,if_true,if_false,Bool.not_true,Bool.not_false,show inR 1 6 8=false from rfl,show inR 2 6 8=false from rfl,show inR 3 6 8=false from rfl,show inR 4 6 8=false from rfl,show inR 6 6 8=true from rfl,show inR 7 6 8=true from rfl,show inR 8 6 8=true from rfl,show inR 9 6 8=false from rfl]
  all_goals (try generalize inR n 0 1000=b1)
  all_goals (try generalize inR n 0 3=b2)
  all_goals (try generalize inR n 0 m=b3)
  all_goals (try generalize inR n 0 100=b4)
  all_goals (try generalize inR n 0 0=b5)
  all_goals (try generalize (n==0)=b6)
  all_goals (try cases b1)
  all_goals (try cases b2)
  all_goals (try cases b3)
  all_goals (try cases b4)
  all_goals (try cases b5)
  all_goals (try cases b6)
  all_goals (try clear a1)
  all_goals (try clear a2)
  all_goals (try clear a3)
  all_goals (try clear a4)
  all_goals (try clear a5)
  all_goals (try clear a6)
  all_goals (try clear a7)
  all_goals (try clear a8)
  all_goals (try clear a9)
  all_goals (try cases a1)
  all_goals (try cases a2)
  all_goals (try cases a3)
  all_goals (try cases a4)
  all_goals (try cases a5)
  all_goals (try cases a6)
  all_goals (try cases a7)
  all_goals (try cases a8)
  all_goals (try cases a9)
  all_goals first | exact ⟨true,rfl⟩ | exact ⟨false,rfl⟩
def yC (x:M.Instr) (m:Int):Bool:=(dK x m).getD false
theorem oG {x:M.Instr} {m:Int} (hx:x.ok):dK x m=some (yC x m):=by
 obtain ⟨k,r,n,t⟩:=x
 obtain ⟨b,e1⟩:=uX (k:=k) (r:=r) (n:=n) (m:=m) hx.Text
 unfold yC
 rw [e1]
 rfl
def pQ (l:List M.Instr) (k:Nat):Bool:=(l[k]?).any fun x=>yC x (List.length l:Int)
def pT (l:List M.Instr):Bool:=(List.range l.length).all (pQ l)&&decide ((List.length l:Int)≤16)
def iM (l:List M.Instr):Prop:=l.length≤maxLen ∧ ∀x∈l,M.Instr.ok x
theorem mX {l:List M.Instr} (hl:iM l):eJ l=some (pT l):=by
 have hm:=le_max hl.1
 unfold eJ pT
 rw [vY (L:=bV l) (g:=pQ l) (F:=some false) (E:=some (decide ((List.length l:Int)≤16))) hl.1 (fun n k hk => ?_) (fun n => ?_),jB]
 ·simp only [bV]
  rw [if_pos (gH hk),dQ hk,Option.bind_some,hJ (by omega),oG (hl.2 _ (List.getElem_mem hk)),Option.bind_some]
  unfold pQ
  rw [List.getElem?_eq_getElem hk,Option.any_some]
  simp only [tU]
 ·simp only [bV]
  rw [if_neg (by rw [fF];simp)]
def sK (l:List M.Instr):M.Machine:=if pT l=true then (⟨l,0,[0,0,0,0],0,false,false⟩:M.Machine) else (⟨([]:List M.Instr),0,[0,0,0,0],0,true,false⟩:M.Machine)
theorem vU:okI [0,0,0,0]:=⟨by unfold maxLen;simp,fun x hx=>by
 simp only [List.mem_cons,List.not_mem_nil,or_false,or_self] at hx
 subst hx
 exact yS⟩
theorem zH {l:List M.Instr} (hl:iM l):(sK l).ok:=by
 unfold sK
 split
 ·exact ⟨hl,yS,vU,yS⟩
 ·exact ⟨⟨by simp,by simp⟩,yS,vU,yS⟩
theorem yH (l:List M.Instr):M.Machine.sz (sK l)≤l.length+iV M.Instr.sz l+4:=by
 unfold sK
 split
 ·simp only [M.Machine.sz,List.length_cons,List.length_nil];omega
 ·simp only [M.Machine.sz,iV,List.length_cons,List.length_nil];omega
theorem lK {l:List M.Instr} (hl:iM l) (hz:l.length≤1073741824):dR l=some (sK l):=by
 unfold dR sK
 rw [mX hl,Option.bind_some,iU l hz]
 cases pT l<;>rfl
def jJ (i:Int) (a b:ByteArray) (v:Int) (l:List M.Instr):M.aO:=(⟨i,a,b,v,([]:List M.aF),sK l⟩:M.aO)
def kT:M.aO:=(⟨0,(⟨#[]⟩:ByteArray),(⟨#[]⟩:ByteArray),0,([]:List M.aF),(⟨([]:List M.Instr),0,([]:List Int),0,false,false⟩:M.Machine)⟩:M.aO)
def mW (i:Int) (a b:ByteArray) (v:Int) (l:List M.Instr):M.aO×Bool:=if rP (jJ i a b v l)=true then (jJ i a b v l,true) else (kT,false)
theorem oS {i v:Int} {a b:ByteArray} {l:List M.Instr} (hi:inI i) (ha:a.size≤maxLen) (hb:b.size≤maxLen) (hv:inI v) (hl:iM l):(jJ i a b v l).ok:=⟨hi,ha,hb,hv,⟨by simp [jJ],by simp [jJ]⟩,zH hl⟩
theorem wE:kT.ok:=⟨yS,sz0,sz0,yS,⟨by simp [kT],by simp [kT]⟩,⟨⟨by simp [kT],by simp [kT]⟩,yS,⟨by simp [kT],by simp [kT]⟩,yS⟩⟩
theorem xJ {i v:Int} {a b:ByteArray} {l:List M.Instr} (hi:inI i) (ha:a.size≤maxLen) (hb:b.size≤maxLen) (hv:inI v) (hl:iM l):(mW i a b v l).1.ok:=by
 unfold mW
 split
 ·exact oS hi ha hb hv hl
 ·exact wE
theorem wD (i:Int) (a b:ByteArray) (v:Int) (l:List M.Instr):M.aO.sz (mW i a b v l).1≤a.size+b.size+(l.length+iV M.Instr.sz l)+4∧(mW i a b v l).1.aF.length=0:=by
 have h:=yH l
 unfold mW
 split
 ·refine ⟨?_,rfl⟩
  simp only [jJ,M.aO.sz,iV,List.length_nil]
  omega
 ·refine ⟨?_,rfl⟩
  have h0:(⟨#[]⟩:ByteArray).size=0:=rfl
  simp only [kT,M.aO.sz,M.Machine.sz,iV,List.length_nil,h0]
  omega
theorem mE {i v:Int} {a b:ByteArray} {l:List M.Instr} (hi:inI i) (ha:a.size≤maxLen) (hb:b.size≤maxLen) (hv:inI v) (hl:iM l) (hz:l.length≤1073741824):cQ i a b v l=some (mW i a b v l):=by
 unfold cQ mW
 rw [lK hl hz,Option.bind_some]
 show ((dI (jJ i a b v l)).bind _)=_
 rw [iJ (oS hi ha hb hv hl),Option.bind_some]
 cases rP (jJ i a b v l)<;>rfl
def okC (b:List Int) (i h:Int):Prop:=b.length≤1048576∧(∀x∈b,0≤x∧x≤255)∧0≤i∧i≤1048576∧inI h
def Dr {α:Type} (b:List Int) (P:α→Prop) (o:Option (Int×Int×α)):Prop:=∃i h r,o=some (i,h,r)∧okC b i h∧P r
theorem Dr.ret {α:Type} {b:List Int} {P:α→Prop} {i h:Int} {r:α} (hc:okC b i h) (hp:P r):Dr b P (some (i,h,r)):=⟨i,h,r,rfl,hc,hp⟩
theorem Dr.bnd {α β:Type} {b:List Int} {P:β→Prop} {Q:α→Prop} {o:Option (Int×Int×α)} {f:Int×Int×α→Option (Int×Int×β)} (ho:Dr b Q o) (hf : ∀i h r,okC b i h→Q r→Dr b P (f (i,h,r))):Dr b P (o.bind f):=by
 obtain ⟨i,h,r,rfl,hc,hq⟩:=ho
 exact hf i h r hc hq
theorem Dr.aBS {α β:Type} {b:List Int} {P:β→Prop} {Q:α→Prop} {o:Option α} {f:α→Option (Int×Int×β)} (ho : ∃r,o=some r∧Q r) (hf : ∀r,Q r→Dr b P (f r)):Dr b P (o.bind f):=by
 obtain ⟨r,rfl,hq⟩:=ho
 exact hf r hq
theorem Dr.mono {α:Type} {b:List Int} {P Q:α→Prop} {o:Option (Int×Int×α)} (h : ∀r,P r→Q r) (ho:Dr b P o):Dr b Q o:=by
 obtain ⟨i,h',r,e,hc,hp⟩:=ho
 exact ⟨i,h',r,e,hc,h r hp⟩
theorem pE {σ R:Type} {L:Nat→Int→σ→Option R} {I:Nat→σ→Prop} {Q:Option R→Prop} (h1 : ∀n (k:Nat) s,I (k+1) s→(∀s',I k s'→Q (L n (k:Int) s'))→Q (L (n+1) ((k+1:Nat):Int) s)) (h0 : ∀n s,I 0 s→Q (L (n+1) 0 s)) : ∀(n k:Nat) (s:σ),k<n→I k s→Q (L n (k:Int) s)
 | 0,_,_,h,_=>by omega
 | n+1,0,s,_,hi=>h0 n s hi
 | n+1,k+1,s,h,hi=>h1 n k s hi fun s' hi'=>pE h1 h0 n k s' (by omega) hi'
theorem aAr {σ R:Type} {N:Nat} {L:Nat→Int→σ→Option R} {I:Nat→σ→Prop} {Q:Option R→Prop} (h1 : ∀n (k:Nat) s,k<N→I k s→(∀s',I (k+1) s'→Q (L n ((k+1:Nat):Int) s'))→Q (L (n+1) (k:Int) s)) (h2 : ∀n s,I N s→Q (L (n+1) (N:Int) s)) : ∀(n k:Nat) (s:σ),N-k<n→k≤N→I k s→Q (L n (k:Int) s)
 | 0,_,_,h,_,_=>by omega
 | n+1,k,s,h,hk,hi=>by
  rcases Nat.lt_or_ge k N with hlt | hge
  ·exact h1 n k s hlt hi fun s' hi'=>aAr h1 h2 n (k+1) s' (by omega) (by omega) hi'
  ·have e:k=N:=by omega
   subst e
   exact h2 n s hi
theorem jH {k:Nat} (h:k≤9223372036854775808):k<fuel:=by unfold fuel;omega
theorem qX (x:BitVec IntKind.i64.bits):0≤i64.wrap ((x&&&BitVec.ofInt IntKind.i64.bits 255).toNat:Int)∧i64.wrap ((x&&&BitVec.ofInt IntKind.i64.bits 255).toNat:Int)≤255:=by
 have h1:(x&&&BitVec.ofInt IntKind.i64.bits 255).toNat≤255:=by
  rw [BitVec.toNat_and]
  exact Nat.le_trans Nat.and_le_right (by decide)
 rw [hH (by omega) (by omega)]
 omega
theorem mG {b:List Int} {i h:Int} (hc:okC b i h):Dr b (fun r=>0≤r∧r≤255) (dJ (⟨b,i,h⟩:M.aU)):=by
 obtain ⟨h1,h2,h3,h4,h5⟩:=hc
 unfold dJ
 by_cases hl:i<(b.length:Int)
 ·rw [if_pos (by simpa using hl)]
  obtain ⟨k,rfl⟩:=Int.eq_ofNat_of_zero_le h3
  have hk:k<b.length:=by omega
  show Dr b _ ((idx b (k:Int)).bind _)
  rw [dQ hk,Option.bind_some]
  refine .ret ⟨h1,h2,?_,?_,fL _⟩ (qX _)
  ·show 0≤i64.wrap ((k:Int)+1)
   rw [hJ (by omega)];omega
  ·show i64.wrap ((k:Int)+1)≤_
   rw [hJ (by omega)];omega
 ·rw [if_neg (by simpa using hl)]
  exact .ret ⟨h1,h2,h3,h4,fL _⟩ (qX _)
theorem sM {x n:Int} (hx:0≤x) (hn:0<n):x%n≤x:=by
 have h1:=Int.emod_add_mul_ediv x n
 have h2:0≤n*(x/n):=Int.mul_nonneg (by omega) (Int.ediv_nonneg hx (by omega))
 omega
theorem wH {x n:Int} (hx:0≤x) (hn:0<n):0≤Int.tmod x n∧Int.tmod x n<n:=by
 rw [Int.tmod_eq_emod_of_nonneg hx]
 exact ⟨Int.emod_nonneg _ (by omega),Int.emod_lt_of_pos _ hn⟩
theorem bW {b:List Int} {i h n:Int} (hc:okC b i h):Dr b (fun r=>0≤r∧(0<n→r<n)∧r≤16777215) (aE (⟨b,i,h⟩:M.aU) n):=by
 unfold aE
 by_cases h0:n≤0
 ·rw [if_pos (by simpa using h0)]
  exact .ret hc ⟨by omega,by omega,by omega⟩
 ·rw [if_neg (by simpa using h0)]
  by_cases h1:n≤256
  ·rw [if_pos (by simpa using h1)]
   refine .bnd (mG hc) fun i1 v1 r1 c1 q1 => ?_
   rw [if_neg (by simp;omega)]
   have:=wH q1.1 (show 0<n by omega)
   exact .ret c1 ⟨this.1,fun _=>this.2,by show Int.tmod r1 n≤_;omega⟩
  ·rw [if_neg (by simpa using h1)]
   refine .bnd (mG hc) fun i1 v1 r1 c1 q1=>.bnd (mG c1) fun i2 v2 r2 c2 q2=>.bnd (mG c2) fun i3 v3 r3 c3 q3 => ?_
   rw [if_neg (by simp;omega)]
   dsimp only
   rw [hH (n:=r1*65536) (by omega) (by omega),hH (n:=r2*256) (by omega) (by omega),hH (n:=r1*65536+r2*256) (by omega) (by omega),hH (by omega) (by omega)]
   have:=wH (show 0≤r1*65536+r2*256+r3 by omega) (show 0<n by omega)
   have h3:=Int.tmod_eq_emod_of_nonneg (b:=n) (show 0≤r1*65536+r2*256+r3 by omega)
   have h4:=sM (n:=n) (show 0≤r1*65536+r2*256+r3 by omega) (show 0<n by omega)
   exact .ret c3 ⟨this.1,fun _=>this.2,by omega⟩
theorem yK {b:List Int} {i h n:Int} (hc:okC b i h):Dr b (fun _=>True) (fO (⟨b,i,h⟩:M.aU) n):=by
 unfold fO
 exact .bnd (bW hc) fun i1 v1 r1 c1 q1=>.ret c1 trivial
theorem aAQ {b:List Int} {i h:Int} {l:List Int} (P:Int→Prop) (hl:0<l.length) (hp : ∀x∈l,P x) (hc:okC b i h):Dr b P (gA (⟨b,i,h⟩:M.aU) l):=by
 unfold gA
 refine .bnd (bW hc) fun i1 v1 r1 c1 q1 => ?_
 dsimp only
 obtain ⟨k,rfl⟩:=Int.eq_ofNat_of_zero_le q1.1
 have:=q1.2.1 (by omega)
 have hk:k<l.length:=by omega
 rw [dQ hk,Option.bind_some]
 exact .ret c1 (hp _ (List.getElem_mem hk))
theorem lL {b:List Int} {i h:Int} {l:List ByteArray} (P:ByteArray→Prop) (hl:0<l.length) (hp : ∀x∈l,P x) (hc:okC b i h):Dr b P (cV (⟨b,i,h⟩:M.aU) l):=by
 unfold cV
 refine .bnd (bW hc) fun i1 v1 r1 c1 q1 => ?_
 dsimp only
 obtain ⟨k,rfl⟩:=Int.eq_ofNat_of_zero_le q1.1
 have:=q1.2.1 (by omega)
 have hk:k<l.length:=by omega
 rw [dQ hk,Option.bind_some]
 exact .ret c1 (hp _ (List.getElem_mem hk))
theorem uA {b:List Int} : ∀(n k:Nat) (v:Int),b.length-k<n→k≤b.length→b.length≤1048576→inI v → ∃h,cX b n v (k:Int)=some (⟨b,0,h⟩:M.aU)∧inI h
 | 0,_,_,h,_,_,_=>by omega
 | n+1,k,v,h,hk,hl,hv=>by
  simp only [cX]
  by_cases h1:k<b.length
  ·rw [if_pos (gH h1)]
   by_cases h2:(k:Int)<4000
   ·rw [if_pos (by simpa using h2),dQ h1,Option.bind_some,hJ (by omega)]
    exact uA n (k+1) _ (by omega) (by omega) hl (fL _)
   ·rw [if_neg (by simpa using h2)]
    exact ⟨v,rfl,hv⟩
  ·rw [if_neg (by simp;omega)]
   exact ⟨v,rfl,hv⟩
theorem aAS {b:List Int} (hl:b.length≤1048576) (hb : ∀x∈b,0≤x∧x≤255) : ∃h,gB b=some (⟨b,0,h⟩:M.aU)∧okC b 0 h:=by
 unfold gB
 obtain ⟨h,e1,e2⟩:=uA (b:=b) fuel 0 (i64.wrap (193017+(List.length b:Int))) (jH (by omega)) (by omega) hl (fL _)
 exact ⟨h,e1,hl,hb,by omega,by omega,e2⟩
theorem tJ {r:Int} (h:0≤r) : ∃k:Nat,r=(k:Int):=⟨r.toNat,by omega⟩
theorem jN {n:Int} (h1 : -1000000000000000≤n) (h2:n≤1000000000000000):inI n:=by unfold inI;omega
theorem gK {s:ByteArray} (h:s.size≤8):s.size≤maxLen:=by unfold maxLen;omega
theorem wrap_small {n:Int} (h1 : -1000000000000000≤n) (h2:n≤1000000000000000):i64.wrap n=n:=hH (by omega) (by omega)
theorem rN {b:List Int} {i h:Int} (hc:okC b i h):Dr b (fun s=>s.size≤8) (eE (⟨b,i,h⟩:M.aU)):=by
 unfold eE
 exact .bnd (lL (fun s=>s.size≤8) (by decide) (by decide) hc) fun i1 v1 r1 c1 q1=>.ret c1 q1
theorem wC {b:List Int} {i h:Int} (hc:okC b i h):Dr b (fun s=>s.size≤8) (dM (⟨b,i,h⟩:M.aU)):=by
 unfold dM
 exact .bnd (lL (fun s=>s.size≤8) (by decide) (by decide) hc) fun i1 v1 r1 c1 q1=>.ret c1 q1
theorem pV {b:List Int} {i h:Int} (hc:okC b i h):Dr b (fun s=>s.size≤8) (dZ (⟨b,i,h⟩:M.aU)):=by
 unfold dZ
 exact .bnd (lL (fun s=>s.size≤8) (by decide) (by decide) hc) fun i1 v1 r1 c1 q1=>.ret c1 q1
def gO (x:M.Instr):Prop:=M.Instr.ok x∧x.Text.size≤8
theorem hD {k r n:Int} {s:ByteArray} (h1 : -1000000000000≤k∧k≤1000000000000) (h2:0≤r∧r≤1000000000000) (h3:0≤n∧n≤1000000000000) (hs:s.size≤8):gO (⟨k,r,n,s⟩:M.Instr):=⟨⟨jN (by show -1000000000000000≤k;omega) (by show k≤_;omega),jN (by show -1000000000000000≤r;omega) (by show r≤_;omega),jN (by show -1000000000000000≤n;omega) (by show n≤_;omega),gK hs⟩,hs⟩
theorem uV {b:List Int} {i h n:Int} (hn:0≤n∧n≤1000) (hc:okC b i h):Dr b gO (eH (⟨b,i,h⟩:M.aU) n):=by
 have e0:(⟨#[]⟩:ByteArray).size≤8:=by decide
 unfold eH
 refine .bnd (bW hc) fun i1 v1 r1 c1 q1=>.bnd (bW c1) fun i2 v2 r2 c2 q2 => ?_
 dsimp only
 have hr1:=q1.2.1 (by omega)
 have hr2:=q2.2.1 (by omega)
 rw [wrap_small (n:=1+r1) (by omega) (by omega),wrap_small (n:=n+1) (by omega) (by omega)]
 have a1 : -1000000000000≤1+r1∧1+r1≤1000000000000:=by omega
 have a2:0≤r2∧r2≤1000000000000:=by omega
 have a0:(0:Int)≤0∧(0:Int)≤1000000000000:=by omega
 have below : ∀ {m:Int} {f:Int×Int×Int→Option (Int×Int×M.Instr)},(∀i3 v3 r3,okC b i3 v3→(0≤r3∧r3≤1000000000000)→Dr b gO (f (i3,v3,r3)))→Dr b gO ((aE (⟨b,i2,v2⟩:M.aU) m).bind f):=fun hf=>.bnd (bW c2) fun i3 v3 r3 c3 q3=>hf i3 v3 r3 c3 ⟨q3.1,by omega⟩
 split
 ·exact below fun i3 v3 r3 c3 q3=>.ret c3 (hD a1 a2 q3 e0)
 split
 ·exact below fun i3 v3 r3 c3 q3=>.ret c3 (hD a1 a2 q3 e0)
 split
 ·exact below fun i3 v3 r3 c3 q3=>.ret c3 (hD a1 a2 q3 e0)
 split
 ·exact below fun i3 v3 r3 c3 q3=>.ret c3 (hD a1 a0 q3 e0)
 split
 ·exact .bnd (lL (fun s=>s.size≤8) (by decide) (by decide) c2) fun i3 v3 r3 c3 q3=>.ret c3 (hD a1 a2 a0 q3)
 split
 ·exact below fun i3 v3 r3 c3 q3=>.bnd (pV c3) fun i4 v4 r4 c4 q4=>.ret c4 (hD a1 a2 q3 q4)
 split
 ·exact below fun i3 v3 r3 c3 q3=>.bnd (pV c3) fun i4 v4 r4 c4 q4=>.ret c4 (hD a1 a2 q3 q4)
 split
 ·exact below fun i3 v3 r3 c3 q3=>.bnd (pV c3) fun i4 v4 r4 c4 q4=>.ret c4 (hD a1 a2 q3 q4)
 split
 ·exact .ret c2 (hD a1 a0 a0 e0)
 ·exact .ret c2 (hD a1 a2 a0 e0)
def gQ (l:List M.Instr):Prop:=l.length≤8 ∧ ∀x∈l,gO x
theorem mQ {b:List Int} {i h:Int} (hc:okC b i h):Dr b gQ (dB (⟨b,i,h⟩:M.aU)):=by
 unfold dB
 refine .bnd (bW hc) fun i1 v1 r1 c1 q1 => ?_
 obtain ⟨N,rfl⟩:=tJ q1.1
 have hN:=q1.2.1 (by omega)
 refine aAr (N:=N) (L:=fun n v (s:List M.Instr×Int×Int)=>bI (⟨b,i,h⟩:M.aU) (i1,v1,(N:Int)) n v s.1 s.2.1 s.2.2) (I:=fun k s=>okC b s.2.1 s.2.2∧s.1.length=k ∧ ∀x∈s.1,gO x) (Q:=Dr b gQ) (fun n k s hk hi ih => ?_) (fun n s hi => ?_) fuel 0 (([]:List M.Instr),i1,v1) (jH (by omega)) (by omega) ⟨c1,rfl,by simp⟩
 ·obtain ⟨l,ci,ch⟩:=s
  obtain ⟨k1,k2,k3⟩:=hi
  simp only at k1 k2 k3
  simp only [bI]
  rw [if_pos (gH hk)]
  refine .bnd (uV ⟨by omega,by omega⟩ k1) fun i3 v3 r3 c3 q3 => ?_
  rw [jT (by simp only [List.length_cons,List.length_nil];omega),Option.bind_some,hJ (by omega)]
  refine ih (l++[r3],i3,v3) ⟨c3,by simp [k2],fun x hx => ?_⟩
  rcases List.mem_append.1 hx with hx | hx
  ·exact k3 x hx
  ·rw [List.mem_singleton.1 hx];exact q3
 ·obtain ⟨l,ci,ch⟩:=s
  obtain ⟨k1,k2,k3⟩:=hi
  simp only at k1 k2 k3
  simp only [bI]
  rw [if_neg (by rw [fF];simp)]
  exact .ret k1 ⟨by omega,k3⟩
theorem qK {l:List M.Instr} (h:gQ l):iM l:=⟨Nat.le_trans h.1 (by unfold maxLen;omega),fun x hx=>(h.2 x hx).1⟩
theorem wP {l:List M.Instr} (h:gQ l):l.length+iV M.Instr.sz l≤72:=by
 have h1:=mS (c:=M.Instr.sz) (A:=8) (xs:=l) fun x hx=>(h.2 x hx).2
 have h2:=h.1
 omega
def lB (p:M.aO):Prop:=M.aO.ok p∧p.aF.length≤3∧M.aO.sz p≤1000
theorem xH {b:List Int} {i h:Int} (hc:okC b i h):Dr b lB (eV (⟨b,i,h⟩:M.aU)):=by
 have fin : ∀ {L:Nat→Int→Int→ByteArray→ByteArray→Int→Int→Int→Bool→Bool→Int→Int→List M.aF→List M.Instr→List Int→Option (Int×Int×M.aO)} {n:Int} {i1 h1:Int} {p:M.aO},(∀m v a0 a1 a2 a3 a6 a8 a9 a10 ci ch r0 r1 r2,L (m+1) v a0 a1 a2 a3 a6 a8 a9 a10 ci ch r0 r1 r2=if (decide (v>0))=true then ((dM (⟨b,ci,ch⟩:M.aU)).bind fun x72=>((cK (⟨a0,a1,a2,a3,r0,(⟨r1,a6,r2,a8,a9,a10⟩:M.Machine)⟩:M.aO) x72.2.2 (⟨0,200,a3,([]:List Int),false⟩:M.Response)).bind fun x74=>(L m (i64.wrap (v-1)) x74.1.Id x74.1.Site x74.1.Top x74.1.Version x74.1.Machine.Pc x74.1.Machine.Steps x74.1.Machine.Done x74.1.Machine.Wait x72.1 x72.2.1 x74.1.aF x74.1.Machine.Script x74.1.Machine.Regs))) else (some (ci,ch,(⟨a0,a1,a2,a3,r0,(⟨r1,a6,r2,a8,a9,a10⟩:M.Machine)⟩:M.aO)))) →
   (0≤n∧n<3)→okC b i1 h1→M.aO.ok p→p.aF.length=0→M.aO.sz p≤200→Dr b lB (L fuel n p.Id p.Site p.Top p.Version p.Machine.Pc p.Machine.Steps p.Machine.Done p.Machine.Wait i1 h1 p.aF p.Machine.Script p.Machine.Regs):=by
  intro L n i1 h1 p hL hn hc hp hl hz
  obtain ⟨N,rfl⟩:=tJ hn.1
  refine pE (L:=fun m v (s:M.aO×Int×Int)=>L m v s.1.Id s.1.Site s.1.Top s.1.Version s.1.Machine.Pc s.1.Machine.Steps s.1.Machine.Done s.1.Machine.Wait s.2.1 s.2.2 s.1.aF s.1.Machine.Script s.1.Machine.Regs) (I:=fun k s=>okC b s.2.1 s.2.2∧M.aO.ok s.1∧s.1.aF.length+k≤3∧M.aO.sz s.1+20*k≤300) (Q:=Dr b lB) (fun m k s hi ih => ?_) (fun m s hi => ?_) fuel N (p,i1,h1) (jH (by omega)) ⟨hc,hp,by show p.aF.length+N≤3;omega,by show M.aO.sz p+20*N≤300;omega⟩
  ·obtain ⟨p,ci,ch⟩:=s
   obtain ⟨k1,k2,k3,k4⟩:=hi
   simp only at k1 k2 k3 k4
   simp only [hL]
   rw [if_pos (by first | (simp;done) | (simp;omega))]
   refine .bnd (wC k1) fun i3 v3 r3 c3 q3 => ?_
   have hv:inI (⟨0,200,p.Version,([]:List Int),false⟩:M.Response).Version:=k2.Version
   show Dr b lB ((cK p r3 _).bind _)
   rw [nW k2 (by omega) (by omega) (gK q3) hv,Option.bind_some,show i64.wrap (((k+1:Nat):Int)-1)=(k:Int) from by rw [wrap_small (by omega) (by omega)];omega]
   have z:=yL p r3 (⟨0,200,p.Version,([]:List Int),false⟩:M.Response)
   refine ih ((pX p r3 (⟨0,200,p.Version,([]:List Int),false⟩:M.Response)).1,i3,v3) ⟨c3,yO k2 (by omega) (gK q3) hv,?_,by dsimp only;omega⟩
   have:(pX p r3 (⟨0,200,p.Version,([]:List Int),false⟩:M.Response)).1.aF.length≤p.aF.length+1:=by
    unfold pX
    split
    ·show p.aF.length≤_;omega
    ·split
     ·show p.aF.length≤_;omega
     ·split
      ·split
       ·simp [kV]
       ·show p.aF.length≤_;omega
      ·show p.aF.length≤_;omega
   dsimp only
   omega
  ·obtain ⟨p,ci,ch⟩:=s
   obtain ⟨k1,k2,k3,k4⟩:=hi
   simp only at k1 k2 k3 k4
   simp only [hL]
   rw [if_neg (by simp)]
   exact .ret k1 ⟨k2,by show p.aF.length≤3;omega,by show M.aO.sz p≤_;omega⟩
 have page : ∀ {j v:Int} {s t:ByteArray} {l:List M.Instr},(0≤j∧j≤1000)→(0≤v∧v≤1000)→s.size≤8→t.size≤8→gQ l → ∃r,cQ (i64.wrap (1+j)) s t (i64.wrap (1+v)) l=some r∧(M.aO.ok r.1∧r.1.aF.length=0∧M.aO.sz r.1≤200):=by
  intro j v s t l hj hv hs ht hl
  have h1:=wP hl
  refine ⟨_,mE (fL _) (gK hs) (gK ht) (fL _) (qK hl) (by omega),xJ (fL _) (gK hs) (gK ht) (fL _) (qK hl),?_⟩
  have h2:=wD (i64.wrap (1+j)) s t (i64.wrap (1+v)) l
  exact ⟨h2.2,by omega⟩
 unfold eV
 refine .bnd (rN hc) fun i1 v1 r1 c1 q1=>.bnd (yK c1) fun i2 v2 r2 c2 q2 => ?_
 dsimp only
 split
 ·refine .bnd (rN c2) fun i3 v3 r3 c3 q3=>.bnd (bW c3) fun i4 v4 r4 c4 q4=>.bnd (bW c4) fun i5 v5 r5 c5 q5=>.bnd (mQ c5) fun i6 v6 r6 c6 q6 => ?_
  have z4:=q4.2.1 (by omega)
  have z5:=q5.2.1 (by omega)
  refine .aBS (page ⟨q4.1,by dsimp only;omega⟩ ⟨q5.1,by dsimp only;omega⟩ q1 q3 q6) fun r hr=>.bnd (bW c6) fun i7 v7 r7 c7 q7 => ?_
  have z7:=q7.2.1 (by omega)
  exact fin (L:=cG (⟨b,i,h⟩:M.aU)) (fun _ _ _ _ _ _ _ _ _ _ _ _ _ _ _=>by simp only [cG]) ⟨q7.1,z7⟩ c7 hr.1 hr.2.1 hr.2.2
 ·refine .bnd (bW c2) fun i4 v4 r4 c4 q4=>.bnd (bW c4) fun i5 v5 r5 c5 q5=>.bnd (mQ c5) fun i6 v6 r6 c6 q6 => ?_
  have z4:=q4.2.1 (by omega)
  have z5:=q5.2.1 (by omega)
  refine .aBS (page ⟨q4.1,by dsimp only;omega⟩ ⟨q5.1,by dsimp only;omega⟩ q1 q1 q6) fun r hr=>.bnd (bW c6) fun i7 v7 r7 c7 q7 => ?_
  have z7:=q7.2.1 (by omega)
  exact fin (L:=cF (⟨b,i,h⟩:M.aU)) (fun _ _ _ _ _ _ _ _ _ _ _ _ _ _ _=>by simp only [cF]) ⟨q7.1,z7⟩ c7 hr.1 hr.2.1 hr.2.2
theorem qF {b:List Int} {i h:Int} (hc:okC b i h):Dr b (fun x=>M.Channel.ok x∧x.Mails.length≤20) (dS (⟨b,i,h⟩:M.aU)):=by
 unfold dS
 refine .bnd (aAQ (fun x=>0≤x∧x≤20) (by decide) (by decide) hc) fun i1 v1 r1 c1 q1 => ?_
 obtain ⟨N,rfl⟩:=tJ q1.1
 have hN:=q1.2
 refine pE (L:=fun n v (s:Int×Int×List M.bB)=>bE (⟨b,i,h⟩:M.aU) n v s.1 s.2.1 s.2.2) (I:=fun k s=>okC b s.1 s.2.1∧s.2.2.length+k≤20 ∧ ∀m∈s.2.2,M.bB.ok m) (Q:=Dr b fun x=>M.Channel.ok x∧x.Mails.length≤20) (fun n k s hi ih => ?_) (fun n s hi => ?_) fuel N (i1,v1,([]:List M.bB)) (jH (by omega)) ⟨c1,by show 0+N≤20;omega,by simp⟩
 ·obtain ⟨ci,ch,l⟩:=s
  obtain ⟨k1,k2,k3⟩:=hi
  simp only at k1 k2 k3
  simp only [bE]
  rw [if_pos (by first | (simp;done) | (simp;omega))]
  refine .bnd (bW k1) fun i3 v3 r3 c3 q3=>.bnd (bW c3) fun i4 v4 r4 c4 q4=>.bnd (bW c4) fun i5 v5 r5 c5 q5 => ?_
  rw [jT (by simp only [List.length_cons,List.length_nil];omega),Option.bind_some,show i64.wrap (((k+1:Nat):Int)-1)=(k:Int) from by rw [wrap_small (by omega) (by omega)];omega]
  refine ih (i5,v5,l++[_]) ⟨c5,by show (l++[_]).length+k≤20;simp only [List.length_append,List.length_cons,List.length_nil];omega,fun m hm => ?_⟩
  rcases List.mem_append.1 hm with hm | hm
  ·exact k3 m hm
  ·rw [List.mem_singleton.1 hm]
   exact ⟨fL _,fL _,jN (by show -1000000000000000≤r5;omega) (by show r5≤_;omega)⟩
 ·obtain ⟨ci,ch,l⟩:=s
  obtain ⟨k1,k2,k3⟩:=hi
  simp only at k1 k2 k3
  simp only [bE]
  rw [if_neg (by simp)]
  exact .ret k1 ⟨⟨⟨Nat.le_trans (by omega:l.length≤20) (by unfold maxLen;omega),k3⟩⟩,by show l.length≤20;omega⟩
def pA (l:List M.aO):Prop:=l.length≤5 ∧ ∀p∈l,M.aO.ok p
theorem vM {b:List Int} {i h:Int} (hc:okC b i h):Dr b pA (dV (⟨b,i,h⟩:M.aU)):=by
 unfold dV
 refine .bnd (bW hc) fun i1 v1 r1 c1 q1 => ?_
 obtain ⟨N,rfl⟩:=tJ q1.1
 have hN:=q1.2.1 (by omega)
 refine pE (L:=fun n v (s:List M.aO×Int×Int)=>bP (⟨b,i,h⟩:M.aU) n v s.1 s.2.1 s.2.2) (I:=fun k s=>okC b s.2.1 s.2.2∧s.1.length+k≤5 ∧ ∀m∈s.1,M.aO.ok m) (Q:=Dr b pA) (fun n k s hi ih => ?_) (fun n s hi => ?_) fuel N (([]:List M.aO),i1,v1) (jH (by omega)) ⟨c1,by show 0+N≤5;omega,by simp⟩
 ·obtain ⟨l,ci,ch⟩:=s
  obtain ⟨k1,k2,k3⟩:=hi
  simp only at k1 k2 k3
  simp only [bP]
  rw [if_pos (by first | (simp;done) | (simp;omega))]
  refine .bnd (xH k1) fun i3 v3 r3 c3 q3=>.bnd (lL (fun s=>s.size≤8) (by decide) (by decide) c3) fun i4 v4 r4 c4 q4=>.bnd (lL (fun s=>s.size≤8) (by decide) (by decide) c4) fun i5 v5 r5 c5 q5 => ?_
  rw [jT (by simp only [List.length_cons,List.length_nil];omega),Option.bind_some,show i64.wrap (((k+1:Nat):Int)-1)=(k:Int) from by rw [wrap_small (by omega) (by omega)];omega]
  refine ih (l++[_],i5,v5) ⟨c5,by show (l++[_]).length+k≤5;simp only [List.length_append,List.length_cons,List.length_nil];omega,fun m hm => ?_⟩
  rcases List.mem_append.1 hm with hm | hm
  ·exact k3 m hm
  ·rw [List.mem_singleton.1 hm]
   exact ⟨fL _,gK q4,gK q5,q3.1.Version,q3.1.aF,q3.1.Machine⟩
 ·obtain ⟨l,ci,ch⟩:=s
  obtain ⟨k1,k2,k3⟩:=hi
  simp only at k1 k2 k3
  simp only [bP]
  rw [if_neg (by simp)]
  exact .ret k1 ⟨by omega,k3⟩
theorem mD {p:M.aO→Option Bool} {f:M.aO→Bool} {xs:List M.aO} (hx:xs.length≤maxLen) (hp : ∀x∈xs,p x=some (f x)):bK xs p=some (lZ f xs):=by
 have hm:=le_max hx
 unfold bK
 rw [findAll (L:=aQ xs p) (f:=f) (A:=fun i=>some (i:Int)) (E:=some (-1)) hx (fun n k hk=>by
  simp only [aQ]
  rw [if_pos (gH hk),dQ hk,Option.bind_some,hp _ (List.getElem_mem hk),Option.bind_some,hJ (by omega)]) (fun n=>by
  simp only [aQ]
  rw [if_neg (by rw [fF];simp)]),nY]
theorem mR {x:M.Channel} {p:Int} (hx:x.Mails.length≤4194304):eM x p=some (x.Mails.filter fun m=>m.To==p):=by
 unfold eM
 refine rV (L:=bN x p) (b:=24) (E:=some) (by unfold maxLen;omega) (by omega) (fun n r k hk => ?_) (fun n r => ?_)
 ·simp only [bN]
  rw [if_pos (gH hk),dQ hk,Option.bind_some,hJ (by omega)]
 ·simp only [bN]
  rw [if_neg (by rw [fF];simp)]
theorem cJ {x:M.Channel} {p:Int} (hx:x.Mails.length≤4194304):aH x p=some (x.Mails.filter fun m=>m.To==p):=by
 unfold aH
 refine rV (L:=bO x p) (b:=24) (E:=some) (by unfold maxLen;omega) (by omega) (fun n r k hk => ?_) (fun n r => ?_)
 ·simp only [bO]
  rw [if_pos (gH hk),dQ hk,Option.bind_some,hJ (by omega)]
 ·simp only [bO]
  rw [if_neg (by rw [fF];simp)]
def oC (a b:M.aO):Bool:=(a.Site.toList==b.Site.toList)&&((a.Top.toList==b.Top.toList)&&(a.Id != b.Id))
def fH (a:M.aO) (f n:Int) (s:Int×List M.bB) (p:M.aO):Int×List M.bB:=
 if oC a p&&decide (((s.2.filter fun m=>m.To==p.Id).length:Int)<5) then (s.1+1,s.2++[⟨p.Id,f,n⟩]) else s
theorem aBI {α:Type} (a b:Bool) (x y:α):(if a=true then (if b=true then x else y) else y)=if (a&&b)=true then x else y:=by cases a<;>cases b<;>rfl
theorem oD (a b:M.aO):fA a b=some (oC a b):=by unfold fA oC;rw [jB,jB]
theorem jW (a b:M.aO):eD a b=some (oC a b):=by unfold eD oC;rw [jB,jB]
def iT (x:M.Channel) (l:List M.aO) (f n:Int):M.Channel×Int:=
 match l[(lZ (fun p:M.aO=>p.Id==f) l).toNat]? with
 | some a=>if lZ (fun p:M.aO=>p.Id==f) l<0 then (x,0) else (⟨(l.foldl (fH a f n) (0,x.Mails)).2⟩,(l.foldl (fH a f n) (0,x.Mails)).1)
 | none=>(x,0)
def xK (m0:Nat) (f n:Int) (l:List M.aO) (k:Nat) (s:Int×List M.bB):Prop:=0≤s.1∧s.1≤k∧s.2.length≤m0+k ∧ ∀m∈s.2,M.bB.ok m
theorem oZ {m0:Nat} {f n:Int} {l:List M.aO} (hf:inI f) (hn:inI n) (hl : ∀p∈l,M.aO.ok p) (a:M.aO) : ∀s (k:Nat) (hk:k<l.length),xK m0 f n l k s→xK m0 f n l (k+1) (fH a f n s l[k]):=by
 rintro s k hk ⟨h1,h2,h3,h4⟩
 unfold fH
 split
 ·refine ⟨by simp only;omega,by simp only;omega,by simp only [List.length_append,List.length_cons,List.length_nil];omega,?_⟩
  intro m hm
  rcases List.mem_append.1 hm with hm | hm
  ·exact h4 m hm
  ·simp at hm
   subst hm
   exact ⟨(hl _ (List.getElem_mem hk)).Id,hf,hn⟩
 ·exact ⟨h1,by omega,by omega,h4⟩
theorem vO {x:M.Channel} {l:List M.aO} {f n:Int} (hx:x.ok) (hl:l.length≤maxLen ∧ ∀p∈l,M.aO.ok p) (hf:inI f) (hn:inI n) (hs:x.Mails.length+l.length≤2097152) {j:Nat} {a:M.aO} (hj:l[j]? = some a) :
  aW l f n (j:Int) fuel 0 0 x.Mails=some ((⟨(l.foldl (fH a f n) (0,x.Mails)).2⟩:M.Channel),(l.foldl (fH a f n) (0,x.Mails)).1)∧xK x.Mails.length f n l l.length (l.foldl (fH a f n) (0,x.Mails)):=by
 have key:=xB (L:=fun n' k (s:Int×List M.bB)=>aW l f n (j:Int) n' s.1 k s.2) (xs:=l) (step:=fH a f n) (I:=xK x.Mails.length f n l) (E:=fun s=>some ((⟨s.2⟩:M.Channel),s.1)) hl.1
  (oZ hf hn hl.2 a) (fun m s k hk hi => ?_) (fun m s hi => ?_) (0,x.Mails) ⟨by simp,by simp,by simp,hx.Mails.2⟩
 ·exact key
 ·obtain ⟨h1,h2,h3,h4⟩:=hi
  simp only [aW]
  rw [if_pos (gH hk),xS hj,Option.bind_some,dQ hk,Option.bind_some,oD,Option.bind_some,mR (by simp only;omega),Option.bind_some,jT (by simp only [List.length_cons,List.length_nil];omega),Option.bind_some,hH (by omega) (by omega),hJ (by omega),aBI]
  unfold fH
  split<;>rfl
 ·simp only [aW]
  rw [if_neg (by rw [fF];simp)]
theorem xZ {x:M.Channel} {l:List M.aO} {f n:Int} (hx:x.ok) (hl:l.length≤maxLen ∧ ∀p∈l,M.aO.ok p) (hf:inI f) (hn:inI n) (hs:x.Mails.length+l.length≤2097152) {j:Nat} {a:M.aO} (hj:l[j]? = some a) :
  aT l f n (j:Int) fuel 0 0 x.Mails=some ((⟨(l.foldl (fH a f n) (0,x.Mails)).2⟩:M.Channel),(l.foldl (fH a f n) (0,x.Mails)).1):=by
 have key:=xB (L:=fun n' k (s:Int×List M.bB)=>aT l f n (j:Int) n' s.1 k s.2) (xs:=l) (step:=fH a f n) (I:=xK x.Mails.length f n l) (E:=fun s=>some ((⟨s.2⟩:M.Channel),s.1)) hl.1
  (oZ hf hn hl.2 a) (fun m s k hk hi => ?_) (fun m s hi => ?_) (0,x.Mails) ⟨by simp,by simp,by simp,hx.Mails.2⟩
 ·exact key.1
 ·obtain ⟨h1,h2,h3,h4⟩:=hi
  simp only [aT]
  rw [if_pos (gH hk),dQ hk,Option.bind_some,xS hj,Option.bind_some,jW,Option.bind_some,cJ (by simp only;omega),Option.bind_some,jT (by simp only [List.length_cons,List.length_nil];omega),Option.bind_some,hH (by omega) (by omega),hJ (by omega),aBI]
  unfold fH
  split<;>rfl
 ·simp only [aT]
  rw [if_neg (by rw [fF];simp)]
theorem xA {l:List M.aO} {f:Int} (hl:l.length≤maxLen):eW l f=some (lZ (fun p:M.aO=>p.Id==f) l):=by
 have hm:=le_max hl
 unfold eW
 rw [findAll (L:=cE l f) (f:=fun p:M.aO=>p.Id==f) (A:=fun i=>some (i:Int)) (E:=some (-1)) hl (fun m k hk => ?_) (fun m => ?_),nY]
 ·simp only [cE]
  rw [if_pos (gH hk),dQ hk,Option.bind_some,hJ (by omega)]
 ·simp only [cE]
  rw [if_neg (by rw [fF];simp)]
theorem sZ {x:M.Channel} {l:List M.aO} {f n:Int} (hx:x.ok) (hl:l.length≤maxLen ∧ ∀p∈l,M.aO.ok p) (hf:inI f) (hn:inI n) (hs:x.Mails.length+l.length≤2097152) :
  eB x l f n=some (iT x l f n)∧eC x l f n=some (iT x l f n)∧M.Channel.ok (iT x l f n).1∧(iT x l f n).1.Mails.length≤2097152:=by
 have hm:=le_max hl.1
 have hc:fB x=some x:=by unfold fB;rw [jT (by simp;omega),Option.bind_some]
 have hd:bH x=some x:=by unfold bH;rw [jT (by simp;omega),Option.bind_some]
 have hi:bK l (fun z0=>dH z0 f)=some (lZ (fun p:M.aO=>p.Id==f) l):=mD hl.1 (fun x _=>rfl)
 unfold eB eC
 rw [hc,hd,Option.bind_some,Option.bind_some,xA hl.1,hi,Option.bind_some,Option.bind_some]
 unfold iT
 by_cases h:lZ (fun p:M.aO=>p.Id==f) l<0
 ·rw [if_pos (by simpa using h),if_pos (by simpa using h)]
  have e:(match l[(lZ (fun p:M.aO=>p.Id==f) l).toNat]? with
   | some a=>if lZ (fun p:M.aO=>p.Id==f) l<0 then (x,0) else (⟨(l.foldl (fH a f n) (0,x.Mails)).2⟩,(l.foldl (fH a f n) (0,x.Mails)).1)
   | none=>((x,0):M.Channel×Int))=(x,0):=by
   split
   ·rw [if_pos h]
   ·rfl
  rw [e]
  exact ⟨rfl,rfl,hx,by simp only;omega⟩
 ·rw [if_neg (by simpa using h),if_neg (by simpa using h)]
  obtain ⟨j,hj,hlt⟩:=uK h
  have hg:l[j]? = some l[j]:=List.getElem?_eq_getElem hlt
  obtain ⟨k1,k2⟩:=vO hx hl hf hn hs hg
  have k3:=xZ hx hl hf hn hs hg
  rw [hj,Int.toNat_natCast,hg]
  simp only
  rw [if_neg (by omega),k1,k3]
  obtain ⟨i1,i2,i3,i4⟩:=k2
  exact ⟨rfl,rfl,⟨⟨Nat.le_trans i3 (by unfold maxLen;omega),i4⟩⟩,Nat.le_trans i3 (by omega)⟩
theorem iP {p:M.bB→Option Bool} {f:M.bB→Bool} {xs:List M.bB} (hx:xs.length≤maxLen) (hp : ∀x∈xs,p x=some (f x)):bD xs p=some (lZ f xs):=by
 have hm:=le_max hx
 unfold bD
 rw [findAll (L:=aP xs p) (f:=f) (A:=fun i=>some (i:Int)) (E:=some (-1)) hx (fun n k hk=>by
  simp only [aP]
  rw [if_pos (gH hk),dQ hk,Option.bind_some,hp _ (List.getElem_mem hk),Option.bind_some,hJ (by omega)]) (fun n=>by
  simp only [aP]
  rw [if_neg (by rw [fF];simp)]),nY]
theorem aAH {α:Type} {l:List α} {k:Nat} (h:k≤l.length):oF l (k:Int)=some (l.drop k):=by
 unfold oF
 rw [if_pos ⟨by omega,by simpa using h⟩,Int.toNat_natCast]
theorem gV {x:M.Channel} (hz:x.Mails.length≤1048576):bH x=some x:=by
 unfold bH
 rw [aA0 (by omega) (by omega),Option.bind_some]
def nTo (p:Int) (m:M.bB):Bool:=m.To==p
theorem sH {α:Type} {xs:List α} {q:α→Bool} {L:Nat→Int→Int→List α→Option (List α)}
  (h1 : ∀n (i j:Nat) (r:List α) (hj:j<r.length) (hi:i<r.length),r.length=xs.length→r[j]∈xs→L (n+1) (i:Int) (j:Int) r=if q r[j]=true then L n (i:Int) ((j+1:Nat):Int) r else L n ((i+1:Nat):Int) ((j+1:Nat):Int) (r.set i r[j]))
  (h2 : ∀n (i:Nat) (r:List α),i≤r.length→L (n+1) (i:Int) (r.length:Int) r=some (r.take i)) :
  ∀(n i j:Nat) (r:List α),xs.length-j<n→j≤xs.length→i≤j→r.length=xs.length→r.take i=(xs.take j).filter (fun x => !q x)→r.drop j=xs.drop j→L n (i:Int) (j:Int) r=some (xs.filter fun x => !q x)
 | 0,i,j,r,hn,_,_,_,_,_=>by omega
 | n+1,i,j,r,hn,hj,hi,hr,ht,hd=>by
  rcases Nat.lt_or_ge j xs.length with h | h
  ·have hjr:j<r.length:=by omega
   have e0:r[j]=xs[j]:=by
    have:=congrArg (fun l=>l[0]?) hd
    simp only [List.getElem?_drop,Nat.add_zero,List.getElem?_eq_getElem hjr,List.getElem?_eq_getElem h,Option.some.injEq] at this
    exact this
   have hd1:r.drop (j+1)=xs.drop (j+1):=by
    have:=congrArg (List.drop 1) hd
    simpa only [List.drop_drop] using this
   have htk:xs.take (j+1)=xs.take j++[xs[j]]:=(List.take_append_getElem h).symm
   rw [h1 n i j r hjr (by omega) hr (by rw [e0];exact List.getElem_mem h)]
   cases hq:q r[j] with
   | true =>
    rw [if_pos rfl]
    refine sH h1 h2 n i (j+1) r (by omega) h (by omega) hr ?_ hd1
    rw [ht,htk,List.filter_append,←e0]
    simp [hq]
   | false =>
    rw [if_neg (by simp)]
    refine sH h1 h2 n (i+1) (j+1) (r.set i r[j]) (by omega) h (by omega) (by simpa using hr) ?_ ?_
    ·rw [htk,List.filter_append,←ht,←e0]
     have hl:i<(r.set i r[j]).length:=by rw [List.length_set];omega
     rw [←List.take_append_getElem hl,List.getElem_set_self,List.take_set_of_le (Nat.le_refl i)]
     simp [hq]
    ·rw [List.drop_set_of_lt (by omega)]
     exact hd1
  ·have e:j=r.length:=by omega
   subst e
   rw [h2 n i r hi,ht,List.take_of_length_le (by omega)]
theorem lM {p:M.bB→Option Bool} {q:M.bB→Bool} {xs:List M.bB} (hx:xs.length≤maxLen) (hp : ∀x∈xs,p x=some (q x)):bR xs p=some (xs.filter fun x => !q x):=by
 have hm:=le_max hx
 unfold bR
 rw [iP hx hp,Option.bind_some]
 unfold lZ
 cases hf:xs.findIdx? q with
 | none =>
  rw [if_pos (by simp)]
  rw [List.findIdx?_eq_none_iff] at hf
  rw [List.filter_eq_self.2 (fun x hx=>by simp [hf x hx])]
 | some k =>
  obtain ⟨hk,hqk,hlt⟩:=List.findIdx?_eq_some_iff_getElem.1 hf
  have hne:((k:Int) == -1)=false:=beq_eq_false_iff_ne.2 (by omega)
  simp only [hne,Bool.false_eq_true,if_false]
  rw [hJ (by omega)]
  refine sH (xs:=xs) (q:=q) (L:=aM p) (fun n i j r hj hi hrl hmem => ?_) (fun n i r hi => ?_) fuel k (k+1) xs (by unfold fuel;omega) hk (by omega) rfl ?_ rfl
  ·simp only [aM]
   rw [if_pos (gH hj),dQ hj,Option.bind_some,hp _ hmem,Option.bind_some,dQ hi,Option.bind_some]
   rw [hJ (n:=i) (by omega),hJ (n:=j) (by omega),Int.toNat_natCast]
   cases q r[j]<;>rfl
  ·simp only [aM]
   rw [if_neg (by rw [fF];simp),aAH hi,Option.bind_some,Int.toNat_natCast]
  ·rw [←List.take_append_getElem hk,List.filter_append]
   have:(xs.take k).filter (fun x => !q x)=xs.take k:=List.filter_eq_self.2 (fun x hx=>by
    obtain ⟨j,hj,rfl⟩:=List.mem_iff_getElem.1 hx
    rw [List.length_take] at hj
    rw [List.getElem_take]
    have:=hlt j (by omega)
    simpa using this)
   rw [this]
   simp [hqk]
def nI (x:M.Channel) (p:Int):M.Channel:=(⟨x.Mails.filter fun m=>m.To != p⟩:M.Channel)
theorem mB {x:M.Channel} {p:Int} (hz:x.Mails.length≤1048576):bA x p=some (nI x p):=by
 unfold bA nI
 rw [gV hz,Option.bind_some,lM (q:=fun m:M.bB=>m.To==p) (by unfold maxLen;omega) (fun m _=>by simp only [dD]),Option.bind_some]
 rfl
theorem zU {x:M.Channel} {p:Int} (hx:x.ok) (hz:x.Mails.length≤1048576):cM x p=(match x.Mails.findIdx? (nTo p) with
   | some k=>some ((⟨x.Mails.take k++x.Mails.drop (k+1)⟩:M.Channel),(x.Mails[k]?).getD ⟨0,0,0⟩,true)
   | none=>some (x,(⟨0,0,0⟩:M.bB),false)):=by
 have hi:bD x.Mails (fun z0=>bX z0 p)=some (lZ (nTo p) x.Mails):=iP (f:=nTo p) hx.Mails.1 (fun y _=>by simp only [bX];rfl)
 unfold cM
 rw [gV hz,Option.bind_some,hi,Option.bind_some]
 unfold lZ
 cases hf:x.Mails.findIdx? (nTo p) with
 | none =>
  simp only
  rw [if_pos (by simp)]
 | some k =>
  obtain ⟨hk,_⟩:=List.findIdx?_eq_some_iff_getElem.1 hf
  simp only
  rw [if_neg (by simp),hJ (by omega),zF ⟨by omega,by omega,by simp only [Int.toNat_natCast];omega⟩,Option.bind_some,dQ hk,Option.bind_some,List.getElem?_eq_getElem hk,Option.getD_some]
  simp only [Int.toNat_natCast]
theorem xI (a:M.aO) (f n:Int) (s:Int×List M.bB) (p:M.aO):(fH a f n s p).1-s.1=((fH a f n s p).2.length:Int)-(s.2.length:Int):=by
 unfold fH
 split
 ·simp only [List.length_append,List.length_cons,List.length_nil];omega
 ·omega
def aBQ (a:M.aO) (f n:Int) (l:List M.aO) (m:M.bB):Prop:=m.From=f∧m.N=n ∧ ∃p∈l,m.To=p.Id∧oC a p=true
theorem uC {a:M.aO} {f n:Int} : ∀(l:List M.aO) (s:Int×List M.bB),(l.foldl (fH a f n) s).1-s.1=((l.foldl (fH a f n) s).2.length:Int)-(s.2.length:Int)
 | [],s=>by simp
 | p::l,s=>by
  have h1:=xI a f n s p
  have h2:=uC (a:=a) (f:=f) (n:=n) l (fH a f n s p)
  simp only [List.foldl_cons]
  omega
theorem tV {a:M.aO} {f n:Int} {L:List M.aO} : ∀(l:List M.aO) (s:Int×List M.bB),(∀p∈l,p∈L) → ∃r,(l.foldl (fH a f n) s).2=s.2++r ∧ ∀m∈r,aBQ a f n L m
 | [],s,_=>⟨[],by simp,by simp⟩
 | p::l,s,h=>by
  obtain ⟨r,e,hr⟩:=tV (a:=a) (f:=f) (n:=n) (L:=L) l (fH a f n s p) fun q hq=>h q (by simp [hq])
  simp only [List.foldl_cons]
  by_cases hc:(oC a p&&decide (((s.2.filter fun m=>m.To==p.Id).length:Int)<5))=true
  ·refine ⟨(⟨p.Id,f,n⟩:M.bB)::r,?_,fun m hm => ?_⟩
   ·rw [e]
    unfold fH
    rw [if_pos hc]
    simp
   ·rcases List.mem_cons.1 hm with rfl | hm
    ·rw [Bool.and_eq_true] at hc
     exact ⟨rfl,rfl,p,h p (by simp),rfl,hc.1⟩
    ·exact hr m hm
  ·refine ⟨r,?_,hr⟩
   rw [e]
   unfold fH
   rw [if_neg hc]
theorem sU (x:M.Channel) (l:List M.aO) (f n:Int):(iT x l f n=(x,0)) ∨ ∃j:Nat,∃hj:j<l.length,lZ (fun p:M.aO=>p.Id==f) l=(j:Int)∧iT x l f n=(⟨(l.foldl (fH l[j] f n) (0,x.Mails)).2⟩,(l.foldl (fH l[j] f n) (0,x.Mails)).1):=by
 unfold iT
 by_cases h:lZ (fun p:M.aO=>p.Id==f) l<0
 ·left
  split
  ·rw [if_pos h]
  ·rfl
 ·right
  obtain ⟨j,e,hj⟩:=uK h
  refine ⟨j,hj,e,?_⟩
  rw [e,Int.toNat_natCast,List.getElem?_eq_getElem hj]
  simp only
  rw [if_neg (by omega)]
theorem zK {α:Type} {f:α→Bool} {l:List α} {k:Nat} (h:lZ f l=(k:Int)) : ∃hk:k<l.length,f l[k]=true:=by
 unfold lZ at h
 cases e:l.findIdx? f with
 | none=>rw [e] at h;simp only at h;omega
 | some i =>
  rw [e] at h
  simp only at h
  have:i=k:=by omega
  subst this
  obtain ⟨h1,h2,_⟩:=List.findIdx?_eq_some_iff_getElem.1 e
  exact ⟨h1,h2⟩
theorem jS {x4:M.Channel×(List M.aO)×Int×Int} {v:Int} {m:M.bB} {K:Bool→Int→Option Bool} {a:M.aO} (hl:x4.2.1.length≤1000) (hv:0≤v) (ha:idx x4.2.1 v=some a) :
  ∀(n k:Nat) (t:Bool),x4.2.1.length-k<n→k≤x4.2.1.length→aZ x4 v m K n t (k:Int)=K (t||(x4.2.1.drop k).any fun p=>(p.Id==m.To)&&oC a p) (x4.2.1.length:Int)
 | 0,_,_,h,_=>by omega
 | n+1,k,t,h,hk=>by
  simp only [aZ]
  rcases Nat.lt_or_ge k x4.2.1.length with hlt | hge
  ·rw [if_pos (gH hlt),List.drop_eq_getElem_cons hlt,List.any_cons,hJ (by omega)]
   cases t with
   | true =>
    rw [if_pos rfl,jS hl hv ha n (k+1) true (by omega) (by omega)]
    simp
   | false =>
    rw [if_neg (by simp),dQ hlt,Option.bind_some]
    cases hid:(x4.2.1[k].Id==m.To) with
    | true =>
     rw [if_pos rfl,if_pos (by simpa using hv),ha,Option.bind_some,jW,Option.bind_some,jS hl hv ha n (k+1) _ (by omega) (by omega)]
     simp
    | false =>
     rw [if_neg (by simp),jS hl hv ha n (k+1) false (by omega) (by omega)]
     simp
  ·have e:k=x4.2.1.length:=by omega
   subst e
   rw [if_neg (by rw [fF];simp),List.drop_length]
   simp
theorem zR {l:List M.bB} {k:Nat} {q:M.bB→Bool} (hk:k<l.length) (hq:q l[k]=true):((l.take k++l.drop (k+1)).filter q).length+1=(l.filter q).length:=by
 have e:l=l.take k++(l[k]::l.drop (k+1)):=by rw [←List.drop_eq_getElem_cons hk,List.take_append_drop]
 have h1:(l.filter q).length=((l.take k++(l[k]::l.drop (k+1))).filter q).length:=by rw [←e]
 rw [h1,List.filter_append,List.filter_append,List.filter_cons,if_pos hq]
 simp only [List.length_append,List.length_cons]
 omega
theorem vV {l:List M.bB} {k:Nat} {q:M.bB→Bool} (h:l.findIdx? q=some k) : ∃hk:k<l.length,(l.filter q)[0]? = some l[k]∧q l[k]=true:=by
 obtain ⟨hk,h1,h2⟩:=List.findIdx?_eq_some_iff_getElem.1 h
 refine ⟨hk,?_,h1⟩
 have e:l=l.take k++(l[k]::l.drop (k+1)):=by rw [←List.drop_eq_getElem_cons hk,List.take_append_drop]
 have h3:(l.take k).filter q=[]:=by
  rw [List.filter_eq_nil_iff]
  intro x hx
  obtain ⟨j,hj,rfl⟩:=List.mem_iff_getElem.1 hx
  have hj':j<k:=by rw [List.length_take] at hj;omega
  rw [List.getElem_take]
  exact h2 j hj'
 have h4:l.filter q=l[k]::(l.drop (k+1)).filter q:=by
  have:l.filter q=(l.take k++(l[k]::l.drop (k+1))).filter q:=by rw [←e]
  rw [this,List.filter_append,h3,List.nil_append,List.filter_cons,if_pos h1]
 rw [h4]
 rfl
theorem zN {y:M.Channel} (hy:y.ok) (hz:y.Mails.length≤1048576):((cM y 1).bind fun x101=>((aH y 1).bind fun x103=>(if (!(x101.2.2==(decide ((List.length x103:Int)>0))))=true then (some false) else (if (!x101.2.2)=true then ((bA y 1).bind fun x107=>((aH x107 1).bind fun x109=>(if ((List.length x109:Int)==0)=true then ((bA y 1).bind fun x112=>((aH x112 2).bind fun x114=>((aH y 2).bind fun x116=>(some ((List.length x114:Int)==(List.length x116:Int)))))) else (some false)))) else ((idx x103 0).bind fun x118=>(if ((x101.2.1.To==x118.To)&&((x101.2.1.From==x118.From)&&(x101.2.1.N==x118.N)))=true then ((aH x101.1 1).bind fun x124=>(if ((List.length x124:Int)==(i64.wrap ((List.length x103:Int)-1)))=true then (if ((List.length x101.1.Mails:Int)==(i64.wrap ((List.length y.Mails:Int)-1)))=true then ((bA y 1).bind fun x128=>((aH x128 1).bind fun x130=>(if ((List.length x130:Int)==0)=true then ((bA y 1).bind fun x133=>((aH x133 2).bind fun x135=>((aH y 2).bind fun x137=>(some ((List.length x135:Int)==(List.length x137:Int)))))) else (some false)))) else (some false)) else (some false))) else (some false)))))))=some true:=by
 have hd:=mB (x:=y) (p:=1) hz
 have d1:((nI y 1).Mails.filter fun m=>m.To==1)=[]:=by
  simp only [nI]
  rw [List.filter_filter,List.filter_eq_nil_iff]
  intro m _
  by_cases h:m.To=1<;>simp [h]
 have d2:((nI y 1).Mails.filter fun m=>m.To==2)=(y.Mails.filter fun m=>m.To==2):=by
  simp only [nI]
  rw [List.filter_filter]
  refine List.filter_congr fun m _ => ?_
  by_cases h:m.To=2<;>simp [h]
 have dl:(nI y 1).Mails.length≤4194304:=Nat.le_trans (List.length_filter_le _ _) (by omega)
 rw [zU hy hz,cJ (x:=y) (p:=1) (by omega),hd,cJ (x:=y) (p:=2) (by omega)]
 cases hf:y.Mails.findIdx? (nTo 1) with
 | none =>
  have h0:(y.Mails.filter fun m=>m.To==1)=[]:=by
   rw [List.filter_eq_nil_iff]
   have:=List.findIdx?_eq_none_iff.1 hf
   intro m hm
   have:=this m hm
   unfold nTo at this
   simpa using this
  simp only [Option.bind_some,h0]
  rw [cJ dl,Option.bind_some,d1,cJ dl,Option.bind_some,d2]
  simp
 | some k =>
  obtain ⟨hk,h1,h2⟩:=vV hf
  have h3:=zR hk h2
  have hfe:(y.Mails.filter (nTo 1))=(y.Mails.filter fun m=>m.To==1):=rfl
  rw [hfe] at h1 h3
  have hpos:0<(y.Mails.filter fun m=>m.To==1).length:=by omega
  have hle:=List.length_filter_le (fun m:M.bB=>m.To==1) y.Mails
  have e0:idx (y.Mails.filter fun m=>m.To==1) 0=some y.Mails[k]:=xS (i:=0) h1
  have hcut:(y.Mails.take k++y.Mails.drop (k+1)).length+1=y.Mails.length:=by simp only [List.length_append,List.length_take,List.length_drop];omega
  have h4:((y.Mails.take k++y.Mails.drop (k+1)).filter fun m=>m.To==1).length+1=(y.Mails.filter fun m=>m.To==1).length:=h3
  simp only [Option.bind_some,e0,List.getElem?_eq_getElem hk,Option.getD_some]
  rw [cJ (x:=(⟨y.Mails.take k++y.Mails.drop (k+1)⟩:M.Channel)) (by show (y.Mails.take k++y.Mails.drop (k+1)).length≤_;omega),Option.bind_some,cJ dl,Option.bind_some,d1,cJ dl,Option.bind_some,d2]
  rw [wrap_small (by omega) (by omega),wrap_small (by omega) (by omega)]
  have e1:decide (((y.Mails.filter fun m=>m.To==1).length:Int)>0)=true:=decide_eq_true (by omega)
  have e2:((((y.Mails.take k++y.Mails.drop (k+1)).filter fun m=>m.To==1).length:Int)==((y.Mails.filter fun m=>m.To==1).length:Int)-1)=true:=by rw [beq_iff_eq];omega
  have e3:(((y.Mails.take k++y.Mails.drop (k+1)).length:Int)==(y.Mails.length:Int)-1)=true:=by rw [beq_iff_eq];omega
  simp only [e1,e2,e3]
  simp
theorem aAq (p0:List Int) (hb : ∀x∈p0,0≤x∧x≤255):dP p0=some true:=by
 unfold dP jQ
 rw [Option.bind_some]
 by_cases hl:(p0.length:Int)>1048576
 ·rw [if_pos (by simpa using hl)]
 rw [if_neg (by simpa using hl)]
 obtain ⟨x,l,f,n,e,hx,zx,zl,hp,hf,hn⟩ : ∃x l f n,cT p0=some (x,l,f,n)∧M.Channel.ok x∧x.Mails.length≤20∧l.length≤5∧(∀p∈l,M.aO.ok p)∧inI f∧inI n:=by
  obtain ⟨h,e0,c0⟩:=aAS (b:=p0) (by omega) hb
  unfold cT
  rw [e0,Option.bind_some]
  obtain ⟨i1,h1,r1,e1,c1,q1⟩:=qF c0
  rw [e1,Option.bind_some]
  obtain ⟨i2,h2,r2,e2,c2,q2⟩:=vM c1
  rw [show dV (⟨p0,i1,h1⟩:M.aU)=some (i2,h2,r2) from e2,Option.bind_some]
  obtain ⟨i3,h3,r3,e3,c3,q3⟩:=bW (n:=6) c2
  rw [show aE (⟨p0,i2,h2⟩:M.aU) 6=some (i3,h3,r3) from e3,Option.bind_some]
  obtain ⟨i4,h4,r4,e4,c4,q4⟩:=bW (n:=9) c3
  rw [show aE (⟨p0,i3,h3⟩:M.aU) 9=some (i4,h4,r4) from e4,Option.bind_some]
  exact ⟨r1,r2,r3,r4,rfl,q1.1,q1.2,q2.1,q2.2,jN (by omega) (by omega),jN (by omega) (by omega)⟩
 obtain ⟨b1,b2,b3,b4⟩:=sZ hx ⟨Nat.le_trans zl (by unfold maxLen;omega),hp⟩ hf hn (by omega)
 rw [e,Option.bind_some]
 dsimp only
 rw [b2,Option.bind_some,b1,Option.bind_some]
 rw [if_neg (by simp)]
 have main : ∃r:List M.bB,(iT x l f n).1.Mails=x.Mails++r∧(iT x l f n).2=(r.length:Int)∧r.length≤5∧(r≠[] → ∃j:Nat,∃hj:j<l.length,lZ (fun p:M.aO=>p.Id==f) l=(j:Int) ∧ ∀m∈r,aBQ l[j] f n l m):=by
  rcases sU x l f n with h | ⟨j,hj,e1,h⟩
  ·exact ⟨[],by rw [h];simp,by rw [h];rfl,by simp,fun hh=>absurd rfl hh⟩
  ·obtain ⟨r,e2,hr⟩:=tV (a:=l[j]) (f:=f) (n:=n) (L:=l) l (0,x.Mails) fun _ hq=>hq
   have e3:=uC (a:=l[j]) (f:=f) (n:=n) l (0,x.Mails)
   have e4 : ∀(ps:List M.aO) (s:Int×List M.bB),(ps.foldl (fH l[j] f n) s).1≤s.1+ps.length:=by
    intro ps
    induction ps with
    | nil=>intro s;simp
    | cons p ps ih =>
     intro s
     have h1:=ih (fH l[j] f n s p)
     have h2:(fH l[j] f n s p).1≤s.1+1:=by unfold fH;split<;>(try simp only)<;>omega
     simp only [List.foldl_cons,List.length_cons]
     omega
   have e5:=e4 l (0,x.Mails)
   rw [e2] at e3
   simp only [List.length_append] at e3
   refine ⟨r,by rw [h];exact e2,by rw [h];(try simp only);omega,by (try simp only at e5);omega,fun _=>⟨j,hj,e1,hr⟩⟩
 obtain ⟨r,m1,m2,m3,m4⟩:=main
 have hlen:((iT x l f n).1.Mails.length:Int)=(x.Mails.length:Int)+(r.length:Int):=by rw [m1,List.length_append];omega
 rw [if_neg (by rw [hlen,m2,wrap_small (by omega) (by omega)];simp),if_neg (by simp)]
 generalize hY:iT x l f n=Y at b3 b4 m1 m2 hlen
 have first : ∀(n' k:Nat) (v:Int),l.length-k<n'→k≤l.length→(v<0→v = -1)→bF (x,l,f,n) Y Y n' v (k:Int)=bM (x,l,f,n) Y Y (if v<0 then (match (l.drop k).findIdx? (fun p:M.aO=>p.Id==f) with | some j=>((k+j:Nat):Int) | none => -1) else v) fuel (x.Mails.length:Int):=by
  intro n'
  induction n' with
  | zero=>intro k v h;omega
  | succ n' ih =>
   intro k v h hk hv
   simp only [bF]
   rcases Nat.lt_or_ge k l.length with hlt | hge
   ·rw [if_pos (gH hlt),dQ hlt,Option.bind_some,hJ (by omega),List.drop_eq_getElem_cons hlt,List.findIdx?_cons]
    cases hid:(l[k].Id==f) with
    | true =>
     rw [if_pos rfl,if_pos rfl]
     by_cases h0:v<0
     ·rw [if_pos (by simpa using h0),ih (k+1) (k:Int) (by omega) (by omega) (by omega),if_pos h0,if_neg (by omega)]
      rfl
     ·rw [if_neg (by simpa using h0),ih (k+1) v (by omega) (by omega) hv,if_neg h0,if_neg h0]
    | false =>
     simp only [Bool.false_eq_true,if_false]
     rw [ih (k+1) v (by omega) (by omega) hv]
     by_cases h0:v<0
     ·rw [if_pos h0,if_pos h0]
      cases (l.drop (k+1)).findIdx? (fun p:M.aO=>p.Id==f) with
      | none=>rfl
      | some j=>simp only [Option.map_some];congr 1;omega
     ·rw [if_neg h0,if_neg h0]
   ·have e:k=l.length:=by omega
    subst e
    rw [if_neg (by rw [fF];simp),List.drop_length]
    by_cases h0:v<0
    ·rw [if_pos h0,hv h0];rfl
    ·rw [if_neg h0]
 have h0:=first fuel 0 (-1) (jH (by omega)) (by omega) (fun _=>rfl)
 rw [show ((0:Nat):Int)=0 from rfl] at h0
 rw [h0,if_pos (by omega),List.drop_zero]
 have hfx:(match l.findIdx? (fun p:M.aO=>p.Id==f) with | some j=>((0+j:Nat):Int) | none => -1)=lZ (fun p:M.aO=>p.Id==f) l:=by
  unfold lZ
  cases l.findIdx? (fun p:M.aO=>p.Id==f)<;>simp
 rw [hfx]
 have second : ∀(n' k:Nat),r.length-k<n'→k≤r.length→bM (x,l,f,n) Y Y (lZ (fun p:M.aO=>p.Id==f) l) n' ((x.Mails.length+k:Nat):Int)=some true:=by
  intro n'
  induction n' with
  | zero=>intro k h;omega
  | succ n' ih =>
   intro k h hk
   simp only [bM]
   rcases Nat.lt_or_ge k r.length with hlt | hge
   ·have hk2:x.Mails.length+k<Y.1.Mails.length:=by rw [m1,List.length_append];omega
    have hmk:Y.1.Mails[x.Mails.length+k]=r[k]:=by
     have:Y.1.Mails[x.Mails.length+k]? = some r[k]:=by rw [m1,List.getElem?_append_right (by omega),Nat.add_sub_cancel_left,List.getElem?_eq_getElem hlt]
     rw [List.getElem?_eq_getElem hk2] at this
     exact Option.some.inj this
    obtain ⟨j,hj,ej,hs⟩:=m4 (by intro hh;rw [hh] at hlt;simp at hlt)
    obtain ⟨s1,s2,p,hp1,s3,s4⟩:=hs r[k] (List.getElem_mem hlt)
    rw [if_pos (gH hk2),dQ hk2,Option.bind_some,hmk,ej,show (0:Int)=((0:Nat):Int) from rfl]
    rw [jS (x4:=(x,l,f,n)) (a:=l[j]) (by show l.length≤1000;omega) (by omega) (dQ hj) fuel 0 false (jH (by show l.length-0≤_;omega)) (by omega)]
    rw [Option.bind_some]
    have ht:(false||(List.drop 0 (x,l,f,n).2.1).any fun p=>(p.Id==r[k].To)&&oC l[j] p)=true:=by
     rw [Bool.false_or,List.drop_zero,List.any_eq_true]
     exact ⟨p,hp1,by rw [s4,s3];simp⟩
    have hto:(r[k].To==f)=false:=by
     obtain ⟨_,hjf⟩:=zK ej
     have hjid:l[j].Id=f:=eq_of_beq hjf
     unfold oC at s4
     simp only [Bool.and_eq_true,bne_iff_ne,ne_eq] at s4
     rw [s3,beq_eq_false_iff_ne,←hjid]
     exact fun hh=>s4.2.2 hh.symm
    rw [ht]
    try dsimp only
    rw [s1,s2,hto]
    simp only [beq_self_eq_true,Bool.and_self,Bool.not_true,Bool.false_eq_true,if_false,bne_self_eq_false]
    have:=ih (k+1) (by omega) (by omega)
    rw [ej] at this
    rw [hJ (by omega)]
    exact this
   ·have e:k=r.length:=by omega
    subst e
    have hyl:x.Mails.length+r.length=Y.1.Mails.length:=by rw [m1,List.length_append]
    rw [hyl,if_neg (by rw [fF];simp)]
    exact zN b3 (by omega)
 have:=second fuel 0 (jH (by omega)) (by omega)
 rw [Nat.add_zero] at this
 exact this
end Go.Proofs.Ytblghjofnielnaa.gen
