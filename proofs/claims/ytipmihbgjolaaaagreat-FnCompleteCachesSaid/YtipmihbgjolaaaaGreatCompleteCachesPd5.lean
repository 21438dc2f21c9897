/-
  Helper text. No conditions.
-/
import Derived.Test.YtipmihbgjolaaaaGreatCompleteCachesPd4
set_option linter.unusedVariables false
set_option linter.unusedSimpArgs false
namespace Go.Proofs.YtipmihbgjolaaaaGreat.gen
open Go Go.Sh
open Go.IntKind (i64)
def JH (c:M.aGo) (a p:ByteArray) (x:M.aGm):M.aGo:=(⟨c.aGg,if kG (EY a p) c.aGs>=0 then c.aGs.set (kG (EY a p) c.aGs).toNat (⟨a,p,x⟩:M.aGw) else c.aGs++[(⟨a,p,x⟩:M.aGw)]⟩:M.aGo)
def MD (s:M.aC) (v:Int) (a p:ByteArray) (x:M.aGm):List M.aGo:=match s.aGi[(kG (λc:M.aGo=>c.aGg==v) s.aGi).toNat]? with
 | some c=>s.aGi.set (kG (λc:M.aGo=>c.aGg==v) s.aGi).toNat (JH c a p x)
 | none=>s.aGi
def Iz (s:M.aC) (v:Int) (a p:ByteArray) (x:M.aGm):M.aC×Bool:=if kG (λc:M.aGo=>c.aGg==v) s.aGi<0 then (s,false) else (if (fU s&&fU (⟨MD s v a p x⟩:M.aC))=true then ((⟨MD s v a p x⟩:M.aC),true) else (s,false))
theorem S6 {c:M.aGo} {a p:ByteArray} {x:M.aGm} (hc:c.ok) (hl:c.aGs.length<=1073741824) (ha:a.size<=maxLen) (hp:p.size<=maxLen) (hx:x.ok):M.aGo.ok (JH c a p x):=by unfold JH;refine ⟨hc.aGg,?_⟩;dsimp only;split;(refine ⟨by rw [qN];exact hc.aGs.1,λy hy => ?_⟩;rcases List.mem_or_eq_of_mem_set hy with hy | rfl;(exact hc.aGs.2 y hy);·exact ⟨ha,hp,hx⟩);·refine ⟨by simp only [qE,qJ,qK];unfold maxLen;omega,λy hy => ?_⟩;rcases List.mem_append.1 hy with hy | hy;(exact hc.aGs.2 y hy);·rw [List.mem_singleton.1 hy];exact ⟨ha,hp,hx⟩
theorem On {s:M.aC} {v:Int} {a p:ByteArray} {x:M.aGm} (hs:s.ok) (hz:M.aC.sz s<=1073741824) (ha:a.size<=maxLen) (hp:p.size<=maxLen) (hx:x.ok):M.aC.ok (⟨MD s v a p x⟩:M.aC):=by unfold MD;split;(rename_i c hc;refine ⟨⟨by show List.length (List.set _ _ _)<=_;rw [qN];exact hs.aGi.1,λy hy => ?_⟩⟩;have hcm:=List.mem_of_getElem? hc;have z:=cO (f:=M.aGo.sz) hcm;rcases List.mem_or_eq_of_mem_set hy with hy | rfl;(exact hs.aGi.2 y hy);·exact S6 (hs.aGi.2 c hcm) (by simp only [M.aC.sz] at hz;simp only [M.aGo.sz] at z;omega) ha hp hx);·exact hs
theorem Uz {s:M.aC} {v:Int} {a p:ByteArray} {x:M.aGm} {j:Nat} (ej:kG (λc:M.aGo=>c.aGg==v) s.aGi=(j:Int)) (hj:j<s.aGi.length):MD s v a p x=s.aGi.set j (JH s.aGi[j] a p x):=by unfold MD;rw [ej,qH,qF hj]
theorem TN {c:M.aGo} {a p:ByteArray} {x:M.aGm} {i:Nat} (ei:kG (EY a p) c.aGs=(i:Int)):JH c a p x=(⟨c.aGg,c.aGs.set i (⟨a,p,x⟩:M.aGw)⟩:M.aGo):=by unfold JH;rw [ei,if_pos qb,qH]
theorem SS {c:M.aGo} {a p:ByteArray} {x:M.aGm} (h : ¬kG (EY a p) c.aGs>=0):JH c a p x=(⟨c.aGg,c.aGs++[(⟨a,p,x⟩:M.aGw)]⟩:M.aGo):=by unfold JH;rw [if_neg h]
theorem CM {s:M.aC} {v:Int} {a p:ByteArray} {x:M.aGm} (hs:s.ok) (hz:M.aC.sz s<=1073741824) (ha:a.size<=maxLen) (hp:p.size<=maxLen) (hx:x.ok) (zx:M.aGm.sz x<=1073741824):jP s v a p x=some (Iz s v a p x):=by
 have hout:=On (v:=v) (a:=a) (p:=p) (x:=x) hs hz ha hp hx
 unfold jP Iz
 rw [sY s hz,qA,yS hs,qA]
 by_cases h:kG (λc:M.aGo=>c.aGg==v) s.aGi<0
 ·rw [if_pos (by simpa using h),if_pos h]
 ·rw [if_neg (by simpa using h),if_neg h]
  obtain ⟨j,ej,hj⟩:=fI h
  rw [Uz ej hj] at hout ⊢
  have hc:=hs.aGi.2 _ (qG hj)
  have z1:=cO (f:=M.aGo.sz) (qG hj)
  have hl:s.aGi[j].aGs.length<=1073741824:=by simp only [M.aC.sz] at hz;simp only [M.aGo.sz] at z1;omega
  rw [GK x zx,qA,ej,aK hj,qA,DU hc,qA,qH]
  by_cases h2:kG (EY a p) s.aGi[j].aGs>=0
  ·obtain ⟨i,ei,hi⟩:=fI (f:=EY a p) (xs:=s.aGi[j].aGs) qb;rw [TN ei] at hout ⊢;rw [if_pos (by simpa using h2),ei,aK hi,qA,qH,pB hs,qA,pB hout,qA];generalize fU (⟨s.aGi.set j _⟩:M.aC)=b;cases fU s<;>cases b<;>rfl
  ·rw [SS h2] at hout ⊢;rw [if_neg (by simpa using h2),dN qs,qA,pB hs,qA,pB hout,qA];generalize fU (⟨s.aGi.set j _⟩:M.aC)=b;cases fU s<;>cases b<;>rfl
theorem Kw {s:M.aC} {v:Int} {a p:ByteArray} {x:M.aGm} (h:(Iz s v a p x).2=true):fU (Iz s v a p x).1=true:=by unfold Iz at h ⊢;split at h;(cases h);·rename_i h0;rw [if_neg h0];split at h;(rename_i h1;rw [if_pos h1];exact (Bool.and_eq_true_iff.1 h1).2);·cases h
theorem Nv {s:M.aC} {v:Int} {a p:ByteArray} {x:M.aGm} (hs:s.ok) (hz:M.aC.sz s<=1073741824) (ha:a.size<=maxLen) (hp:p.size<=maxLen) (hx:x.ok):M.aC.ok (Iz s v a p x).1:=by unfold Iz;split;(exact hs);·split;(exact On hs hz ha hp hx);·exact hs
theorem Vr {x a b:Int} (h:inR x a b=true):a<=x/\x<=b:=by unfold inR at h;simpa using h
theorem Ap {s:M.aC} (h:fU s=true):M.aC.sz s<=65536:=by
 unfold fU at h
 rw [qM] at h
 have h2:s.aGi.length<=4:=by simpa using h.2
 have hc : ∀c∈s.aGi,M.aGo.sz c<=4096:=by
  intro c hc
  obtain ⟨k,hk,rfl⟩:=List.getElem_of_mem hc
  have h3:=List.all_eq_true.1 h.1 k (List.mem_range.2 hk)
  unfold Ga at h3
  rw [qF hk,Option.any_some,qM,qM] at h3
  have h4:=h3.1.2
  unfold Ex at h4
  rw [qM] at h4
  have h5:s.aGi[k].aGs.length<=12:=by simpa using h4.2
  have he : ∀x∈s.aGi[k].aGs,M.aGw.sz x<=100:=by
   intro x hx
   obtain ⟨i,hi,rfl⟩:=List.getElem_of_mem hx
   have h6:=List.all_eq_true.1 h4.1 i (List.mem_range.2 hi)
   unfold Cd at h6
   rw [qF hi,Option.any_some,qM,qM,qM] at h6
   obtain ⟨q1,q2,q3,_⟩:=h6
   unfold mT at q1 q2
   rw [qM] at q1 q2
   have r1:=Vr q1.2
   have r2:=Vr q2.2
   unfold Ff at q3
   rw [qM,qM,qM] at q3
   have r3:s.aGi[k].aGs[i].aGm.aHT.length<=60:=by have:=q3.2.2.2;simp at this;omega
   simp only [M.aGw.sz,M.aGm.sz]
   omega
  have:=dI he
  simp only [M.aGo.sz]
  omega
 have:=dI hc
 simp only [M.aC.sz]
 omega
def Kx (r:M.aGf):Int:=max r.aHF (max r.aHC r.aG6)
theorem Mk (a b:Int):zM a b=some (max a b):=by unfold zM;split<;>(rename_i h;simp at h;congr 1;omega)
theorem Gr (r:M.aGf):sH r=some (Kx r):=by unfold sH Kx;rw [Mk,qA,Mk,qA]
def Cz (r:M.aGf) (v:Int):M.aGf×Bool:=if (RA r&&(decide (1<=v)&&(r.aG6==0&&RA (⟨r.aGl,v,r.aHC,r.aHF⟩:M.aGf))))=true then ((⟨r.aGl,v,r.aHC,r.aHF⟩:M.aGf),true) else (r,false)
theorem Hd {r:M.aGf} {v:Int} (hr:r.ok) (hv:inI v):uA r v=some (Cz r v):=by unfold uA Cz;have h2:M.aGf.ok (⟨r.aGl,v,r.aHC,r.aHF⟩:M.aGf):=⟨hr.aGl,hv,hr.aHC,hr.aHF⟩;rw [mD hr,mD h2];simp only [qA];rw [show decide (1<=v) = !decide (v<1) from by rw [<-decide_not];congr 1;rw [Int.not_lt],show (r.aG6==0) = !(r.aG6 != 0) from by simp [bne]];generalize RA (⟨r.aGl,v,r.aHC,r.aHF⟩:M.aGf)=a;cases RA r<;>cases a<;>cases decide (v<1)<;>cases (r.aG6 != 0)<;>rfl
theorem SO {r:M.aGf} {v:Int} (hr:r.ok) (hv:inI v):M.aGf.ok (Cz r v).1:=by unfold Cz;split;(exact ⟨hr.aGl,hv,hr.aHC,hr.aHF⟩);·exact hr
theorem RO (r:M.aGf) (v:Int):M.aGf.sz (Cz r v).1=M.aGf.sz r:=by unfold Cz;split<;>rfl
def Vy (r:M.aGf) (ok:Bool):M.aGf×Int:=if (RA r && !(r.aG6==0))=true then (if ok=true then ((⟨r.aGl,0,r.aG6,r.aHF⟩:M.aGf),r.aHC) else ((⟨r.aGl,0,r.aHC,r.aHF⟩:M.aGf),r.aG6)) else (r,0)
theorem IX {r:M.aGf} {ok:Bool} (hr:r.ok):wZ r ok=some (Vy r ok):=by unfold wZ Vy;rw [mD hr,qA];cases RA r<;>cases ok<;>cases (r.aG6==0)<;>simp
theorem YV {r:M.aGf} {ok:Bool} (hr:r.ok):M.aGf.ok (Vy r ok).1:=by
 have z:inI 0:=by unfold inI;simp
 unfold Vy
 split
 ·split;(exact ⟨hr.aGl,z,hr.aG6,hr.aHF⟩);·exact ⟨hr.aGl,z,hr.aHC,hr.aHF⟩
 ·exact hr
theorem YU (r:M.aGf) (ok:Bool):M.aGf.sz (Vy r ok).1=M.aGf.sz r:=by unfold Vy;split;(split<;>rfl);·rfl
theorem Qv {l:List M.bC} : ∀ {s:M.aD},s.ok->l.length<=maxLen->(∀w∈l,M.bC.ok w)->M.aD.sz s<=536870912->(DH s l).ok/\M.aD.sz (DH s l)<=536870912:=by
 induction l with
 | nil=>intro s hs _ _ hz;exact ⟨hs,hz⟩
 | cons w l ih =>
  intro s hs hl ho hz
  have h:=Ko hs (ho w qd) hz
  exact ih (s:=(Mz s w).1) h.1 (by simp only [qJ] at hl;omega) (λy hy=>ho y (by simp [hy])) h.2
def HA (o:M.aM) (k:M.Key) (f:ByteArray) (n:Int):M.aM:=(⟨o.aGp,i64.wrap (o.aHH+1),o.aG0++[(⟨o.aGp,o.aHH,k,f,n⟩:M.bC)]⟩:M.aM)
def PD (o:M.aM) (k:M.Key) (f:ByteArray) (n:Int):M.aM×Bool:=if tN o=true then (if tN (HA o k f n)=true then (HA o k f n,true) else (o,false)) else (o,false)
theorem WR {o:M.aM} {k:M.Key} {f:ByteArray} {n:Int} (ho:o.ok) (hl:o.aG0.length<=1073741824) (hk:k.ok) (hf:f.size<=maxLen) (hn:inI n):(HA o k f n).ok:=
 ⟨ho.aGp,bH _,⟨by show (o.aG0++_).length<=maxLen;unfold maxLen;simp;omega,λy hy=>by have hy':y∈o.aG0++[(⟨o.aGp,o.aHH,k,f,n⟩:M.bC)]:=hy;simp only [qP,List.mem_cons,qO,or_false] at hy';rcases hy' with hy | rfl;(exact ho.aG0.2 y hy);·exact ⟨ho.aGp,ho.aHH,hk,hf,hn⟩⟩⟩
theorem Di {o:M.aM} {k:M.Key} {f:ByteArray} {n:Int} (ho:o.ok) (hz:M.aM.sz o<=536870912) (hk:k.ok) (hf:f.size<=maxLen) (hn:inI n):iL o k f n=some (PD o k f n):=by
 have hl:o.aG0.length<=536870912:=by simp only [M.aM.sz] at hz;omega
 have e:=pS (WR (k:=k) (f:=f) (n:=n) ho qb hk hf hn)
 unfold HA at e
 unfold iL PD
 rw [Cf o qb,qA,pS ho,qA,dN qs,qA,e,qA]
 unfold HA
 cases tN o
 ·simp
 ·cases tN (⟨o.aGp,i64.wrap (o.aHH+1),o.aG0++[(⟨o.aGp,o.aHH,k,f,n⟩:M.bC)]⟩:M.aM)<;>simp
def ZA (r:M.aH) (k:M.Key) (f:ByteArray) (n:Int):Bool:=Ci r&&((PD r.aG5.aM k f n).2&&(Mz (DH r.aG4 r.aG5.aM.aG0) (⟨0,0,k,f,n⟩:M.bC)).2)
def aDk (r:M.aH) (k:M.Key) (f:ByteArray) (n:Int):M.aH:=(⟨r.aG4,r.aHS,(⟨(PD r.aG5.aM k f n).1,r.aG5.aHL,r.aG5.aHB⟩:M.aG5)⟩:M.aH)
def nWL (r:M.aH) (k:M.Key) (f:ByteArray) (n:Int):M.aH×Bool:=if ZA r k f n=true then (aDk r k f n,true) else (r,false)
theorem aBH {α:Type} (a b c:Bool) (x y:α):(if (!a)=true then y else (if (!b)=true then y else (if (!c)=true then y else x)))=if (a&&(b&&c))=true then x else y:=by cases a<;>cases b<;>cases c<;>rfl
theorem Ji {r:M.aH} {k:M.Key} {f:ByteArray} {n:Int} (hr:r.ok) (hz:M.aH.sz r<=536870912) (hk:k.ok) (hf:f.size<=maxLen) (hn:inI n):mA r k f n=some (nWL r k f n):=by have hz':=hz;simp only [M.aH.sz,M.aG5.sz] at hz';obtain ⟨q2,q3⟩:=Qv hr.aG4 hr.aG5.aM.aG0.1 hr.aG5.aM.aG0.2 qb;have q1:=Fx hr.aG4 hr.aG5.aM.aG0.1 hr.aG5.aM.aG0.2 qb;unfold mA AE;rw [DT r qb,Di hr.aG5.aM qb hk hf hn,q1,Be hr];simp only [qA];rw [Bi (w:=(⟨0,0,k,f,n⟩:M.bC)) q2 ⟨by unfold inI;simp,by unfold inI;simp,hk,hf,hn⟩ qb];simp only [qA,aBH];unfold nWL ZA aDk;cases (Ci r&&((PD r.aG5.aM k f n).2&&(Mz (DH r.aG4 r.aG5.aM.aG0) (⟨0,0,k,f,n⟩:M.bC)).2))<;>simp
def pV:List ByteArray:=[(⟨#[98,97,110,107]⟩:ByteArray),(⟨#[110,101,119,115]⟩:ByteArray),(⟨#[115,104,111,112]⟩:ByteArray)]
def B8 (a:ByteArray):Int:=kG (λx:ByteArray=>x.toList==a.toList) pV
theorem Mr:pV.length<=maxLen:=by unfold pV maxLen;simp
theorem D2 {a:ByteArray}:tD a=some (B8 a):=by unfold tD mC;rw [<-pV.eq_1];rw [findAll (L:=cJ pV a) (f:=λx:ByteArray=>x.toList==a.toList) (A:=λi=>some (i:Int)) (E:=some (-1)) Mr (λm k hk => ?_) (λm => ?_),uB];(rfl);(have hk3:k<3:=hk;simp only [cJ];rw [if_pos (aY hk),aK hk,qA,bD qb,Bool.beq_comm]);·simp only [cJ];rw [if_neg qk]
def Lp (l:List ByteArray) (k:Nat):Bool:=(l[k]?).any mT&&(decide (k=0)||(l[k-1]?).any λy=>(l[k]?).any λx=>Op.bytesLess y.toList x.toList)
def DP (s:M.aGl):Bool:=(List.range s.aG8.length).all (Lp s.aG8)&&(mT s.Name&&(inR s.aGg 1 1000000000000&&inR (s.aG8.length:Int) 1 6))
theorem Ax {s:M.aGl} (hs:s.ok):sQ s=some (DP s):=by
 have hm:=le_max hs.aG8.1
 unfold sQ DP
 rw [mU (L:=kX s) (g:=Lp s.aG8) (F:=some false) (E:=some (mT s.Name&&(inR s.aGg 1 1000000000000&&inR (s.aG8.length:Int) 1 6))) hs.aG8.1 (λn k hk => ?_) (λn => ?_),aZ]
 ·have hf:=hs.aG8.2 _ (qG hk)
  simp only [kX]
  rw [if_pos (aY hk),aK hk,qA,bD qb,dF hf,qA]
  unfold Lp
  rw [qF hk]
  generalize kX s n ((k+1:Nat):Int)=Z
  by_cases h0:k=0
  ·subst h0;simp only [Option.any_some];cases mT s.aG8[0]<;>simp
  ·have e:i64.wrap ((k:Int)-1)=((k-1:Nat):Int):=by rw [bN qb qb];omega
   have hk1:k-1<s.aG8.length:=by omega
   rw [if_pos (c:=(decide ((k:Int)>0))=true) qc,e,aK hk1,qA,qF hk1]
   simp only [Option.any_some,h0,decide_false,Bool.false_or]
   cases mT s.aG8[k]<;>cases Op.bytesLess s.aG8[k-1].toList s.aG8[k].toList<;>simp
 ·simp only [kX];rw [if_neg qk,dF hs.Name,qA,cF,qA,cF,qA,aZ,aZ]
theorem By {s:M.aGl} (hs:s.ok):sP s=some (DP s):=by
 have hm:=le_max hs.aG8.1
 unfold sP DP
 rw [mU (L:=kU s) (g:=Lp s.aG8) (F:=some false) (E:=some (mT s.Name&&(inR s.aGg 1 1000000000000&&inR (s.aG8.length:Int) 1 6))) hs.aG8.1 (λn k hk => ?_) (λn => ?_),aZ]
 ·have hf:=hs.aG8.2 _ (qG hk)
  simp only [kU]
  rw [if_pos (aY hk),aK hk,qA,bD qb,eC hf,qA]
  unfold Lp
  rw [qF hk]
  generalize kU s n ((k+1:Nat):Int)=Z
  by_cases h0:k=0
  ·subst h0;simp only [Option.any_some];cases mT s.aG8[0]<;>simp
  ·have e:i64.wrap ((k:Int)-1)=((k-1:Nat):Int):=by rw [bN qb qb];omega
   have hk1:k-1<s.aG8.length:=by omega
   rw [if_pos (c:=(decide ((k:Int)>0))=true) qc,e,aK hk1,qA,qF hk1,Rh]
   simp only [Option.any_some,h0,decide_false,Bool.false_or]
   cases mT s.aG8[k]<;>cases Op.bytesLess s.aG8[k-1].toList s.aG8[k].toList<;>simp
 ·simp only [kU];rw [if_neg qk,eC hs.Name,qA,cH,qA,cH,qA,aZ,aZ]
def D6 (l:List M.aP) (k:Nat):Bool:=(l[k]?).any (λx=>inR x.aGp 1 1000000&&inR x.Seq 0 1000000)&&(decide (k=0)||(l[k-1]?).any λy=>(l[k]?).any λx=>decide (y.aGp<x.aGp))
def Fg (l:List M.bC) (k:Nat):Bool:=(l[k]?).any DO
def FF (s:M.aGr):Bool:=(List.range s.aP.length).all (D6 s.aP)&&((List.range s.aG9.length).all (Fg s.aG9)&&(iI s.aD&&((s.aD.Name.toList==(⟨#[110,111,116,101,115]⟩:ByteArray).toList)&&decide ((s.aP.length:Int)<=60))))
theorem BE {s:M.aGr} (hs:s.ok):pR s=some (FF s):=by
 have hm:=le_max hs.aP.1
 have hm2:=le_max hs.aG9.1
 unfold pR FF
 rw [mU (L:=hU s) (g:=D6 s.aP) (F:=some false) (E:=jS s fuel 0) hs.aP.1 (λn k hk => ?_) (λn => ?_),
  mU (L:=jS s) (g:=Fg s.aG9) (F:=some false) (E:=some (iI s.aD&&((s.aD.Name.toList==(⟨#[110,111,116,101,115]⟩:ByteArray).toList)&&decide ((s.aP.length:Int)<=60)))) hs.aG9.1 (λn k hk => ?_) (λn => ?_),aZ,aZ]
 ·have hf:=hs.aG9.2 _ (qG hk);simp only [jS];rw [if_pos (aY hk),aK hk,qA,bD qb,AO hf,qA,gF];unfold Fg;rw [qF hk,Option.any_some]
 ·simp only [jS];rw [if_neg qk,zN hs.aD,qA,aZ,aZ]
 ·simp only [hU]
  rw [if_pos (aY hk),aK hk,qA,bD qb,cF,qA,cF,qA]
  unfold D6
  rw [qF hk]
  generalize hU s n ((k+1:Nat):Int)=Z
  by_cases h0:k=0
  ·subst h0;simp only [Option.any_some];cases inR s.aP[0].aGp 1 1000000<;>cases inR s.aP[0].Seq 0 1000000<;>simp
  ·have e:i64.wrap ((k:Int)-1)=((k-1:Nat):Int):=by rw [bN qb qb];omega
   have hk1:k-1<s.aP.length:=by omega
   have ed:decide (s.aP[k-1].aGp>=s.aP[k].aGp) = !decide (s.aP[k-1].aGp<s.aP[k].aGp):=by rw [Bool.eq_iff_iff];simp
   rw [if_pos (c:=(decide ((k:Int)>0))=true) qc,e,aK hk1,qA,qF hk1,ed]
   simp only [Option.any_some,h0,decide_false,Bool.false_or]
   cases inR s.aP[k].aGp 1 1000000<;>cases inR s.aP[k].Seq 0 1000000<;>cases decide (s.aP[k-1].aGp<s.aP[k].aGp)<;>simp
 ·simp only [hU];rw [if_neg qk]
theorem KD {s:M.aGr} (hs:s.ok):Ai s=some (FF s):=by
 have hm:=le_max hs.aP.1
 have hm2:=le_max hs.aG9.1
 unfold Ai FF
 rw [mU (L:=hY s) (g:=D6 s.aP) (F:=some false) (E:=jU s fuel 0) hs.aP.1 (λn k hk => ?_) (λn => ?_),
  mU (L:=jU s) (g:=Fg s.aG9) (F:=some false) (E:=some (iI s.aD&&((s.aD.Name.toList==(⟨#[110,111,116,101,115]⟩:ByteArray).toList)&&decide ((s.aP.length:Int)<=60)))) hs.aG9.1 (λn k hk => ?_) (λn => ?_),aZ,aZ]
 ·have hf:=hs.aG9.2 _ (qG hk);simp only [jU];rw [if_pos (aY hk),aK hk,qA,bD qb,CK hf,qA,gF];unfold Fg;rw [qF hk,Option.any_some]
 ·simp only [jU];rw [if_neg qk,DK hs.aD,qA,aZ,aZ]
 ·simp only [hY]
  rw [if_pos (aY hk),aK hk,qA,bD qb,cH,qA,cH,qA]
  unfold D6
  rw [qF hk]
  generalize hY s n ((k+1:Nat):Int)=Z
  by_cases h0:k=0
  ·subst h0;simp only [Option.any_some];cases inR s.aP[0].aGp 1 1000000<;>cases inR s.aP[0].Seq 0 1000000<;>simp
  ·have e:i64.wrap ((k:Int)-1)=((k-1:Nat):Int):=by rw [bN qb qb];omega
   have hk1:k-1<s.aP.length:=by omega
   have ed:decide (s.aP[k].aGp<=s.aP[k-1].aGp) = !decide (s.aP[k-1].aGp<s.aP[k].aGp):=by rw [Bool.eq_iff_iff];simp
   rw [if_pos (c:=(decide ((k:Int)>0))=true) qc,e,aK hk1,qA,qF hk1,ed]
   simp only [Option.any_some,h0,decide_false,Bool.false_or]
   cases inR s.aP[k].aGp 1 1000000<;>cases inR s.aP[k].Seq 0 1000000<;>cases decide (s.aP[k-1].aGp<s.aP[k].aGp)<;>simp
 ·simp only [hY];rw [if_neg qk]
def FK (p:M.bJ) (k:Nat):Bool:=(p.aW[k]?).any λx=>mT x.aHQ&&(x.aGg==p.aGg)
def Ef (p:M.bJ):Bool:=(List.range p.aW.length).all (FK p)&&(inR p.Id 1 1000000000000&&(mT p.aGl&&(mT p.Top&&(inR p.aGg 1 1000000000000&&decide ((p.aW.length:Int)<=8)))))
theorem CO {p:M.bJ} (hp:p.ok):sR p=some (Ef p):=by have hm:=le_max hp.aW.1;unfold sR Ef;rw [mU (L:=rQ p) (g:=FK p) (F:=some false) (E:=some (inR p.Id 1 1000000000000&&(mT p.aGl&&(mT p.Top&&(inR p.aGg 1 1000000000000&&decide ((p.aW.length:Int)<=8)))))) hp.aW.1 (λn k hk => ?_) (λn => ?_),aZ];(have hf:=hp.aW.2 _ (qG hk);simp only [rQ];rw [if_pos (aY hk),aK hk,qA,bD qb,dF hf.aHQ,qA];unfold FK;rw [qF hk,Option.any_some];simp only [uM,gF,WA]);·simp only [rQ];rw [if_neg qk];simp only [dF hp.aGl,dF hp.Top,cF,qA,aZ]
theorem Nn {p:M.bJ} (hp:p.ok):BV p=some (Ef p):=by have hm:=le_max hp.aW.1;unfold BV Ef;rw [mU (L:=sA p) (g:=FK p) (F:=some false) (E:=some (inR p.Id 1 1000000000000&&(mT p.aGl&&(mT p.Top&&(inR p.aGg 1 1000000000000&&decide ((p.aW.length:Int)<=8)))))) hp.aW.1 (λn k hk => ?_) (λn => ?_),aZ];(have hf:=hp.aW.2 _ (qG hk);simp only [sA];rw [if_pos (aY hk),aK hk,qA,bD qb,eC hf.aHQ,qA];unfold FK;rw [qF hk,Option.any_some];simp only [uM,gF,WA]);·simp only [sA];rw [if_neg qk];simp only [eC hp.aGl,eC hp.Top,cH,qA,aZ]
theorem I5 {s:ByteArray} (hs:s.size<=maxLen):wV s=some (OY s 30 true):=by
 have hm:=le_max hs
 unfold wV OY
 rw [Ia (L:=dQ s) (g:=JD true) (F:=some false) (E:=some (inR (s.size:Int) 1 30)) hs (λn k hk => ?_) (λn => ?_),aZ]
 ·simp only [dQ]
  rw [if_pos (aY hk),Ht hk,qA,bD qb]
  generalize s[k]=b
  unfold JD
  generalize dQ s n ((k+1:Nat):Int)=Z
  simp only [Bool.or_eq_true,qM,qL,Bool.not_eq_true',decide_eq_false_iff_not,Bool.true_and,bne_iff_ne,ne_eq]
  repeat' split
  all_goals first | rfl | (exfalso;omega)
 ·simp only [dQ];rw [if_neg qk,cF,qA]
theorem Jo {s:ByteArray} (hs:s.size<=maxLen):wY s=some (OY s 30 true):=by unfold wY;rw [Hw hs,qA]
def Pu (x y:M.nW):Bool:=x.aHc&&((y.Name.toList==x.Name.toList)&&(!y.aHc||(!x.aHJ || !y.aHJ)))
def H6 (l:List M.nW) (k:Nat) (x:M.nW):Bool:=(List.range k).all λj => !((l[j]?).any (Pu x))
def Lx (l:List M.nW) (k:Nat):Bool:=(l[k]?).any λx=>OY x.Name 30 true&&(inR x.bJ 1 1000000000000&&H6 l k x)
def Im (t:M.aR):Bool:=(List.range t.aGy.length).all (Lx t.aGy)&&decide ((t.aGy.length:Int)<=12)
theorem Sy {t:M.aR} {x:M.nW} {k:Nat} {K:Int->Option Bool} (hm:t.aGy.length<=maxLen) (hk:k<=t.aGy.length):cU t (k:Int) x K fuel 0=if H6 t.aGy k x=true then K (k:Int) else some false:=by
 have hm':=le_max hm
 refine mU (L:=cU t (k:Int) x K) (g:=λj => !((t.aGy[j]?).any (Pu x))) (F:=some false) (E:=K (k:Int)) (Nat.le_trans hk hm) (λn j hj => ?_) (λn => ?_)
 ·have hj':j<t.aGy.length:=by omega
  simp only [cU]
  rw [if_pos (aY hj),aK hj',qA,bD qb,qF hj',Option.any_some]
  unfold Pu
  generalize cU t (k:Int) x K n ((j+1:Nat):Int)=Z
  cases x.aHc<;>cases (t.aGy[j].Name.toList==x.Name.toList)<;>cases t.aGy[j].aHc<;>cases x.aHJ<;>cases t.aGy[j].aHJ<;>simp
 ·simp only [cU];rw [if_neg qk]
theorem Sj {t:M.aR} {x:M.nW} {k:Nat} {Z0:Option Bool} (hm:t.aGy.length<=maxLen) (hk:k<=t.aGy.length):cV t (k:Int) x (λ_=>Z0) fuel 0=if H6 t.aGy k x=true then Z0 else some false:=by
 have hm':=le_max hm
 have hl:(t.aGy.take k).length=k:=by rw [qT];omega
 have:=mU (N:=k) (L:=cV t (k:Int) x (λ_=>Z0)) (g:=λj => !((t.aGy[j]?).any (Pu x))) (F:=some false) (E:=Z0) (Nat.le_trans hk hm) (λn j hj => ?_) (λn => ?_)
 ·exact this
 ·have hj':j<t.aGy.length:=by omega
  simp only [cV,qH,hl]
  rw [if_pos (aY hj),aK (by rw [hl];exact hj),qA,bD qb,qF hj',Option.any_some,List.getElem_take]
  unfold Pu
  generalize cV t (k:Int) x (λ_=>Z0) n ((j+1:Nat):Int)=Z
  cases x.aHc<;>cases (t.aGy[j].Name.toList==x.Name.toList)<;>cases t.aGy[j].aHc<;>cases x.aHJ<;>cases t.aGy[j].aHJ<;>simp
 ·simp only [cV,qH,hl];rw [if_neg qk]
theorem Ie {t:M.aR} (ht:t.ok):wI t=some (Im t):=by have hm:=le_max ht.aGy.1;unfold wI Im;rw [mU (L:=fR t) (g:=Lx t.aGy) (F:=some false) (E:=some (decide ((t.aGy.length:Int)<=12))) ht.aGy.1 (λn k hk => ?_) (λn => ?_),aZ];(have hf:=ht.aGy.2 _ (qG hk);simp only [fR];rw [if_pos (aY hk),aK hk,qA,bD qb,I5 hf.Name,qA,cF,qA,Sy ht.aGy.1 qb];unfold Lx;rw [qF hk,Option.any_some];generalize fR t n ((k+1:Nat):Int)=Z;cases OY t.aGy[k].Name 30 true<;>cases inR t.aGy[k].bJ 1 1000000000000<;>cases H6 t.aGy k t.aGy[k]<;>simp);·simp only [fR];rw [if_neg qk]
theorem HT {t:M.aR} (ht:t.ok):vQ t=some (Im t):=by have hm:=le_max ht.aGy.1;unfold vQ Im;rw [mU (L:=fS t) (g:=Lx t.aGy) (F:=some false) (E:=some (decide ((t.aGy.length:Int)<=12))) ht.aGy.1 (λn k hk => ?_) (λn => ?_),aZ];(have hf:=ht.aGy.2 _ (qG hk);simp only [fS];rw [if_pos (aY hk),aK hk,qA,bD qb,Jo hf.Name,qA,cH,qA,BG qb,qA,Sj ht.aGy.1 qb];unfold Lx;rw [qF hk,Option.any_some];generalize fS t n ((k+1:Nat):Int)=Z;cases OY t.aGy[k].Name 30 true<;>cases inR t.aGy[k].bJ 1 1000000000000<;>cases H6 t.aGy k t.aGy[k]<;>simp);·simp only [fS];rw [if_neg qk]
theorem P7:pV.length=3:=rfl
theorem UB {a:ByteArray} {k:Nat} (hk:k<pV.length):(B8 a==(k:Int))=(a.toList==(pV[k]).toList):=by
 have d : ∀i j:Nat,(hi:i<pV.length)->(hj:j<pV.length)->(pV[i]).toList=(pV[j]).toList->i=j:=by
  intro i j hi hj h
  have e0:(⟨#[98,97,110,107]⟩:ByteArray).toList=[98,97,110,107]:=by rw [ByteArray.toList_eq]
  have e1:(⟨#[110,101,119,115]⟩:ByteArray).toList=[110,101,119,115]:=by rw [ByteArray.toList_eq]
  have e2:(⟨#[115,104,111,112]⟩:ByteArray).toList=[115,104,111,112]:=by rw [ByteArray.toList_eq]
  rw [P7] at hi hj
  rcases i with _ | _ | _ | i<;>rcases j with _ | _ | _ | j<;>first | rfl | (exfalso;omega) | (exfalso;simp [pV,e0,e1,e2] at h)
 have hf:=fI (f:=λx:ByteArray=>x.toList==a.toList) (xs:=pV)
 have ha:=HU (λx:ByteArray=>x.toList==a.toList) pV
 unfold B8
 rw [Bool.eq_iff_iff,beq_iff_eq,beq_iff_eq]
 constructor
 ·intro h
  have h2:pV.findIdx? (λx:ByteArray=>x.toList==a.toList)=some k:=by
   unfold kG at h
   cases e:pV.findIdx? (λx:ByteArray=>x.toList==a.toList) with
   | none=>rw [e] at h;simp only at h;omega
   | some i=>rw [e] at h;simp only at h;congr 1;omega
  have:=(List.findIdx?_eq_some_iff_getElem.1 h2).2.1
  exact (eq_of_beq this).symm
 ·intro h
  have hex:pV.any (λx:ByteArray=>x.toList==a.toList)=true:=List.any_eq_true.2 ⟨pV[k],qG hk,by rw [h];exact beq_self_eq_true _⟩
  rw [hex] at ha
  obtain ⟨j,e,hj⟩:=hf (by have:=of_decide_eq_true ha;omega)
  rw [e]
  have h2:pV.findIdx? (λx:ByteArray=>x.toList==a.toList)=some j:=by
   unfold kG at e
   cases e2:pV.findIdx? (λx:ByteArray=>x.toList==a.toList) with
   | none=>rw [e2] at e;simp only at e;omega
   | some i=>rw [e2] at e;simp only at e;congr 1;omega
  have:=(List.findIdx?_eq_some_iff_getElem.1 h2).2.1
  rw [d j k hj hk (by rw [eq_of_beq this,h])]
def EB (w:M.World) (k:Nat):Bool:=(w.aGx[k]?).any λx=>Ef x&&(decide (x.Id<w.aGv)&&((decide (k=0)||(w.aGx[k-1]?).any λy=>decide (y.Id<x.Id))&&decide (0<=kG (nAt x.aGl x.Top) w.aA.aGj)))
def Hi (w:M.World) (k:Nat):Bool:=(w.aG2[k]?).any λx=>DP x&&((pV[k]?).any (λnm=>x.Name.toList==nm.toList)&&(w.aGz[k]?).any FF)
def xO (w:M.World):Bool:=decide (w.aG2.length=3)&&(decide (w.aGz.length=3)&&(decide (w.aGx.length<=6)&&((List.range 3).all (Hi w)&&((List.range w.aGx.length).all (EB w)&&(inR w.Now 0 999999990000&&(inR w.aGp 1 1000000&&(rC w.aA&&(inR w.aGv 1 1000000000000&&Im w.aGy))))))))
theorem Db {w:M.World} (hz:M.World.sz w<=1048576):M.aA.sz w.aA<=1048576:=by simp only [M.World.sz] at hz;omega
theorem SM {w:M.World} (hw:w.ok) {E:Option Bool} (hE : ∀n,dW w (n+1) (w.aGx.length:Int)=E):dW w fuel 0=if (List.range w.aGx.length).all (EB w)=true then E else some false:=by
 have hm:=le_max hw.aGx.1
 refine mU (L:=dW w) (g:=EB w) (F:=some false) (E:=E) hw.aGx.1 (λn k hk => ?_) hE
 have hf:=hw.aGx.2 _ (qG hk)
 simp only [dW]
 rw [if_pos (aY hk),aK hk,qA,bD qb,CO hf,qA,sZ hw.aA,qA]
 unfold EB
 rw [qF hk,Option.any_some]
 generalize dW w n ((k+1:Nat):Int)=Z
 have e1:decide (w.aGx[k].Id>=w.aGv) = !decide (w.aGx[k].Id<w.aGv):=by rw [Bool.eq_iff_iff];simp
 have e2:decide (kG (nAt w.aGx[k].aGl w.aGx[k].Top) w.aA.aGj<0) = !decide (0<=kG (nAt w.aGx[k].aGl w.aGx[k].Top) w.aA.aGj):=by rw [Bool.eq_iff_iff];simp
 rw [e1]
 simp only [e2]
 by_cases h0:k=0
 ·subst h0;cases Ef w.aGx[0]<;>cases decide (w.aGx[0].Id<w.aGv)<;>cases decide (0<=kG (nAt w.aGx[0].aGl w.aGx[0].Top) w.aA.aGj)<;>simp
 ·have e:i64.wrap ((k:Int)-1)=((k-1:Nat):Int):=by rw [bN qb qb];omega
  have hk1:k-1<w.aGx.length:=by omega
  have e3:decide (w.aGx[k-1].Id>=w.aGx[k].Id) = !decide (w.aGx[k-1].Id<w.aGx[k].Id):=by rw [Bool.eq_iff_iff];simp
  rw [if_pos (c:=(decide ((k:Int)>0))=true) qc,e,aK hk1,qA,qF hk1,e3]
  simp only [Option.any_some,h0,decide_false,Bool.false_or]
  cases Ef w.aGx[k]<;>cases decide (w.aGx[k].Id<w.aGv)<;>cases decide (w.aGx[k-1].Id<w.aGx[k].Id)<;>cases decide (0<=kG (nAt w.aGx[k].aGl w.aGx[k].Top) w.aA.aGj)<;>simp
theorem RZ {w:M.World} (hw:w.ok) {E:Option Bool} (hE : ∀n,fB w (n+1) (w.aGx.length:Int)=E):fB w fuel 0=if (List.range w.aGx.length).all (EB w)=true then E else some false:=by
 have hm:=le_max hw.aGx.1
 refine mU (L:=fB w) (g:=EB w) (F:=some false) (E:=E) hw.aGx.1 (λn k hk => ?_) hE
 have hf:=hw.aGx.2 _ (qG hk)
 simp only [fB]
 rw [if_pos (aY hk),aK hk,qA,bD qb,Nn hf,qA,Jm hw.aA,qA]
 unfold EB
 rw [qF hk,Option.any_some]
 generalize fB w n ((k+1:Nat):Int)=Z
 have e1:decide (w.aGx[k].Id>=w.aGv) = !decide (w.aGx[k].Id<w.aGv):=by rw [Bool.eq_iff_iff];simp
 have e2:decide (kG (nAt w.aGx[k].aGl w.aGx[k].Top) w.aA.aGj<0) = !decide (0<=kG (nAt w.aGx[k].aGl w.aGx[k].Top) w.aA.aGj):=by rw [Bool.eq_iff_iff];simp
 rw [e1]
 simp only [e2]
 by_cases h0:k=0
 ·subst h0;cases Ef w.aGx[0]<;>cases decide (w.aGx[0].Id<w.aGv)<;>cases decide (0<=kG (nAt w.aGx[0].aGl w.aGx[0].Top) w.aA.aGj)<;>simp
 ·have e:i64.wrap ((k:Int)-1)=((k-1:Nat):Int):=by rw [bN qb qb];omega
  have hk1:k-1<w.aGx.length:=by omega
  have e3:decide (w.aGx[k].Id<=w.aGx[k-1].Id) = !decide (w.aGx[k-1].Id<w.aGx[k].Id):=by rw [Bool.eq_iff_iff];simp
  rw [if_pos (c:=(decide ((k:Int)>0))=true) qc,e,aK hk1,qA,qF hk1,e3]
  simp only [Option.any_some,h0,decide_false,Bool.false_or]
  cases Ef w.aGx[k]<;>cases decide (w.aGx[k].Id<w.aGv)<;>cases decide (w.aGx[k-1].Id<w.aGx[k].Id)<;>cases decide (0<=kG (nAt w.aGx[k].aGl w.aGx[k].Top) w.aA.aGj)<;>simp
theorem FP {w:M.World} (hw:w.ok) (hz : ∀b∈w.aA.aGj,M.aGh.sz b.bW.aG4<=1048576):gQ w=some (xO w):=by
 unfold gQ xO
 by_cases h1:w.aG2.length=3
 ·by_cases h2:w.aGz.length=3
  ·have e3:decide ((w.aGx.length:Int)>6) = !decide (w.aGx.length<=6):=by rw [Bool.eq_iff_iff];simp;omega
   rw [if_neg (by rw [h1];simp),if_neg (by rw [h2];simp),e3,decide_eq_true h1,decide_eq_true h2]
   rw [mU (N:=3) (L:=lW w) (g:=Hi w) (F:=some false) (E:=dW w fuel 0) qj (λn k hk => ?_) (λn => ?_),
    SM hw (E:=some (inR w.Now 0 999999990000&&(inR w.aGp 1 1000000&&(rC w.aA&&(inR w.aGv 1 1000000000000&&Im w.aGy))))) (λn => ?_)]
   ·cases decide (w.aGx.length<=6)<;>cases (List.range 3).all (Hi w)<;>cases (List.range w.aGx.length).all (EB w)<;>simp
   ·simp only [dW];rw [if_neg qk];simp only [cF,BZ hw.aA hz,Ie hw.aGy,qA,aZ]
   ·have hk1:k<w.aG2.length:=by omega
    have hk2:k<w.aGz.length:=by omega
    have hk3:k<pV.length:=by rw [P7];exact hk
    have hn:tV=some pV:=rfl
    simp only [lW,hn,qA]
    rw [if_pos qc,aK hk1,qA,bD qb,Ax (hw.aG2.2 _ (qG hk1)),qA,aK hk3,qA,aK hk2,qA,BE (hw.aGz.2 _ (qG hk2)),qA]
    unfold Hi
    rw [qF hk1,qF hk2,qF hk3]
    simp only [Option.any_some]
    generalize lW w n ((k+1:Nat):Int)=Z
    have gen : ∀(a b c:Bool),(if (!a)=true then some false else if (!b)=true then some false else if (!c)=true then some false else Z)=if (a&&(b&&c))=true then Z else some false:=by intro a b c;cases a<;>cases b<;>cases c<;>rfl
    exact gen _ _ _
   ·simp only [lW];rw [if_neg qd]
  ·rw [if_neg (by rw [h1];simp),if_pos qc,decide_eq_false h2];simp
 ·rw [if_pos qc,decide_eq_false h1];simp
theorem Lj {w:M.World} (hw:w.ok) (hz : ∀b∈w.aA.aGj,M.aGh.sz b.bW.aG4<=1048576):yZ w=some (xO w):=by
 unfold yZ xO
 have e3:decide ((w.aGx.length:Int)>6) = !decide (w.aGx.length<=6):=by rw [Bool.eq_iff_iff];simp;omega
 have e1:((w.aG2.length:Int) != 3) = !decide (w.aG2.length=3):=by rw [Bool.eq_iff_iff];simp;omega
 have e2:((w.aGz.length:Int) != 3) = !decide (w.aGz.length=3):=by rw [Bool.eq_iff_iff];simp;omega
 simp only [cH,IQ hw.aA hz,HT hw.aGy,qA,e1,e2,e3]
 by_cases h1:w.aG2.length=3
 ·by_cases h2:w.aGz.length=3
  ·rw [RZ hw (E:=iY w fuel 0) (λn=>by
     simp only [fB]
     rw [if_neg qk]),
    mU (N:=3) (L:=iY w) (g:=Hi w) (F:=some false) (E:=some true) qj (λn k hk => ?_) (λn => ?_)]
   ·rw [decide_eq_true h1,decide_eq_true h2];cases inR w.Now 0 999999990000<;>cases inR w.aGp 1 1000000<;>cases rC w.aA<;>cases decide (w.aGx.length<=6)<;>cases inR w.aGv 1 1000000000000<;>cases Im w.aGy<;>cases (List.range 3).all (Hi w)<;>cases (List.range w.aGx.length).all (EB w)<;>rfl
   ·have hk1:k<w.aG2.length:=by omega
    have hk2:k<w.aGz.length:=by omega
    have hk3:k<pV.length:=by rw [P7];exact hk
    simp only [iY]
    rw [if_pos (aY hk1),aK hk1,qA,bD qb,By (hw.aG2.2 _ (qG hk1)),qA,D2,qA,aK hk2,qA,KD (hw.aGz.2 _ (qG hk2)),qA,uM,UB hk3]
    unfold Hi
    rw [qF hk1,qF hk2,qF hk3]
    simp only [Option.any_some]
    generalize iY w n ((k+1:Nat):Int)=Z
    have gen : ∀(a b c:Bool),(if (!a)=true then some false else if b=true then (if (!c)=true then some false else Z) else some false)=if (a&&(b&&c))=true then Z else some false:=by intro a b c;cases a<;>cases b<;>cases c<;>rfl
    exact gen _ _ _
   ·simp only [iY];rw [if_neg (by rw [h1];simp)]
  ·rw [decide_eq_true h1,decide_eq_false h2];cases inR w.Now 0 999999990000<;>cases inR w.aGp 1 1000000<;>cases rC w.aA<;>cases decide (w.aGx.length<=6)<;>cases inR w.aGv 1 1000000000000<;>cases Im w.aGy<;>rfl
 ·rw [decide_eq_false h1];cases inR w.Now 0 999999990000<;>cases inR w.aGp 1 1000000<;>cases rC w.aA<;>cases decide (w.aGx.length<=6)<;>cases inR w.aGv 1 1000000000000<;>cases Im w.aGy<;>rfl
theorem QR {w:M.World} (hz:M.World.sz w<=1048576) : ∀b∈w.aA.aGj,M.aGh.sz b.bW.aG4<=1048576:=λb hb=>Ad (by have h1:=Db hz;have h2:=cO (f:=M.aG.sz) hb;simp only [M.aA.sz] at h1;omega)
theorem AZ {w:M.World} (hw:w.ok) (hz:M.World.sz w<=1048576):gQ w=some (xO w):=FP hw (QR hz)
theorem L5 {w:M.World} (hw:w.ok) (hz:M.World.sz w<=1048576):yZ w=some (xO w):=Lj hw (QR hz)
def okC (b:List Int) (i h:Int):Prop:=b.length<=1048576/\(∀x∈b,0<=x/\x<=255)/\0<=i/\i<=1048576/\inI h
def Dr {α:Type} (b:List Int) (P:α->Prop) (o:Option (Int×Int×α)):Prop:=∃i h r,o=some (i,h,r)/\okC b i h/\P r
theorem Dr.ret {α:Type} {b:List Int} {P:α->Prop} {i h:Int} {r:α} (hc:okC b i h) (hp:P r):Dr b P (some (i,h,r)):=⟨i,h,r,rfl,hc,hp⟩
theorem Dr.bnd {α β:Type} {b:List Int} {P:β->Prop} {Q:α->Prop} {o:Option (Int×Int×α)} {f:Int×Int×α->Option (Int×Int×β)} (ho:Dr b Q o) (hf : ∀i h r,okC b i h->Q r->Dr b P (f (i,h,r))):Dr b P (o.bind f):=by obtain ⟨i,h,r,rfl,hc,hq⟩:=ho;exact hf i h r hc hq
theorem Dr.E0 {α β:Type} {b:List Int} {P:β->Prop} {Q:α->Prop} {o:Option α} {f:α->Option (Int×Int×β)} (ho : ∃r,o=some r/\Q r) (hf : ∀r,Q r->Dr b P (f r)):Dr b P (o.bind f):=by obtain ⟨r,rfl,hq⟩:=ho;exact hf r hq
theorem Dr.mono {α:Type} {b:List Int} {P Q:α->Prop} {o:Option (Int×Int×α)} (h : ∀r,P r->Q r) (ho:Dr b P o):Dr b Q o:=by obtain ⟨i,h',r,e,hc,hp⟩:=ho;exact ⟨i,h',r,e,hc,h r hp⟩
theorem BC {σ R:Type} {L:Nat->Int->σ->Option R} {I:Nat->σ->Prop} {Q:Option R->Prop} (h1 : ∀n (k:Nat) s,I (k+1) s->(∀s',I k s'->Q (L n (k:Int) s'))->Q (L (n+1) ((k+1:Nat):Int) s)) (h0 : ∀n s,I 0 s->Q (L (n+1) 0 s)) : ∀(n k:Nat) (s:σ),k<n->I k s->Q (L n (k:Int) s)
 | 0,_,_,h,_=>by omega
 | n+1,0,s,_,hi=>h0 n s hi
 | n+1,k+1,s,h,hi=>h1 n k s hi λs' hi'=>BC h1 h0 n k s' qb hi'
theorem Yd {σ R:Type} {N:Nat} {L:Nat->Int->σ->Option R} {I:Nat->σ->Prop} {Q:Option R->Prop} (h1 : ∀n (k:Nat) s,k<N->I k s->(∀s',I (k+1) s'->Q (L n ((k+1:Nat):Int) s'))->Q (L (n+1) (k:Int) s)) (h2 : ∀n s,I N s->Q (L (n+1) (N:Int) s)) : ∀(n k:Nat) (s:σ),N-k<n->k<=N->I k s->Q (L n (k:Int) s)
 | 0,_,_,h,_,_=>by omega
 | n+1,k,s,h,hk,hi=>by
  rcases Nat.lt_or_ge k N with hlt | hge
  ·exact h1 n k s hlt hi λs' hi'=>Yd h1 h2 n (k+1) s' qb qb hi'
  ·have e:k=N:=by omega
   subst e
   exact h2 n s hi
theorem kE {k:Nat} (h:k<=9223372036854775808):k<fuel:=by unfold fuel;omega
theorem OA (x:BitVec IntKind.i64.bits):0<=i64.wrap ((x&&&BitVec.ofInt IntKind.i64.bits 255).toNat:Int)/\i64.wrap ((x&&&BitVec.ofInt IntKind.i64.bits 255).toNat:Int)<=255:=by
 have h1:(x&&&BitVec.ofInt IntKind.i64.bits 255).toNat<=255:=by rw [BitVec.toNat_and];exact Nat.le_trans Nat.and_le_right qe
 rw [bN qb qb]
 omega
theorem HG {b:List Int} {i h:Int} (hc:okC b i h):Dr b (λr=>0<=r/\r<=255) (sS (⟨b,i,h⟩:M.aN)):=by
 obtain ⟨h1,h2,h3,h4,h5⟩:=hc
 unfold sS
 by_cases hl:i<(b.length:Int)
 ·rw [if_pos (by simpa using hl)]
  obtain ⟨k,rfl⟩:=Int.eq_ofNat_of_zero_le h3
  have hk:k<b.length:=by omega
  show Dr b _ ((idx b (k:Int)).bind _)
  rw [aK hk,qA]
  refine .ret ⟨h1,h2,?_,?_,bH _⟩ (OA _)
  ·show 0<=i64.wrap ((k:Int)+1);rw [bD qb];omega
  ·show i64.wrap ((k:Int)+1)<=_;rw [bD qb];omega
 ·rw [if_neg (by simpa using hl)];exact .ret ⟨h1,h2,h3,h4,bH _⟩ (OA _)
theorem Qb {x n:Int} (hx:0<=x) (hn:0<n):x%n<=x:=by have h1:=Int.emod_add_mul_ediv x n;have h2:0<=n*(x/n):=Int.mul_nonneg qb (Int.ediv_nonneg hx qb);omega
theorem Us {x n:Int} (hx:0<=x) (hn:0<n):0<=Int.tmod x n/\Int.tmod x n<n:=by rw [Int.tmod_eq_emod_of_nonneg hx];exact ⟨Int.emod_nonneg _ qb,Int.emod_lt_of_pos _ hn⟩
theorem aU {b:List Int} {i h n:Int} (hc:okC b i h):Dr b (λr=>0<=r/\(0<n->r<n)/\r<=16777215) (aF (⟨b,i,h⟩:M.aN) n):=by
 unfold aF
 by_cases h0:n<=0
 ·rw [if_pos (by simpa using h0)];exact .ret hc ⟨qb,qb,qb⟩
 ·rw [if_neg (by simpa using h0)]
  by_cases h1:n<=256
  ·rw [if_pos (by simpa using h1)]
   refine .bnd (HG hc) λi1 v1 r1 c1 q1 => ?_
   rw [if_neg qc]
   have:=Us q1.1 (show 0<n by omega)
   exact .ret c1 ⟨this.1,λ_=>this.2,by show Int.tmod r1 n<=_;omega⟩
  ·rw [if_neg (by simpa using h1)]
   refine .bnd (HG hc) λi1 v1 r1 c1 q1=>.bnd (HG c1) λi2 v2 r2 c2 q2=>.bnd (HG c2) λi3 v3 r3 c3 q3 => ?_
   rw [if_neg qc]
   dsimp only
   rw [bN (n:=r1*65536) qb qb,bN (n:=r2*256) qb qb,bN (n:=r1*65536+r2*256) qb qb,bN qb qb]
   have:=Us (show 0<=r1*65536+r2*256+r3 by omega) (show 0<n by omega)
   have h3:=Int.tmod_eq_emod_of_nonneg (b:=n) (show 0<=r1*65536+r2*256+r3 by omega)
   have h4:=Qb (n:=n) (show 0<=r1*65536+r2*256+r3 by omega) (show 0<n by omega)
   exact .ret c3 ⟨this.1,λ_=>this.2,qb⟩
theorem uK {b:List Int} {i h n:Int} (hc:okC b i h):Dr b (λ_=>True) (bG (⟨b,i,h⟩:M.aN) n):=by unfold bG;exact .bnd (aU hc) λi1 v1 r1 c1 q1=>.ret c1 trivial
theorem rU {b:List Int} {i h:Int} {l:List Int} (P:Int->Prop) (hl:0<l.length) (hp : ∀x∈l,P x) (hc:okC b i h):Dr b P (bK (⟨b,i,h⟩:M.aN) l):=by
 unfold bK
 refine .bnd (aU hc) λi1 v1 r1 c1 q1 => ?_
 dsimp only
 obtain ⟨k,rfl⟩:=Int.eq_ofNat_of_zero_le q1.1
 have:=q1.2.1 qb
 have hk:k<l.length:=by omega
 rw [aK hk,qA]
 exact .ret c1 (hp _ (qG hk))
theorem Bl {b:List Int} {i h:Int} {l:List ByteArray} (P:ByteArray->Prop) (hl:0<l.length) (hp : ∀x∈l,P x) (hc:okC b i h):Dr b P (eD (⟨b,i,h⟩:M.aN) l):=by
 unfold eD
 refine .bnd (aU hc) λi1 v1 r1 c1 q1 => ?_
 dsimp only
 obtain ⟨k,rfl⟩:=Int.eq_ofNat_of_zero_le q1.1
 have:=q1.2.1 qb
 have hk:k<l.length:=by omega
 rw [aK hk,qA]
 exact .ret c1 (hp _ (qG hk))
theorem RF {b:List Int} : ∀(n k:Nat) (v:Int),b.length-k<n->k<=b.length->b.length<=1048576->inI v -> ∃h,nE b n v (k:Int)=some (⟨b,0,h⟩:M.aN)/\inI h
 | 0,_,_,h,_,_,_=>by omega
 | n+1,k,v,h,hk,hl,hv=>by simp only [nE];by_cases h1:k<b.length;(rw [if_pos (aY h1)];by_cases h2:(k:Int)<4000;(rw [if_pos (by simpa using h2),aK h1,qA,bD qb];exact RF n (k+1) _ qb qb hl (bH _));·rw [if_neg (by simpa using h2)];exact ⟨v,rfl,hv⟩);·rw [if_neg qc];exact ⟨v,rfl,hv⟩
theorem Vf {b:List Int} (hl:b.length<=1048576) (hb : ∀x∈b,0<=x/\x<=255) : ∃h,Bn b=some (⟨b,0,h⟩:M.aN)/\okC b 0 h:=by unfold Bn;obtain ⟨h,e1,e2⟩:=RF (b:=b) fuel 0 (i64.wrap (193017+(List.length b:Int))) (kE qb) qb hl (bH _);exact ⟨h,e1,hl,hb,qb,qb,e2⟩
theorem AI {r:Int} (h:0<=r) : ∃k:Nat,r=(k:Int):=⟨r.toNat,qb⟩
theorem Km {n:Int} (h1 : -1000000000000000<=n) (h2:n<=1000000000000000):inI n:=by unfold inI;omega
theorem EF {s:ByteArray} (h:s.size<=8):s.size<=maxLen:=by unfold maxLen;omega
theorem wrap_small {n:Int} (h1 : -1000000000000000<=n) (h2:n<=1000000000000000):i64.wrap n=n:=bN qb qb
theorem Fy {b:List Int} {i h:Int} (hc:okC b i h):Dr b (λs=>s.size<=8) (kP (⟨b,i,h⟩:M.aN)):=by unfold kP;exact .bnd (Bl (λs=>s.size<=8) qe qe hc) λi1 v1 r1 c1 q1=>.ret c1 q1
theorem Lm {b:List Int} {i h:Int} (hc:okC b i h):Dr b (λs=>s.size<=8) (kN (⟨b,i,h⟩:M.aN)):=by unfold kN;exact .bnd (Bl (λs=>s.size<=8) qe qe hc) λi1 v1 r1 c1 q1=>.ret c1 q1
theorem Ay {b:List Int} {i h:Int} (hc:okC b i h):Dr b (λs=>s.size<=8) (dG (⟨b,i,h⟩:M.aN)):=by unfold dG;exact .bnd (Bl (λs=>s.size<=8) qe qe hc) λi1 v1 r1 c1 q1=>.ret c1 q1
theorem xS {a:ByteArray}:jE a=some (B8 a):=by unfold jE;rw [show tV=some pV from rfl,qA];rw [findAll (L:=jQ a pV) (f:=λx:ByteArray=>x.toList==a.toList) (A:=λi=>some (i:Int)) (E:=some (-1)) Mr (λm k hk => ?_) (λm => ?_),uB];(rfl);(have hk3:k<3:=hk;simp only [jQ];rw [if_pos (aY hk),aK hk,qA,bD qb]);·simp only [jQ];rw [if_neg qk]
def S0 (d:Int):M.World:=if 1<=d/\d<=1000000 then (⟨0,true,d,(⟨([]:List M.aG)⟩:M.aA),([]:List M.bJ),1,(⟨([]:List M.nW)⟩:M.aR),(⟨([]:List M.Bk)⟩:M.aGt),
   pV.map (λx=>(⟨x,1,[(⟨#[99,111,100,101]⟩:ByteArray),(⟨#[100,97,116,97]⟩:ByteArray),(⟨#[105,110,100,101,120]⟩:ByteArray),(⟨#[115,116,121,108,101]⟩:ByteArray)],(x.toList==(⟨#[110,101,119,115]⟩:ByteArray).toList)⟩:M.aGl)),
   pV.map (λ_=>(⟨(⟨(⟨#[110,111,116,101,115]⟩:ByteArray),([]:List M.aG1),0⟩:M.aD),([]:List M.aP),([]:List M.bC)⟩:M.aGr))⟩:M.World)
  else (⟨0,false,0,(⟨([]:List M.aG)⟩:M.aA),([]:List M.bJ),0,(⟨([]:List M.nW)⟩:M.aR),(⟨([]:List M.Bk)⟩:M.aGt),([]:List M.aGl),([]:List M.aGr)⟩:M.World)
theorem aBQ : ∃n,fuel=n+4:=⟨fuel-4,qi⟩
theorem Le {d:Int}:zX d=some (S0 d):=by unfold zX S0 bA;by_cases h:1<=d/\d<=1000000;(rw [if_pos h,if_pos (by simpa using h.1),qA,if_neg (by simpa using h.2)];obtain ⟨n,hn⟩:=aBQ;rw [hn];rfl);·rw [if_neg h];by_cases h1:1<=d;(rw [if_pos (by simpa using h1),qA,if_pos qc]);·rw [if_neg (by simpa using h1),qA,if_pos qd]
theorem Vb {l:List M.bJ} {f:Int} (hl:l.length<=maxLen):A8 l f=some (kG (λp:M.bJ=>p.Id==f) l):=by have hm:=le_max hl;unfold A8;rw [findAll (L:=oI l f) (f:=λp:M.bJ=>p.Id==f) (A:=λi=>some (i:Int)) (E:=some (-1)) hl (λm k hk => ?_) (λm => ?_),uB];(simp only [oI];rw [if_pos (aY hk),aK hk,qA,bD qb]);·simp only [oI];rw [if_neg qk]
def P0 (w:M.World) (f:Int):Int:=kG (λp:M.bJ=>p.Id==f) w.aGx
theorem JN {w:M.World} {f:Int} (hw:w.ok):yR w f=some (P0 w f):=by unfold yR;rw [Vb hw.aGx.1,qA];rfl
theorem aAH {b:List Int} {i1 v1:Int} {r1:ByteArray} (c1:okC b i1 v1) (q1:r1.size<=8) : ∃r:ByteArray×Int×Int,((bG (⟨b,i1,v1⟩:M.aN) 3).bind λaa=>(if aa.2.2=true then ((kP (⟨b,aa.1,aa.2.1⟩:M.aN)).bind λae=>(some (ae.2.2,ae.1,ae.2.1))) else (some (r1,aa.1,aa.2.1))))=some r/\(r.1.size<=8/\okC b r.2.1 r.2.2):=by obtain ⟨i2,v2,r2,e2,c2,q2⟩:=uK (n:=3) c1;rw [e2,qA];dsimp only;split;(obtain ⟨i3,v3,r3,e3,c3,q3⟩:=Fy c2;rw [e3,qA];exact ⟨_,rfl,q3,c3⟩);·exact ⟨_,rfl,q1,c2⟩
theorem SU (k:Nat):(decide (((k+1:Nat):Int)>0))=true:=decide_eq_true qb
theorem J1 : ¬(decide ((0:Int)>0))=true:=by simp
theorem Kc {k:Nat} (h:k+1<=100000):i64.wrap (((k+1:Nat):Int)-1)=(k:Int):=by rw [wrap_small qb qb];omega
theorem bgI {x:Int} (h : -1000000000000000<=x/\x<=1000000000000000):inI x:=Km h.1 h.2
theorem V6 {r n:Int} (q:0<=r/\(0<n->r<n)/\r<=16777215) : -1000000000000000<=r/\r<=1000000000000000:=⟨qb,qb⟩
theorem aDV {x:Int} (q : -1000000000000<=x/\x<=1000000000000/\(x<=256\/x=1000000000000)) : -1000000000000000<=x/\x<=1000000000000000:=⟨qb,qb⟩
theorem aF6 {r n:Int} (q:0<=r/\(0<n->r<n)/\r<=16777215) (h0:0<n) (h:n<=1000):0<=r/\r<=1000:=⟨q.1,by have:=q.2.1 h0;omega⟩
theorem s16 {s:ByteArray} (h:s.size<=16):s.size<=maxLen:=by unfold maxLen;omega
theorem ml {n:Nat} (h:n<=1000000):n<=maxLen:=by unfold maxLen;omega
theorem AK {α:Type} {b:Nat} {xs ys:List α} (h:xs.length+ys.length<=1000000) (hb:b<=1000):app b xs ys=some (xs++ys):=dN (Nat.le_trans (Nat.mul_le_mul h hb) qb)
def NH (k:M.Key):Prop:=M.Key.ok k/\k.aHG.size<=16
end Go.Proofs.YtipmihbgjolaaaaGreat.gen
