/-
  Helper text. No conditions.
-/
import Derived.Test.YtipmihbgjolaaaaGreatLoadedFilesPd7
set_option linter.unusedVariables false
set_option linter.unusedSimpArgs false
namespace Go.Proofs.YtipmihbgjolaaaaGreat.gen
open Go Go.Sh
open Go.IntKind (i64)
theorem Yv {d:Int}:wdI 0 (RP d):=by unfold RP;split;(rename_i h;refine ⟨vZ,bgI qh,⟨qd,qd⟩,⟨qd,qd⟩,Q6,rfl,rfl,⟨by simp [pB],λs hs => ?_⟩,⟨by simp [pB],λs hs => ?_⟩⟩;(simp only [pB,List.map_cons,List.map_nil,List.mem_cons,qO,or_false] at hs;rcases hs with rfl | rfl | rfl<;>exact ⟨⟨s16 qe,Q6,⟨ml qd,λy hy=>by simp only [List.mem_cons,qO,or_false] at hy;rcases hy with rfl | rfl | rfl | rfl<;>exact s16 qe⟩⟩,qe⟩);·simp only [pB,List.map_cons,List.map_nil,List.mem_cons,qO,or_false] at hs;rcases hs with rfl | rfl | rfl<;>exact X6 Mt.any ⟨qd,qd⟩ ⟨qd,qd⟩);·exact ⟨vZ,vZ,⟨qd,qd⟩,⟨qd,qd⟩,vZ,rfl,rfl,⟨qd,qd⟩,⟨qd,qd⟩⟩
theorem Mk (x:M.aA):JN x x=true:=nE NW _
theorem Rz (x:M.bC):OQ x x=true:=by simp [OQ,JJ,nE (f:=EG) (λy=>by simp [EG]),nE (f:=HP) (λy=>by simp [HP]),nE (f:=Ng) (λy=>by simp [Ng])]
theorem Nx (x:M.aFG):GG x x=true:=by simp [GG,GD,nE (f:=Dz) (λy=>by simp [Dz]),nE (f:=C2) (λy=>by simp [C2])]
theorem RG (x:M.aFD):Px x x=true:=by simp [Px,nE (f:=Fe) (λy=>by simp [Fe])]
theorem Km (x:M.World):QG x x=true:=by simp [QG,Mk,nE (f:=OQ) Rz,nE (f:=K0) (λy=>by simp [K0]),nE (f:=Kp) (λy=>by simp [Kp]),nE (f:=Px) RG,nE (f:=GG) Nx]
theorem Jy (x:List M.bC) (hs:x.length+dG M.bC.sz x<=1073741824):xP x=some x:=by
 unfold xP
 exact Am (xs:=x) (b:=144) (L:=kV x) (E:=some) qb qb (λn r k hk=>by
  have hy:=dV (f:=M.bC.sz) (qG hk)
  simp only [kV]
  rw [if_pos (aY hk),aK hk,qA,CL _ qb,qA,bE qb]) (λn r=>by
  simp only [kV]
  rw [if_neg qk])
theorem Dh (w:M.World) (hs:M.World.sz w<=1073741824):eB w=some w:=by
 simp only [M.World.sz] at hs
 have e3:iS w w.aA w.aFF w.aFM w.aFB w.aFR fuel 0 ([]:List M.aFG)=some w:=Am (xs:=w.aFN) (b:=96) (L:=iS w w.aA w.aFF w.aFM w.aFB w.aFR) (E:=λr=>some { w with aFN:=r }) qb qb (λn r k hk=>by
   have hy:=dV (f:=M.aFG.sz) (qG hk)
   simp only [iS]
   rw [if_pos (aY hk),aK hk,qA,Le _ qb,qA,bE qb]) (λn r=>by
   simp only [iS]
   rw [if_neg qk])
 have e2:iV w w.aA w.aFF w.aFM w.aFB fuel 0 ([]:List M.aFD)=some w:=(Am (xs:=w.aFR) (b:=56) (L:=iV w w.aA w.aFF w.aFM w.aFB) (E:=λr=>iS w w.aA w.aFF w.aFM w.aFB r fuel 0 ([]:List M.aFG)) qb qb (λn r k hk=>by
   have hy:=dV (f:=M.aFD.sz) (qG hk)
   simp only [iV]
   rw [if_pos (aY hk),aK hk,qA,Li _ qb,qA,bE qb]) (λn r=>by
   simp only [iV]
   rw [if_neg qk])).trans e3
 have e1:lJ w w.aA fuel 0 ([]:List M.bC)=some w:=(Am (xs:=w.aFF) (b:=144) (L:=lJ w w.aA) (E:=λr=>(vX w.aFM).bind λx=>(oL w.aFB).bind λy=>iV w w.aA r x y fuel 0 ([]:List M.aFD)) qb qb (λn r k hk=>by
   have hy:=dV (f:=M.bC.sz) (qG hk)
   simp only [lJ]
   rw [if_pos (aY hk),aK hk,qA,FW _ qb,qA,bE qb]) (λn r=>by
   simp only [lJ]
   rw [if_neg qk])).trans (by rw [FY _ qb,qA,Lq _ qb,qA];exact e2)
 unfold eB
 rw [Df _ qb,qA]
 exact e1
theorem Eu (w:M.World) (hs:M.World.sz w<=1073741824):uE w=some w:=by
 simp only [M.World.sz] at hs
 have e3:fS w w.aA w.aFF w.aFM w.aFB w.aFR fuel 0 ([]:List M.aFG)=some w:=Am (xs:=w.aFN) (b:=96) (L:=fS w w.aA w.aFF w.aFM w.aFB w.aFR) (E:=λr=>some { w with aFN:=r }) qb qb (λn r k hk=>by
   have hy:=dV (f:=M.aFG.sz) (qG hk)
   simp only [fS]
   rw [if_pos (aY hk),aK hk,qA,IL _ qb,qA,bE qb]) (λn r=>by
   simp only [fS]
   rw [if_neg qk])
 have e2:iE w w.aA w.aFF w.aFM w.aFB fuel 0 ([]:List M.aFD)=some w:=(Am (xs:=w.aFR) (b:=56) (L:=iE w w.aA w.aFF w.aFM w.aFB) (E:=λr=>fS w w.aA w.aFF w.aFM w.aFB r fuel 0 ([]:List M.aFG)) qb qb (λn r k hk=>by
   have hy:=dV (f:=M.aFD.sz) (qG hk)
   simp only [iE]
   rw [if_pos (aY hk),aK hk,qA,KM _ qb,qA,bE qb]) (λn r=>by
   simp only [iE]
   rw [if_neg qk])).trans e3
 unfold uE
 rw [HE _ qb,qA,Jy _ qb,qA,JC _ qb,qA,Hr _ qb,qA]
 exact e2
theorem LM {a:ByteArray} (h : ¬CK a<0) : ∃k:Nat,CK a=(k:Int)/\k<3:=by obtain ⟨k,e,hk⟩:=gD (show ¬lA (λx:ByteArray=>x.toList==a.toList) pB<0 from h);exact ⟨k,e,hk⟩
theorem IX {w:M.World} (h:wV w=true):w.aFR.length=3:=by unfold wV at h;rw [qM] at h;simpa using h.1
theorem Ki {x:M.aFB} {p:Int} (hx:x.aFa.length<=4194304):CG x p=some (x.aFa.filter λm=>m.To==p):=by unfold CG;refine DP (L:=oZ x p) (b:=24) (E:=some) qj qb (λn r k hk => ?_) (λn r => ?_);(simp only [oZ];rw [if_pos (aY hk),aK hk,qA,bE qb]);·simp only [oZ];rw [if_neg qk]
theorem KC {x:M.aFB} {p:Int} (hx:x.aFa.length<=4194304):zF x p=some (x.aFa.filter λm=>m.To==p):=by unfold zF;refine DP (L:=jM x p) (b:=24) (E:=some) qj qb (λn r k hk => ?_) (λn r => ?_);(simp only [jM];rw [if_pos (aY hk),aK hk,qA,bE qb]);·simp only [jM];rw [if_neg qk]
def Gy (a b:M.bC):Bool:=(a.aFD.toList==b.aFD.toList)&&((a.Top.toList==b.Top.toList)&&(a.Id != b.Id))
def Da (a:M.bC) (f n:Int) (s:Int×List M.tB) (p:M.bC):Int×List M.tB:=
 if Gy a p&&decide (((s.2.filter λm=>m.To==p.Id).length:Int)<5) then (s.1+1,s.2++[⟨p.Id,f,n⟩]) else s
theorem Ze {α:Type} (a b:Bool) (x y:α):(if a=true then (if b=true then x else y) else y)=if (a&&b)=true then x else y:=by cases a<;>cases b<;>rfl
theorem Lp (a b:M.bC):Dj a b=some (Gy a b):=by unfold Dj Gy;rw [aZ,aZ]
theorem Lr (a b:M.bC):Ax a b=some (Gy a b):=by unfold Ax Gy;rw [aZ,aZ]
def I0 (x:M.aFB) (l:List M.bC) (f n:Int):M.aFB×Int:=
 match l[(lA (λp:M.bC=>p.Id==f) l).toNat]? with
 | some a=>if lA (λp:M.bC=>p.Id==f) l<0 then (x,0) else (⟨(l.foldl (Da a f n) (0,x.aFa)).2⟩,(l.foldl (Da a f n) (0,x.aFa)).1)
 | none=>(x,0)
def TH (m0:Nat) (f n:Int) (l:List M.bC) (k:Nat) (s:Int×List M.tB):Prop:=0<=s.1/\s.1<=k/\s.2.length<=m0+k /\ ∀m∈s.2,M.tB.ok m
theorem Mi {m0:Nat} {f n:Int} {l:List M.bC} (hf:inI f) (hn:inI n) (hl : ∀p∈l,M.bC.ok p) (a:M.bC) : ∀s (k:Nat) (hk:k<l.length),TH m0 f n l k s->TH m0 f n l (k+1) (Da a f n s l[k]):=by rintro s k hk ⟨h1,h2,h3,h4⟩;unfold Da;split;(refine ⟨by simp only;omega,by simp only;omega,qn,?_⟩;intro m hm;rcases List.mem_append.1 hm with hm | hm;(exact h4 m hm);·simp at hm;subst hm;exact ⟨(hl _ (qG hk)).Id,hf,hn⟩);·exact ⟨h1,qb,qb,h4⟩
theorem SF {x:M.aFB} {l:List M.bC} {f n:Int} (hx:x.ok) (hl:l.length<=maxLen /\ ∀p∈l,M.bC.ok p) (hf:inI f) (hn:inI n) (hs:x.aFa.length+l.length<=2097152) {j:Nat} {a:M.bC} (hj:l[j]? = some a) :
  iH l f n (j:Int) fuel 0 0 x.aFa=some ((⟨(l.foldl (Da a f n) (0,x.aFa)).2⟩:M.aFB),(l.foldl (Da a f n) (0,x.aFa)).1)/\TH x.aFa.length f n l l.length (l.foldl (Da a f n) (0,x.aFa)):=by
 have key:=J1 (L:=λn' k (s:Int×List M.tB)=>iH l f n (j:Int) n' s.1 k s.2) (xs:=l) (step:=Da a f n) (I:=TH x.aFa.length f n l) (E:=λs=>some ((⟨s.2⟩:M.aFB),s.1)) hl.1
  (Mi hf hn hl.2 a) (λm s k hk hi => ?_) (λm s hi => ?_) (0,x.aFa) ⟨qd,qd,qd,hx.aFa.2⟩
 ·exact key
 ·obtain ⟨h1,h2,h3,h4⟩:=hi;simp only [iH];rw [if_pos (aY hk),S6 hj,qA,aK hk,qA,Lp,qA,Ki (by simp only;omega),qA,dH qs,qA,bL qb qb,bE qb,Ze];unfold Da;split<;>rfl
 ·simp only [iH];rw [if_neg qk]
theorem Te {x:M.aFB} {l:List M.bC} {f n:Int} (hx:x.ok) (hl:l.length<=maxLen /\ ∀p∈l,M.bC.ok p) (hf:inI f) (hn:inI n) (hs:x.aFa.length+l.length<=2097152) {j:Nat} {a:M.bC} (hj:l[j]? = some a) :
  dE l f n (j:Int) fuel 0 0 x.aFa=some ((⟨(l.foldl (Da a f n) (0,x.aFa)).2⟩:M.aFB),(l.foldl (Da a f n) (0,x.aFa)).1):=by
 have key:=J1 (L:=λn' k (s:Int×List M.tB)=>dE l f n (j:Int) n' s.1 k s.2) (xs:=l) (step:=Da a f n) (I:=TH x.aFa.length f n l) (E:=λs=>some ((⟨s.2⟩:M.aFB),s.1)) hl.1
  (Mi hf hn hl.2 a) (λm s k hk hi => ?_) (λm s hi => ?_) (0,x.aFa) ⟨qd,qd,qd,hx.aFa.2⟩
 ·exact key.1
 ·obtain ⟨h1,h2,h3,h4⟩:=hi;simp only [dE];rw [if_pos (aY hk),aK hk,qA,S6 hj,qA,Lr,qA,KC (by simp only;omega),qA,dH qs,qA,bL qb qb,bE qb,Ze];unfold Da;split<;>rfl
 ·simp only [dE];rw [if_neg qk]
theorem PI {x:M.aFB} {l:List M.bC} {f n:Int} (hx:x.ok) (hl:l.length<=maxLen /\ ∀p∈l,M.bC.ok p) (hf:inI f) (hn:inI n) (hs:x.aFa.length+l.length<=2097152) :
  Ep x l f n=some (I0 x l f n)/\yG x l f n=some (I0 x l f n)/\M.aFB.ok (I0 x l f n).1/\(I0 x l f n).1.aFa.length<=2097152:=by
 have hm:=le_max hl.1
 have hc:oL x=some x:=by unfold oL;rw [dH qc,qA]
 have hd:jO x=some x:=by unfold jO;rw [dH qc,qA]
 have hi:fY l (λz0=>vD z0 f)=some (lA (λp:M.bC=>p.Id==f) l):=Ey hl.1 (λx _=>rfl)
 unfold Ep yG
 rw [hc,hd,qA,qA,Ot hl.1,hi,qA,qA]
 unfold I0
 by_cases h:lA (λp:M.bC=>p.Id==f) l<0
 ·rw [if_pos (by simpa using h),if_pos (by simpa using h)]
  have e:(match l[(lA (λp:M.bC=>p.Id==f) l).toNat]? with
   | some a=>if lA (λp:M.bC=>p.Id==f) l<0 then (x,0) else (⟨(l.foldl (Da a f n) (0,x.aFa)).2⟩,(l.foldl (Da a f n) (0,x.aFa)).1)
   | none=>((x,0):M.aFB×Int))=(x,0):=by
   split
   ·rw [if_pos h]
   ·rfl
  rw [e]
  exact ⟨rfl,rfl,hx,by simp only;omega⟩
 ·rw [if_neg (by simpa using h),if_neg (by simpa using h)];obtain ⟨j,hj,hlt⟩:=gD h;have hg:l[j]? = some l[j]:=qF hlt;obtain ⟨k1,k2⟩:=SF hx hl hf hn hs hg;have k3:=Te hx hl hf hn hs hg;rw [hj,qH,hg];simp only;rw [if_neg qb,k1,k3];obtain ⟨i1,i2,i3,i4⟩:=k2;exact ⟨rfl,rfl,⟨⟨Nat.le_trans i3 qj,i4⟩⟩,Nat.le_trans i3 qb⟩
def TU (w:M.World) (i n:Int):M.World×Int:=if wV w=true then (if FK w i<0 then (w,0) else ({ w with aFB:=(I0 w.aFB w.aFF i n).1 },(I0 w.aFB w.aFF i n).2)) else (w,0)
theorem JZ {w:M.World} {i n:Int} (hw:w.ok) (hi:inI i) (hn:inI n) (hz:M.World.sz w<=1048576):yV w i n=some (TU w i n):=by
 have hz':=hz
 simp only [M.World.sz,M.aFB.sz] at hz'
 obtain ⟨e1,e2,_⟩:=PI (x:=w.aFB) (l:=w.aFF) hw.aFB hw.aFF hi hn qb
 unfold yV TU
 rw [Eu w qb,qA,F6 hw hz,qA]
 cases wV w with
 | false=>simp
 | true =>
  rw [if_neg qd,El hw,qA,if_pos rfl]
  by_cases h:FK w i<0
  ·rw [if_pos (by simpa using h),if_pos h]
  ·rw [if_neg (by simpa using h),if_neg h,e2,qA]
theorem NY {s:M.aFD} (h:Kn s=true):1<=s.aE3/\s.aE3<=1000000000000:=by simp only [Kn,qM,inR,qL] at h;exact h.2.2.1
theorem I6 {α:Type} {f:α->Nat} (g:α->Bool) : ∀xs:List α,dG f (xs.filter g)<=dG f xs
 | []=>Nat.le_refl _
 | x::xs=>by have:=I6 g xs (f:=f);by_cases h:g x=true;(rw [List.filter_cons_of_pos h];simp only [dG];omega);·rw [List.filter_cons_of_neg h];simp only [dG];omega
def U9 (a b:ByteArray) (x:M.bC):Bool:=(x.aFD.toList==a.toList)&&(x.Top.toList==b.toList)
theorem Lm {w:M.World} {a b:ByteArray} (hz:M.World.sz w<=1048576):At w a b=some (w.aFF.filter (U9 a b)):=by
 have hl:w.aFF.length<=1048576:=by simp only [M.World.sz] at hz;omega
 unfold At
 refine DP (L:=iP w a b) (b:=144) (E:=some) qj qb (λn r k hk => ?_) (λn r => ?_)
 ·have hz1:=dV (f:=M.bC.sz) (qG hk);simp only [M.World.sz] at hz;simp only [iP];rw [if_pos (aY hk),aK hk,qA,CL _ qb,qA,bE qb,Ze];rfl
 ·simp only [iP];rw [if_neg qk]
theorem Mx {s:M.aE} {v:Int} {a b:ByteArray} (hs:s.ok) (hz:s.sz<=1048576) : ∃r,wL s v a b=some r/\xC s v a b=some r/\M.aE9.ok r.1:=by
 unfold wL xC cF cG
 rw [Er hs,Jv hs]
 simp only [qA]
 have hnil:M.aE9.ok (⟨4,0,0,([]:List Int),false⟩:M.aE9):=⟨by unfold inI;simp,by unfold inI;simp,by unfold inI;simp,⟨by simp [maxLen],qd⟩⟩
 by_cases h:lA (λc:M.aFE=>c.aE3==v) s.aE6<0
 ·simp only [h,decide_true,if_true];exact ⟨_,rfl,rfl,hnil⟩
 ·obtain ⟨k,e,hk⟩:=gD h
  simp only [h,decide_false,qD,if_false]
  rw [e,aK hk]
  have hc:=hs.aE6.2 _ (qG hk)
  simp only [qA]
  rw [Gd hc,LD hc]
  simp only [qA]
  by_cases h2:lA (E2 a b) s.aE6[k].aFK<0
  ·simp only [h2,decide_true,if_true];exact ⟨_,rfl,rfl,hnil⟩
  ·obtain ⟨j,e2,hj⟩:=gD h2
   simp only [h2,decide_false,qD,if_false]
   rw [e2,aK hj]
   have hx:=hc.aFK.2 _ (qG hj)
   have z1:=dV (f:=M.aFE.sz) (qG hk)
   have z2:=dV (f:=M.aFL.sz) (qG hj)
   unfold M.aE.sz at hz
   have q1:M.aFE.sz s.aE6[k]=s.aE6[k].aFK.length+dG M.aFL.sz s.aE6[k].aFK:=rfl
   have q2:M.aFL.sz s.aE6[k].aFK[j]=s.aE6[k].aFK[j].aFD.size+(s.aE6[k].aFK[j].aFo.size+s.aE6[k].aFK[j].aE9.aFw.length):=rfl
   have hb:(s.aE6[k].aFK[j].aE9.aFw).length<=1048576:=by omega
   simp only [qA,sA,kT,kG]
   rw [dH qc]
   exact ⟨_,rfl,rfl,hx.aE9⟩
def K3 (s:M.aFD) (v:Int):Bool:=Kn s&&(decide (v>s.aE3-2)&&(decide (v<=s.aE3)&&decide (v>=1)))
theorem MD {s:M.aFD} {v:Int} (hs:s.ok):rM s v=some (K3 s v):=by
 unfold rM K3
 rw [D1 hs,qA]
 cases hn:Kn s with
 | false=>simp
 | true =>
  have hv:=NY hn
  rw [if_pos rfl,bL (n:=s.aE3-2) qb qb,bL qb qb]
  unfold CC bA
  by_cases h:s.aE3-2+1>1
  ·rw [if_pos (by simpa using h),qA]
   by_cases h1:v>=s.aE3-2+1
   ·rw [if_pos (by simpa using h1),qA]
    have e1:decide (v>s.aE3-2)=true:=by simp;omega
    have e2:decide (v>=1)=true:=by simp;omega
    rw [e1,e2];simp
   ·rw [if_neg (by simpa using h1),qA]
    have e1:decide (v>s.aE3-2)=false:=by simp;omega
    rw [e1];simp
  ·rw [if_neg (by simpa using h),qA]
   by_cases h1:v>=1
   ·rw [if_pos (by simpa using h1),qA]
    have e1:decide (v>s.aE3-2)=true:=by simp;omega
    have e2:decide (v>=1)=true:=by simpa using h1
    rw [e1,e2];simp
   ·rw [if_neg (by simpa using h1),qA]
    have e2:decide (v>=1)=false:=by simpa using h1
    rw [e2];simp
theorem MB {s:M.aFD} {v:Int} (hs:s.ok):rP s v=some (K3 s v):=by
 unfold rP K3
 rw [DT hs,qA]
 cases hn:Kn s with
 | false=>simp
 | true =>
  have hv:=NY hn
  rw [if_pos rfl,bL (n:=s.aE3-2) qb qb]
  cases decide (v>s.aE3-2)<;>cases decide (v<=s.aE3)<;>simp
def YK (s:M.aFD) (f:ByteArray):Bool:=s.aFe.any λx=>x.toList==f.toList
theorem Ly {s:M.aFD} {f:ByteArray} (hs:s.ok):Ar s f=some (YK s f):=by have hm:=le_max hs.aFe.1;unfold Ar YK;rw [findAll (L:=nR s f) (f:=λx:ByteArray=>x.toList==f.toList) (A:=λ_=>some true) (E:=some false) hs.aFe.1 (λm k hk => ?_) (λm => ?_),Qk];(cases s.aFe.any (λx=>x.toList==f.toList)<;>rfl);(simp only [nR];rw [if_pos (aY hk),aK hk,qA,bE qb]);·simp only [nR];rw [if_neg qk]
theorem Lt {s:M.aFD} {f:ByteArray} (hs:s.ok):Ay s f=some (YK s f):=by have hm:=le_max hs.aFe.1;unfold Ay pC lK YK;rw [findAll (L:=bY s.aFe f) (f:=λx:ByteArray=>x.toList==f.toList) (A:=λi=>some (i:Int)) (E:=some (-1)) hs.aFe.1 (λm k hk => ?_) (λm => ?_),rN,qA,qA,Ho];(simp only [bY];rw [if_pos (aY hk),aK hk,qA,bE qb,Bool.beq_comm]);·simp only [bY];rw [if_neg qk]
theorem Qs:M.aE9.ok (⟨4,0,0,([]:List Int),false⟩:M.aE9):=⟨by unfold inI;simp,by unfold inI;simp,by unfold inI;simp,⟨by simp [maxLen],qd⟩⟩
theorem PB {s:M.aFD} {f:ByteArray} {v:Int} (hs:s.ok) (hv:inI v) (zs:M.aFD.sz s<=1048576) (zf:f.size<=1048576) : ∃r,yB s f v=some r/\xW s f v=some r/\M.aE9.ok r:=by
 have hn:s.Name.size<=1048576:=by simp only [M.aFD.sz] at zs;omega
 obtain ⟨l,e1,e2,hl⟩:=U0 (t:=s) (f:=f) (v:=v) hn zf
 unfold yB xW cF cG
 rw [D1 hs,DT hs,MD hs,MB hs,Ly hs,Lt hs,e1,e2]
 have aa:M.aE9.ok (⟨1,404,s.aE3,([]:List Int),false⟩:M.aE9):=⟨by unfold inI;simp,by unfold inI;simp,hs.aE3,⟨by simp [maxLen],qd⟩⟩
 simp only [qA]
 cases Kn s
 ·exact ⟨_,rfl,rfl,Qs⟩
 ·cases K3 s v;(exact ⟨_,rfl,rfl,aa⟩);·cases YK s f;(exact ⟨_,rfl,rfl,aa⟩);·exact ⟨_,rfl,rfl,⟨by unfold inI;simp,by unfold inI;simp,hv,hl⟩⟩
theorem Hn {c:M.aE} {s:M.aFD} {f:ByteArray} {v:Int} {o:Bool} (hc:c.ok) (hs:s.ok) (hv:inI v) (zc:c.sz<=1048576) (zs:M.aFD.sz s<=1048576) (zf:f.size<=1048576) : ∃r,jK c s v f o=some r/\uW c s v f o=some r/\M.aE9.ok r:=by obtain ⟨x,e1,e2,hx⟩:=Mx (s:=c) (v:=v) (a:=s.Name) (b:=f) hc zc;obtain ⟨y,e3,e4,hy⟩:=PB (f:=f) hs hv zs zf;unfold jK uW cF cG;rw [e1,e2,e3,e4];simp only [qA];cases x.2;(cases o;(exact ⟨_,rfl,rfl,Qs⟩);·exact ⟨_,rfl,rfl,hy⟩);·exact ⟨_,rfl,rfl,hx⟩
theorem V0 {w:M.World} {p:M.bC} {f:ByteArray} (hw:w.ok) (hp:p.ok) (hn:wV w=true) (hz:M.World.sz w<=1048576) (zf:f.size<=1048576) : ∃r,gB w p f=some r/\zU w p f=some r/\M.aE9.ok r:=by
 have hz':=hz
 simp only [M.World.sz,M.aA.sz] at hz'
 unfold gB zU A9 Cs cF cG
 rw [wB hw.aA,DN hw.aA,Ad,Ds]
 simp only [qA]
 by_cases h:lA (nAt p.aFD p.Top) w.aA.aE8<0
 ·simp only [h,decide_true,if_true,qA,qC];exact ⟨_,rfl,rfl,Qs⟩
 ·obtain ⟨j,ej,hj⟩:=gD h
  simp only [h,decide_false,qD,if_false]
  rw [ej,aK hj]
  simp only [qA,qB,qD,if_false]
  by_cases h2:CK p.aFD<0
  ·simp only [h2,decide_true,if_true];exact ⟨_,rfl,rfl,Qs⟩
  ·obtain ⟨k,ek,hk⟩:=LM h2
   have hk':k<w.aFR.length:=by rw [IX hn];exact hk
   have h3 : ¬((k:Int)>=(w.aFR.length:Int)):=by omega
   simp only [h2,decide_false,qD,if_false]
   rw [ek,aK hk']
   simp only [h3,decide_false,qD,if_false,qA]
   have hb:=hw.aA.aE8.2 _ (qG hj)
   have z1:=dV (f:=M.aJ.sz) (qG hj)
   have z2:=dV (f:=M.aFD.sz) (qG hk')
   have z3:M.aE.sz w.aA.aE8[j].aE6<=M.aJ.sz w.aA.aE8[j]:=by simp only [M.aJ.sz];omega
   obtain ⟨r,e1,e2,e3⟩:=Hn (o:=w.aFW) (f:=f) hb.aE6 (hw.aFR.2 _ (qG hk')) hp.aE3 qb qb zf
   rw [e1,e2]
   exact ⟨r,rfl,rfl,e3⟩
theorem Ll {c:M.aE} {s:M.aFD} {f:ByteArray} {v:Int} {o:Bool} (hc:c.ok) (hs:s.ok) (hv:inI v) (zc:c.sz<=1048576) (zs:M.aFD.sz s<=1048576) (zf:f.size<=1048576) : ∃r,jK c s v f o=some r/\M.aE9.ok r:=by obtain ⟨r,e,_,h⟩:=Hn (f:=f) (o:=o) hc hs hv zc zs zf;exact ⟨r,e,h⟩
def Zi (x y:M.mZ):Bool:=(y.Name.toList==x.Name.toList)&&(!y.aF0||(!y.aFj || !x.aFj))
def YY (l:List M.mZ) (x:M.mZ):Bool := !(l.any (Zi x))
theorem YI {α:Type} (n a b c:Bool) (p q:α):(if n=true then (if (!a)=true then p else (if (!b)=true then p else (if (!c)=true then p else q))) else q)=if (n&&(!a||(!b || !c)))=true then p else q:=by cases n<;>cases a<;>cases b<;>cases c<;>rfl
theorem RI {l:List M.mZ} {n:Nat} {x:M.mZ} (hl:l.length<=maxLen) (hn:n<=l.length):AZ l (n:Int) x=some (YY (l.take n) x):=by
 have hm:=le_max hl
 have ht:(l.take n).length=n:=by simp;omega
 unfold AZ YY
 rw [findAll (xs:=l.take n) (L:=mV l (n:Int) x) (f:=Zi x) (A:=λ_=>some false) (E:=some true) (by rw [ht];omega) (λm k hk => ?_) (λm => ?_),Qk]
 ·cases (l.take n).any (Zi x)<;>rfl
 ·have hk':k<n:=by omega
  simp only [mV]
  rw [if_pos (by simpa using hk'),aK (show k<l.length by omega),qA,bE qb,YI,List.getElem_take]
  rfl
 ·rw [ht];simp only [mV];rw [if_neg qd]
def nGr (l:List M.mZ) (k:Nat):List M.mZ:=match l[k]? with
 | some x=>if x.aF0=true then l else if YY (l.take k) x=true then l.set k (⟨x.Name,x.bC,x.aFj,true⟩:M.mZ) else l
 | none=>l
theorem Yh {l:List M.mZ} {k:Nat} (h:k<l.length):nGr l k=if l[k].aF0=true then l else if YY (l.take k) l[k]=true then l.set k (⟨l[k].Name,l[k].bC,l[k].aFj,true⟩:M.mZ) else l:=by unfold nGr;rw [qF h]
theorem Xn (l:List M.mZ) (k:Nat):(nGr l k).length=l.length:=by unfold nGr;split;(split;(rfl);·split<;>simp);·rfl
def Nv (l:List M.mZ):List M.mZ:=(List.range l.length).foldl nGr l
theorem SK {N:Nat} {L:Nat->Int->List M.mZ->Option M.aR} (hN:N<=maxLen) (h1 : ∀n (r:List M.mZ) (k:Nat),k<N->r.length=N->L (n+1) (k:Int) r=L n ((k+1:Nat):Int) (nGr r k)) (h2 : ∀n (r:List M.mZ),r.length=N->L (n+1) (N:Int) r=some (⟨r⟩:M.aR)) (l:List M.mZ) (h0:l.length=N) :
  L fuel 0 l=some (⟨Nv l⟩:M.aR):=by
 have hx:(List.range N).length=N:=List.length_range
 have:=J1 (xs:=List.range N) (L:=λn k r=>L n k r) (step:=nGr) (I:=λk r=>r.length=N) (E:=λr=>some (⟨r⟩:M.aR)) (by rw [hx];exact hN) (λs k hk hi=>(Xn s _).trans hi) (λn s k hk hi=>by rw [List.getElem_range];exact h1 n s k (by rw [hx] at hk;exact hk) hi) (λn s hi=>by rw [hx];exact h2 n s hi) l h0
 unfold Nv
 rw [h0]
 exact this.1
theorem IN {t:M.aR} (hl:t.aFM.length<=1048576) (hz:M.aR.sz t<=1073741824):sM t=some (⟨Nv t.aFM⟩:M.aR):=by
 unfold sM
 rw [FY t hz,qA]
 refine SK (N:=t.aFM.length) (L:=eN) qj (λn r k hk hr => ?_) (λn r hr => ?_) t.aFM rfl
 ·have hk':k<r.length:=by omega
  simp only [eN]
  rw [if_pos (aY hk'),aK hk',qA,bE qb,RI qj qb,qA,qH,Yh hk']
  cases r[k].aF0
  ·cases YY (r.take k) r[k]<;>rfl
  ·rfl
 ·simp only [eN];rw [<-hr,if_neg qk]
def Tv (t:M.aR) (p:Int):M.aR:=(⟨Nv (t.aFM.filter λx=>x.bC != p)⟩:M.aR)
theorem WH {t:M.aR} (p:Int):M.aR.sz (⟨t.aFM.filter λx=>x.bC != p⟩:M.aR)<=M.aR.sz t:=by have h4:=List.length_filter_le (λx:M.mZ=>x.bC != p) t.aFM;have h5:=I6 (f:=M.mZ.sz) (λx:M.mZ=>x.bC != p) t.aFM;simp only [M.aR.sz];omega
theorem Gp {t:M.aR} {p:Int} (hl:t.aFM.length<=1048576) (hz:M.aR.sz t<=1073741824):sY t p=some (Tv t p):=by have h4:=List.length_filter_le (λx:M.mZ=>x.bC != p) t.aFM;have h5:=WH (t:=t) p;unfold sY Tv;rw [DP (xs:=t.aFM) (L:=eF t p) (b:=32) (f:=λx:M.mZ=>x.bC != p) (E:=λr=>(sM (⟨r⟩:M.aR)).bind λx=>some x) qj qb (λn r k hk => ?_) (λn r => ?_)];(rw [IN (by simpa using Nat.le_trans h4 hl) qb,qA]);(simp only [eF];rw [if_pos (aY hk),aK hk,qA,bE qb]);·simp only [eF];rw [if_neg qk]
def N3 (x:M.aFB) (p:Int):M.aFB:=(⟨x.aFa.filter λm=>m.To != p⟩:M.aFB)
theorem JF {x:M.aFB} {p:Int} (hl:x.aFa.length<=1048576):yA x p=some (N3 x p):=by unfold yA N3;refine DP (xs:=x.aFa) (L:=hY x p) (b:=24) (f:=λm:M.tB=>m.To != p) (E:=λr=>some (⟨r⟩:M.aFB)) qj qb (λn r k hk => ?_) (λn r => ?_);(simp only [hY];rw [if_pos (aY hk),aK hk,qA,bE qb]);·simp only [hY];rw [if_neg qk]
theorem UT {α:Type} {f:α->Bool} {l:List α} {k:Nat} {x:α} (e:lA f l=(k:Int)) (hx:f x=true):lA f (l.set k x)=(k:Int)/\(l.set k x)[k]? = some x:=by
 obtain ⟨hk,hf⟩:=BG e
 have h1:=DQ hk hf
 have hk2:k<(l.set k x).length:=by rw [qN];exact hk
 have hg:(l.set k x)[k]? = some x:=by rw [qF hk2,List.getElem_set_self]
 have h2:=DQ (f:=f) (xs:=l.set k x) hk2 (by rw [List.getElem_set_self];exact hx)
 rw [e,beq_self_eq_true] at h1
 refine ⟨eq_of_beq (h2.trans ?_),hg⟩
 rw [qQ]
 intro j hj
 have h3:=(List.all_eq_true.1 h1.symm) j hj
 have hne:k≠j:=by have:=List.mem_range.1 hj;omega
 rw [List.getElem?_set_ne hne]
 exact h3
theorem VG {α:Type} {f:α->Bool} {l:List α} {p:Nat} {x:α} (hp:p<=l.length) (h : ∀y∈l,f y=false) (hx:f x=true):lA f (l.take p++([x]++l.drop p))=(p:Int)/\(l.take p++([x]++l.drop p))[p]? = some x:=by
 have ht:(l.take p).length=p:=by rw [qT];omega
 have hl:p<(l.take p++([x]++l.drop p)).length:=by simp only [qE,ht,qJ,qK];omega
 have hg:(l.take p++([x]++l.drop p))[p]? = some x:=by rw [List.getElem?_append_right qb,ht,Nat.sub_self];rfl
 have hg2:(l.take p++([x]++l.drop p))[p]=x:=by rw [qF hl] at hg;exact Option.some.inj hg
 refine ⟨eq_of_beq ((DQ hl (by rw [hg2];exact hx)).trans ?_),hg⟩
 rw [qQ]
 intro j hj
 have hj':=List.mem_range.1 hj
 rw [List.getElem?_append_left qb]
 cases e:(l.take p)[j]? with
 | none=>rfl
 | some y =>
  rw [Option.any_some,h y (List.mem_of_mem_take (List.mem_of_getElem? e))]
  rfl
theorem QL {s:M.aA} {b:M.aJ} (hp:(Jz s b).2=true):(Jz s b).1=(⟨Cq s b⟩:M.aA)/\rT (⟨Cq s b⟩:M.aA)=true:=by unfold Jz Lg at hp ⊢;by_cases h1:rT s=true;(by_cases h2:rT (⟨Cq s b⟩:M.aA)=true;(rw [if_pos h1,if_pos h2];exact ⟨rfl,h2⟩);·rw [if_pos h1,if_neg h2] at hp;cases hp);·rw [if_neg h1] at hp;cases hp
theorem QM (b:M.aJ):nAt b.aFD b.Top b=true:=by unfold nAt;simp
theorem N9 (s:M.aA) (b:M.aJ) : ∃j:Nat,lA (nAt b.aFD b.Top) (Cq s b)=(j:Int)/\(Cq s b)[j]? = some b:=by unfold Cq;by_cases h:lA (nAt b.aFD b.Top) s.aE8>=0;(rw [if_pos h];obtain ⟨k,e,hk⟩:=gD (show ¬lA (nAt b.aFD b.Top) s.aE8<0 by omega);rw [e,qH];exact ⟨k,UT e (QM b)⟩);·rw [if_neg h];exact ⟨Vo s b,VG (Pp s b) (H8 qb) (QM b)⟩
theorem XH {s:M.aA} (h:rT s=true) {x:M.aJ} {j:Nat} (hx:s.aE8[j]? = some x):A6 x=true:=by unfold rT at h;rw [qM,qQ] at h;obtain ⟨hj,_⟩:=List.getElem?_eq_some_iff.1 hx;have:=h.1 j (List.mem_range.2 hj);unfold Dp at this;rw [hx,Option.any_some,qM] at this;exact this.1
theorem V5 {s:M.aA} {b:M.aJ} (hz:M.aA.sz s<=1048576) (zb:M.aE5.sz b.bV.aFT<=1048576) : ∀x∈(Jz s b).1.aE8,M.aE5.sz x.bV.aFT<=1048576:=by
 have h0 : ∀x∈s.aE8,M.aE5.sz x.bV.aFT<=1048576:=λx hx=>DC (Sq hz x hx)
 unfold Jz Lg
 split
 ·split;(exact Oz hz zb);·exact h0
 ·exact h0
def Mw (r:M.aE4) (s:M.aFD) (o:Bool):Int:=if (r.aFl != 0)=true then r.aFl else if o=true then s.aE3 else 0
theorem H2 (r:M.aE4) (s:M.aFD) (o:Bool):nS r s o=some (Mw r s o):=by unfold nS Mw;cases (r.aFl != 0)<;>cases o<;>rfl
theorem WW {r:M.aE4} {s:M.aFD} {o:Bool} (hr:r.ok) (hs:s.ok):inI (Mw r s o):=by unfold Mw;split;(exact hr.aFl);·split;(exact hs.aE3);·exact vZ
theorem VW {p:M.bC} (h:Bv p=true):(p.aE3==0)=false:=by unfold Bv inR at h;simp only [qM,qL] at h;have:=h.2.2.2.2.1.1;rw [beq_eq_false_iff_ne];omega
theorem US (p:M.bC) (f:ByteArray) (x:M.aE9):(BI p f x).1.Id=p.Id:=by unfold BI;split;(rfl);·split;(rfl);·split;(split<;>rfl);·rfl
theorem Tw {w:M.World} {B:M.aJ} {p:M.bC} {f:ByteArray} {k:Nat} (hw:w.ok) (hB:B.ok) (hz:M.World.sz w<=1048576) (hk:k<w.aFR.length) (ek:CK p.aFD=(k:Int)) (hp:(Jz w.aA B).2=true) (e:nAt p.aFD p.Top=nAt B.aFD B.Top) :
  gB (⟨w.Now,w.aFW,w.aFC,(Jz w.aA B).1,w.aFF,w.aFJ,w.aFM,w.aFB,w.aFR,w.aFN⟩:M.World) p f=jK B.aE6 w.aFR[k] p.aE3 f w.aFW:=by
 have ho:=R0 hw.aA hB (ES hz)
 obtain ⟨j,e1,e2⟩:=N9 w.aA B
 rw [(QL hp).1] at ho ⊢
 unfold gB
 rw [wB ho,qA,Ad,qA,e,ek]
 show (if decide (lA (nAt B.aFD B.Top) (Cq w.aA B)<0)=true then _ else _)=_
 rw [e1,if_neg qd,if_neg qd]
 show ((idx (Cq w.aA B) (j:Int)).bind _)=_
 rw [S6 e2,qA,aK hk,qA]
 cases jK B.aE6 w.aFR[k] p.aE3 f w.aFW<;>rfl
def oS (w:M.World) (B:M.aJ) (k:Nat) (a b:ByteArray) (l:List M.Instr):Option (M.World×Int×Bool):=(iI w.aA B).bind λaa=>((idx w.aFR (k:Int)).bind λai=>((nS B.aE4 ai w.aFW).bind λaj=>((kF w.aFJ a b aj l).bind λae=>(if (!aa.2)=true then (some (w,0,false)) else (if (!ae.2)=true then (some (w,0,false)) else ((gB (⟨w.Now,w.aFW,w.aFC,aa.1,w.aFF,w.aFJ,w.aFM,w.aFB,w.aFR,w.aFN⟩:M.World) ae.1 (⟨#[105,110,100,101,120]⟩:ByteArray)).bind λak=>((hU ae.1 (⟨#[105,110,100,101,120]⟩:ByteArray) ak).bind λaf=>((app 144 w.aFF ([af.1])).bind λal=>(if (!af.2)=true then (some (w,0,false)) else ((iJ (⟨w.Now,w.aFW,w.aFC,aa.1,(w.aFF++[af.1]),(i64.wrap (w.aFJ+1)),w.aFM,w.aFB,w.aFR,w.aFN⟩:M.World)).bind λah=>(if (!ah)=true then (some (w,0,false)) else (some ((⟨w.Now,w.aFW,w.aFC,aa.1,(w.aFF++[af.1]),(i64.wrap (w.aFJ+1)),w.aFM,w.aFB,w.aFR,w.aFN⟩:M.World),ae.1.Id,true)))))))))))))
def O0 (w:M.World) (B:M.aJ) (a b:ByteArray) (l:List M.Instr) (p:M.bC) (R:M.World×Int×Bool):Prop:=wV w=true/\wV R.1=true/\(Jz w.aA B).2=true/\nAt a b=nAt B.aFD B.Top/\R.1=(⟨w.Now,w.aFW,w.aFC,(Jz w.aA B).1,(w.aFF++[p]),(i64.wrap (w.aFJ+1)),w.aFM,w.aFB,w.aFR,w.aFN⟩:M.World)/\R.2.1=w.aFJ/\R.2.2=true/\M.bC.ok p/\M.bC.sz p<=a.size+b.size+(l.length+dG M.Instr.sz l)+10/\p.Id=w.aFJ/\p.aFD=a/\p.Top=b/\p.aU=[(⟨(⟨#[105,110,100,101,120]⟩:ByteArray),p.aE3⟩:M.aU)]
def Yy (w:M.World) (q:M.aJ):M.aJ:=(⟨q.aFD,q.Top,q.aE4,q.aE6,q.bV,q.aG,w.Now,q.aFc⟩:M.aJ)
def Yt (w:M.World) (a b:ByteArray) (d:Int):M.aJ:=(⟨(Ce a b d).1.aFD,(Ce a b d).1.Top,(Ce a b d).1.aE4,(Ce a b d).1.aE6,(Ce a b d).1.bV,(Ce a b d).1.aG,w.Now,(Ce a b d).1.aFc⟩:M.aJ)
def XA (w:M.World) (a b:ByteArray) (B:M.aJ):Prop:=(∃j:Nat,∃hj:j<w.aA.aE8.length,lA (nAt a b) w.aA.aE8=(j:Int)/\B=Yy w w.aA.aE8[j])\/(∃d,inI d/\B=Yt w a b d)
theorem Oy {p:M.bC} {f:ByteArray} {x:M.aE9} (h:(BI p f x).2=true):(BI p f x).1=CT p f x.aE3/\x.aE3=p.aE3:=by unfold BI at h ⊢;by_cases h1:(x.aFm != 200)=true;(rw [if_pos h1] at h;cases h);·rw [if_neg h1] at h ⊢;by_cases h2:(x.aE3 != p.aE3)=true;(rw [if_pos h2] at h;cases h);·rw [if_neg h2] at h ⊢;by_cases h3:Bv p=true;(rw [if_pos h3] at h ⊢;by_cases h4:Bv (CT p f x.aE3)=true;(rw [if_pos h4];exact ⟨rfl,by simpa using h2⟩);·rw [if_neg h4] at h;cases h);·rw [if_neg h3] at h;cases h
theorem L9 {w:M.World} {B:M.aJ} {k:Nat} {a b:ByteArray} {l:List M.Instr} (hw:w.ok) (hn:wV w=true) (hz:M.World.sz w<=1048576) (ha:a.size<=1048576) (hb:b.size<=1048576) (hl:Cl l) (zl:l.length+dG M.Instr.sz l<=1048576) (ek:CK a=(k:Int)) (hk:k<w.aFR.length)
  (hB:B.ok) (zB:M.aJ.sz B<=4194304) (zD:M.aE5.sz B.bV.aFT<=1048576) (zC:M.aE.sz B.aE6<=1048576) (H:nAt a b=nAt B.aFD B.Top\/A6 B=false) : ∃R:M.World×Int×Bool,oS w B k a b l=some R/\(R=(w,0,false) \/ ∃p,O0 w B a b l p R):=by
 have hz':=hz
 simp only [M.World.sz] at hz'
 have z5:(⟨#[105,110,100,101,120]⟩:ByteArray).size=5:=rfl
 have m5:(⟨#[105,110,100,101,120]⟩:ByteArray).size<=maxLen:=QR _ qb
 have z2:=dV (f:=M.aFD.sz) (qG hk)
 have ht:=hw.aFR.2 _ (qG hk)
 have hpg:=hw.aFF.1
 have hv:=WW (r:=B.aE4) (s:=w.aFR[k]) (o:=w.aFW) hB.aE4 ht
 obtain ⟨r,e1,e3⟩:=Ll (c:=B.aE6) (s:=w.aFR[k]) (f:=(⟨#[105,110,100,101,120]⟩:ByteArray)) (v:=Mw B.aE4 w.aFR[k] w.aFW) (o:=w.aFW) hB.aE6 ht hv zC qb qb
 have pk:=N7 (i:=w.aFJ) (v:=Mw B.aE4 w.aFR[k] w.aFW) hw.aFJ (QR _ ha) (QR _ hb) hv hl
 have pz:=Ni w.aFJ a b (Mw B.aE4 w.aFR[k] w.aFW) l
 have lk:=JU (f:=(⟨#[105,110,100,101,120]⟩:ByteArray)) (x:=r) pk qb m5 e3.aE3
 have lz:=JP (B6 w.aFJ a b (Mw B.aE4 w.aFR[k] w.aFW) l).1 (⟨#[105,110,100,101,120]⟩:ByteArray) r
 have lid:=US (B6 w.aFJ a b (Mw B.aE4 w.aFR[k] w.aFW) l).1 (⟨#[105,110,100,101,120]⟩:ByteArray) r
 have sw:=R0 hw.aA hB (ES hz)
 have sz:=W8 w.aA B
 have sd:=V5 (b:=B) (ES hz) zD
 have no : ∃R:M.World×Int×Bool,some (w,0,false)=some R/\(R=(w,0,false) \/ ∃p,O0 w B a b l p R):=⟨(w,0,false),rfl,.inl rfl⟩
 unfold oS
 rw [Dy hw.aA hB (ES hz) qb zD,aK hk]
 simp only [qA]
 rw [H2]
 simp only [qA]
 rw [Ek hw.aFJ (QR _ ha) (QR _ hb) hv hl qb]
 simp only [qA]
 cases hP:(B6 w.aFJ a b (Mw B.aE4 w.aFR[k] w.aFW) l).2 with
 | false =>
  simp only [qC,if_true,ite_self]
  exact no
 | true =>
  have hpp:Bv (CN w.aFJ a b (Mw B.aE4 w.aFR[k] w.aFW) l)=true:=by unfold B6 at hP;split at hP;(assumption);·cases hP
  have hbp:(B6 w.aFJ a b (Mw B.aE4 w.aFR[k] w.aFW) l).1=CN w.aFJ a b (Mw B.aE4 w.aFR[k] w.aFW) l:=by unfold B6;rw [if_pos hpp]
  have hv0:(Mw B.aE4 w.aFR[k] w.aFW==0)=false:=VW hpp
  simp only [hv0,qB,qD,if_false]
  cases hp:(Jz w.aA B).2 with
  | false =>
   simp only [qC,if_true,qA,ite_self]
   exact no
  | true =>
   have e:nAt a b=nAt B.aFD B.Top:=by rcases H with H | H;(exact H);·obtain ⟨j,_,e2⟩:=N9 w.aA B;have:=XH (QL hp).2 e2;rw [H] at this;cases this
   have hA:gB (⟨w.Now,w.aFW,w.aFC,(Jz w.aA B).1,w.aFF,w.aFJ,w.aFM,w.aFB,w.aFR,w.aFN⟩:M.World) (B6 w.aFJ a b (Mw B.aE4 w.aFR[k] w.aFW) l).1 (⟨#[105,110,100,101,120]⟩:ByteArray)=some r:=by rw [Tw hw hB hz hk (by rw [hbp];exact ek) hp (by rw [hbp];exact e),hbp];exact e1
   rw [hA]
   simp only [qB,qD,if_false,qA]
   rw [CR pk qb qb m5 e3.aE3]
   simp only [qA]
   rw [dH qs]
   simp only [qA,lid]
   generalize hXe:BI (B6 w.aFJ a b (Mw B.aE4 w.aFR[k] w.aFW) l).1 (⟨#[105,110,100,101,120]⟩:ByteArray) r=X at lk lz
   cases hX:X.2 with
   | false =>
    simp only [qC,if_true]
    exact no
   | true =>
    simp only [qB,qD,if_false]
    have wo:M.World.ok (⟨w.Now,w.aFW,w.aFC,(Jz w.aA B).1,(w.aFF++[X.1]),(i64.wrap (w.aFJ+1)),w.aFM,w.aFB,w.aFR,w.aFN⟩:M.World):=⟨hw.Now,hw.aFC,sw,⟨by
     show (w.aFF++[X.1]).length<=maxLen
     rw [qE]
     exact QR _ qs,λy hy=>by
     have hy':y∈w.aFF++[X.1]:=hy
     rcases List.mem_append.1 hy' with h | h
     ·exact hw.aFF.2 y h
     ·rw [List.mem_singleton.1 h];exact lk⟩,bI _,hw.aFM,hw.aFB,hw.aFR,hw.aFN⟩
    rw [E8 wo sd]
    simp only [qA]
    generalize hc:wV _=c
    cases c with
    | false =>
     simp only [qC,if_true]
     exact no
    | true =>
     simp only [qB,qD,if_false]
     obtain ⟨y1,y2⟩:=Oy (p:=(B6 w.aFJ a b (Mw B.aE4 w.aFR[k] w.aFW) l).1) (f:=(⟨#[105,110,100,101,120]⟩:ByteArray)) (x:=r) (by rw [hXe];exact hX)
     rw [hXe,hbp] at y1
     rw [hbp] at y2
     refine ⟨_,rfl,.inr ⟨X.1,hn,hc,hp,e,rfl,?_,rfl,lk,?_,?_,?_,?_,?_⟩⟩
     ·show (B6 w.aFJ a b (Mw B.aE4 w.aFR[k] w.aFW) l).1.Id=_;rw [hbp];rfl
     ·have:=pz.1;omega
     ·rw [y1];rfl
     ·rw [y1];rfl
     ·rw [y1];rfl
     ·rw [y1];show ([]++[(⟨(⟨#[105,110,100,101,120]⟩:ByteArray),r.aE3⟩:M.aU)])=[(⟨(⟨#[105,110,100,101,120]⟩:ByteArray),(CN w.aFJ a b (Mw B.aE4 w.aFR[k] w.aFW) l).aE3⟩:M.aU)];rw [y2];rfl
theorem Wg (a b:ByteArray) (d:Int):M.aJ.sz (DE a b d)<=2*a.size+b.size+1000:=by have h3:(⟨#[97,112,112]⟩:ByteArray).size=3:=rfl;have h5:(⟨#[110,111,116,101,115]⟩:ByteArray).size=5:=rfl;simp only [DE,M.aJ.sz,M.aE4.sz,M.aE.sz,M.bV.sz,M.aE5.sz,M.aC.sz,M.aG.sz,M.aFS.sz,M.aM.sz,dG,qJ,qK,h3,h5];omega
theorem XW {w:M.World} {a b:ByteArray} {l:List M.Instr} (hw:w.ok) (hz:M.World.sz w<=1048576) (ha:a.size<=1048576) (hb:b.size<=1048576) (hl:Cl l) (zl:l.length+dG M.Instr.sz l<=1048576) : ∃R:M.World×Int×Bool,sP w a b l=some R/\(R=(w,0,false) \/ ∃B p,XA w a b B/\O0 w B a b l p R):=by
 have hz':=hz
 simp only [M.World.sz,M.aA.sz] at hz'
 have no : ∃R:M.World×Int×Bool,some (w,0,false)=some R/\(R=(w,0,false) \/ ∃B p,XA w a b B/\O0 w B a b l p R):=⟨(w,0,false),rfl,.inl rfl⟩
 unfold sP xJ
 rw [Dh w qb,AB hw hz,Ad (a:=a),Ad (a:=b)]
 simp only [qA]
 cases hn:wV w with
 | false =>
  simp only [qC,if_true]
  exact no
 | true =>
  simp only [qB,qD,if_false]
  by_cases h1:CK a<0
  ·simp only [h1,decide_true,if_true];exact no
  by_cases h2:CK b<0
  ·simp only [h1,h2,decide_true,decide_false,if_true,qD,if_false];exact no
  simp only [h1,h2,decide_false,qD,if_false]
  obtain ⟨k,ek,hk⟩:=LM h1
  have hk':k<w.aFR.length:=by rw [IX hn];exact hk
  rw [Ex (QR _ ha) (QR _ hb) (bI _),wB hw.aA]
  simp only [qA,ek]
  by_cases h:lA (nAt a b) w.aA.aE8<0
  ·have h' : ¬lA (nAt a b) w.aA.aE8>=0:=by omega
   simp only [h,h',decide_true,decide_false,if_true,qD,if_false,qA]
   have hd:=bI (i64.wrap (1000*w.aFC)+w.aFJ)
   generalize i64.wrap (i64.wrap (1000*w.aFC)+w.aFJ)=d at hd
   have ok0:=P8 (QR _ ha) (QR _ hb) hd
   suffices H : ∃R:M.World×Int×Bool,oS w (Yt w a b d) k a b l=some R/\(R=(w,0,false) \/ ∃p,O0 w (Yt w a b d) a b l p R) by obtain ⟨R,r1,r3⟩:=H;exact ⟨R,r1,r3.imp id λ⟨p,hp⟩=>⟨_,p,.inr ⟨d,hd,rfl⟩,hp⟩⟩
   refine L9 (B:=Yt w a b d) hw hn hz ha hb hl zl ek hk' ⟨ok0.aFD,ok0.Top,ok0.aE4,ok0.aE6,ok0.bV,ok0.aG,hw.Now⟩ ?_ ?_ ?_ ?_
   ·have:=Wg a b d;show M.aJ.sz (Ce a b d).1<=_;unfold Ce;split;(split;(show M.aJ.sz (DE a b d)<=_;omega);·show M.aJ.sz rZ<=4194304;decide);·show M.aJ.sz rZ<=4194304;decide
   ·show M.aE5.sz (Ce a b d).1.bV.aFT<=_;unfold Ce;split;(split;(exact PK a b d);·show M.aE5.sz rZ.bV.aFT<=1048576;decide);·show M.aE5.sz rZ.bV.aFT<=1048576;decide
   ·show M.aE.sz (Ce a b d).1.aE6<=_;unfold Ce;split;(split;(show M.aE.sz (⟨([]:List M.aFE)⟩:M.aE)<=1048576;decide);·show M.aE.sz rZ.aE6<=1048576;decide);·show M.aE.sz rZ.aE6<=1048576;decide
   ·unfold Yt
    show nAt a b=nAt (Ce a b d).1.aFD (Ce a b d).1.Top\/_
    have z : ∀n p,A6 (⟨rZ.aFD,rZ.Top,rZ.aE4,rZ.aE6,rZ.bV,rZ.aG,n,p⟩:M.aJ)=false:=λ_ _=>rfl
    unfold Ce
    split
    ·split;(exact .inl rfl);·exact .inr (z _ _)
    ·exact .inr (z _ _)
  ·obtain ⟨j,ej,hj⟩:=gD h
   have h':lA (nAt a b) w.aA.aE8>=0:=by omega
   simp only [h,h',decide_true,decide_false,if_true,qD,if_false]
   rw [ej,aK hj]
   simp only [qA,if_true]
   have hq:=hw.aA.aE8.2 _ (qG hj)
   have z1:=dV (f:=M.aJ.sz) (qG hj)
   obtain ⟨_,hf⟩:=BG ej
   generalize hqe:w.aA.aE8[j]=q at hq z1 hf
   have zq:M.aJ.sz q<=1048576:=by omega
   have z3:M.aE.sz q.aE6<=M.aJ.sz q:=by simp only [M.aJ.sz];omega
   rw [BR q qb]
   simp only [qA]
   suffices H : ∃R:M.World×Int×Bool,oS w (Yy w q) k a b l=some R/\(R=(w,0,false) \/ ∃p,O0 w (Yy w q) a b l p R) by obtain ⟨R,r1,r3⟩:=H;exact ⟨R,r1,r3.imp id λ⟨p,hp⟩=>⟨_,p,.inl ⟨j,hj,ej,by rw [hqe]⟩,hp⟩⟩
   refine L9 (B:=Yy w q) hw hn hz ha hb hl zl ek hk' ⟨hq.aFD,hq.Top,hq.aE4,hq.aE6,hq.bV,hq.aG,hw.Now⟩ ?_ (DC zq) (by show M.aE.sz q.aE6<=_;omega) (.inl ?_)
   ·show M.aJ.sz q<=_;omega
   ·funext x;unfold nAt at hf ⊢;rw [qM] at hf;show (_&&_)=((x.aFD.toList==q.aFD.toList)&&(x.Top.toList==q.Top.toList));rw [eq_of_beq hf.1,eq_of_beq hf.2]
def Yo (w:M.World) (i:Int) (R:M.World×Bool):Prop:=(((wV w=false\/FK w i<0)/\R=(w,false))\/(wV w=true /\ ∃k:Nat,k<w.aFF.length/\FK w i=(k:Int)/\R=((⟨w.Now,w.aFW,w.aFC,w.aA,w.aFF.take k++w.aFF.drop (k+1),w.aFJ,Tv w.aFM i,N3 w.aFB i,w.aFR,w.aFN⟩,true):M.World×Bool)))
theorem Vj {w:M.World} {i:Int} (hw:w.ok) (hz:M.World.sz w<=1048576) : ∃R:M.World×Bool,tT w i=some R/\Yo w i R:=by
 have hz':=hz
 simp only [M.World.sz] at hz'
 have hll:w.aFM.aFM.length<=M.aR.sz w.aFM:=by simp only [M.aR.sz];omega
 have hmm:w.aFB.aFa.length<=M.aFB.sz w.aFB:=by simp only [M.aFB.sz];omega
 unfold tT
 rw [Dh w qb,qA,B9 hw,qA,AB hw hz,qA]
 cases hn:wV w with
 | false=>exact ⟨(w,false),qd,.inl ⟨.inl hn,rfl⟩⟩
 | true =>
  simp only [qB,qD,if_false]
  by_cases h:FK w i<0
  ·simp only [h,decide_true,if_true];exact ⟨(w,false),rfl,.inl ⟨.inr h,rfl⟩⟩
  ·obtain ⟨k,e,hk⟩:=gD (show ¬lA (λp:M.bC=>p.Id==i) w.aFF<0 from h);simp only [h,decide_false,qD,if_false];rw [show FK w i=(k:Int) from e,Cb qb,qA,bE qb,JX qb,qA,qH,qH,dH (by simp only [qT,qU];omega),qA,Gp qb qb,qA,JF qb];simp only [qA];exact ⟨(⟨w.Now,w.aFW,w.aFC,w.aA,w.aFF.take k++w.aFF.drop (k+1),w.aFJ,Tv w.aFM i,N3 w.aFB i,w.aFR,w.aFN⟩,true),rfl,.inr ⟨hn,k,hk,e,rfl⟩⟩
def aAE (w:M.World) (i:Int) (f:ByteArray) (R:M.World×Int):Prop:=(((wV w=false\/FK w i<0)/\R=(w,-1))\/(wV w=true /\ ∃k:Nat,∃r:M.aE9,∃hk:k<w.aFF.length,FK w i=(k:Int)/\R=((⟨w.Now,w.aFW,w.aFC,w.aA,w.aFF.set k (BI w.aFF[k] f r).1,w.aFJ,w.aFM,w.aFB,w.aFR,w.aFN⟩,r.aFm):M.World×Int)))
theorem XG {w:M.World} {i:Int} {f:ByteArray} (hw:w.ok) (hf:f.size<=1048576) (hz:M.World.sz w<=1048576) : ∃R:M.World×Int,tA w i f=some R/\tD w i f=some R/\R.1.ok/\aAE w i f R:=by
 have hz':=hz
 simp only [M.World.sz] at hz'
 unfold tA tD
 rw [Dh w qb,Eu w qb,qA,qA,B9 hw,El hw,qA,qA,AB hw hz,F6 hw hz,qA,qA]
 cases hn:wV w with
 | false=>exact ⟨(w,-1),qd,qd,hw,.inl ⟨.inl hn,rfl⟩⟩
 | true =>
  simp only [qB,qD,if_false]
  by_cases h:FK w i<0
  ·simp only [h,decide_true,if_true];exact ⟨(w,-1),rfl,rfl,hw,.inl ⟨.inr h,rfl⟩⟩
  ·obtain ⟨k,e,hk⟩:=gD (show ¬lA (λp:M.bC=>p.Id==i) w.aFF<0 from h)
   simp only [h,decide_false,qD,if_false]
   have hy:=dV (f:=M.bC.sz) (qG hk)
   have hy2:w.aFF[k].aU.length<=M.bC.sz w.aFF[k]:=by simp only [M.bC.sz];omega
   have hp:=hw.aFF.2 _ (qG hk)
   have hfm:f.size<=maxLen:=by unfold maxLen;omega
   obtain ⟨r,e1,e2,e3⟩:=V0 (f:=f) hw hp hn hz hf
   rw [show FK w i=(k:Int) from e,aK hk]
   simp only [qA]
   rw [e1,e2,qA,qA,CR hp qb qb hfm e3.aE3,KQ hp qb qb hfm e3.aE3,qA,qA,qH]
   have ok:=JU (x:=r) hp qb hfm e3.aE3
   have sz:=JP w.aFF[k] f r
   have hq:=Ft (f:=M.bC.sz) (x:=(BI w.aFF[k] f r).1) (l:=w.aFF) (i:=k)
   refine ⟨(⟨w.Now,w.aFW,w.aFC,w.aA,w.aFF.set k (BI w.aFF[k] f r).1,w.aFJ,w.aFM,w.aFB,w.aFR,w.aFN⟩,r.aFm),?_,rfl,⟨hw.Now,hw.aFC,hw.aA,⟨by simpa using hw.aFF.1,λy hy => ?_⟩,hw.aFJ,hw.aFM,hw.aFB,hw.aFR,hw.aFN⟩,.inr ⟨hn,k,r,hk,e,rfl⟩⟩
   ·cases hb:(BI w.aFF[k] f r).2 with
    | true=>rfl
    | false=>rw [LY hb,List.set_getElem_self];rfl
   ·rcases List.mem_or_eq_of_mem_set hy with hy | rfl;(exact hw.aFF.2 _ hy);·exact ok
theorem LU {α:Type} {f:α->Nat} {x:α} : ∀ {l:List α} {i:Nat} (h:i<l.length),dG f (l.set i x)+f l[i]=dG f l+f x
 | [],_,h=>absurd h qd
 | y::l,0,_=>by simp only [List.set_cons_zero,dG,List.getElem_cons_zero];omega
 | y::l,i+1,h=>by have:=LU (f:=f) (x:=x) (l:=l) (i:=i) (by simpa using h);simp only [List.set_cons_succ,dG,List.getElem_cons_succ];omega
def bkJ (x:M.aJ):Prop:=x.aFD.size<=16/\x.Top.size<=16/\M.aJ.ok x
def stG (m Z:Nat) (s:M.aA):Prop:=s.aE8.length<=m/\(∀b∈s.aE8,bkJ b)/\dG M.aJ.sz s.aE8<=Z
theorem stG.mono {m n Y Z:Nat} {s:M.aA} (h:stG m Y s) (h1:m<=n) (h2:Y<=Z):stG n Z s:=⟨Nat.le_trans h.1 h1,h.2.1,Nat.le_trans h.2.2 h2⟩
end Go.Proofs.YtipmihbgjolaaaaGreat.gen
