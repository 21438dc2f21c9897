/-
  Helper text. No conditions.
-/
import Derived.Test.YtidhkhdnjonjfaaGreatBucketsPd5
set_option linter.unusedVariables false
set_option linter.unusedSimpArgs false
namespace Go.Proofs.YtidhkhdnjonjfaaGreat.gen
open Go Go.Sh
theorem aNw {n:Nat} {r:M.aD} {s:M.Server} (h:rpI r) (hs:svI n s) (hn:n≤900) : ∃x,nN r s=some x∧rpI x.1:=by
 have hc:=hs.2.2.2.1
 unfold nN
 rw [yO _ (by have:=h.sz;omega),qA,tI h.ok,qA]
 cases hR:vA r
 ·exact ⟨_,rfl,h⟩
 rw [if_neg (by simp),xJ (hs.ok (by omega)),qA]
 cases aEP s
 ·exact ⟨_,rfl,h⟩
 rw [if_neg (by simp)]
 by_cases hgt:r.Seen>(s.Changes.length:Int)
 ·rw [if_pos (by simpa using hgt)];exact ⟨_,rfl,h⟩
 rw [if_neg (by simpa using hgt)]
 unfold vA inR at hR
 simp only [qM,qL] at hR
 obtain ⟨k,ek⟩:=xM hR.2.2.1.1
 rw [ek] at hgt ⊢
 have hbs:=lK hR.1
 have hd : ∀w∈List.drop k s.Changes,M.aT.ok w:=fun w hw=>(hs.2.2.2.2 w (List.mem_of_mem_drop hw)).1
 obtain ⟨a1,a2⟩:=aOh h.1 hR.1 hd
 obtain ⟨v,ev,hv⟩:=aD2 (s:=s) (d:=r.Sync.aG.Device) hs.2.2.1
 obtain ⟨y,ey,y1,_⟩:=aK6 (q:=v) h.2.2.2.1
 rw [aFn (by omega),qA,qH,aAa h.1 (ml (by rw [qU];omega)) hd (by omega),qA,ev,qA,ey,qA]
 exact ⟨_,rfl,a1,lK a2,bgI (by dsimp only;omega),y1,h.2.2.2.2.1,h.2.2.2.2.2⟩
theorem aPN {a c:Int} (ha:inI a) (hc:inI c) : ∃r,eS a c=some r∧inI r:=by
 unfold eS
 split
 ·exact ⟨_,rfl,hc⟩
 ·exact ⟨_,rfl,ha⟩
theorem aQV {c:Int} : ∃r,eS 60 c=some r∧r≤60∧(inI c→inI r):=by
 unfold eS
 split
 ·rename_i h;exact ⟨_,rfl,by have:=of_decide_eq_true h;omega,fun h=>h⟩
 ·exact ⟨_,rfl,by omega,fun _=>bgI (by (try dsimp only);omega)⟩
theorem aN9 {t:Int} (ht:t≤60) : ∃r,eZ t=some r:=by
 have key : ∀(n k:Nat) (v:Int),100-k<n→k≤99 → ∃r,jT t n v (k:Int)=some r:=by
  intro n
  induction n with
  | zero=>intro k v h _;omega
  | succ n ih =>
   intro k v hn hk
   simp only [jT]
   split
   ·rename_i h
    have:=of_decide_eq_true h
    split
    ·rw [cU (by omega)]
     exact ih (k+1) _ (by omega) (by omega)
    ·exact ⟨_,rfl⟩
   ·exact ⟨_,rfl⟩
 exact key fuel 0 1 (mD (by omega)) (by omega)
def Op' {α:Type} (P:α→Prop) (o:Option α):Prop:=∃r,o=some r∧P r
theorem Op'.bnd {α β:Type} {P:β→Prop} {Q:α→Prop} {o:Option α} {f:α→Option β} (ho : ∃r,o=some r∧Q r) (hf : ∀r,Q r→Op' P (f r)):Op' P (o.bind f):=by
 obtain ⟨r,rfl,hq⟩:=ho
 exact hf r hq
def syI (n:Nat) (x:M.Sync×M.Server×Int):Prop:=obI x.1.aG∧inI x.1.Tries∧inI x.1.WaitUntil∧svI n x.2.1
theorem aOo {n:Nat} {y:M.Sync} {s:M.Server} {now fate:Int} (hy:obI y.aG) (ht:inI y.Tries) (hw:inI y.WaitUntil) (hs:svI n s) (hn:n≤800):Op' (syI (n+2)) (rR y s now fate):=by
 have hs1:=hs.mono (Nat.le_succ n)
 have hs2:=hs.mono (show n≤n+2 by omega)
 have hz:=hy.sz
 have ack : ∀ {q:Int},∃x,cA y.aG q=some x∧obI x.1:=fun {q}=>by
  obtain ⟨x,e,h,_⟩:=aK6 (q:=q) hy
  exact ⟨x,e,h⟩
 have fail : ∀ {x:M.Server} {f:Int→Option (M.Sync×M.Server×Int)},svI (n+2) x→(f=fun x54=>((eS 60 (IntKind.i64.wrap (x54+1))).bind fun x56=>((eZ x56).bind fun x58=>(some ((⟨y.aG,x56,(IntKind.i64.wrap (now+x58))⟩:M.Sync),x,2)))))→Op' (syI (n+2)) ((eS 59 y.Tries).bind f):=by
  intro x f hx hf
  subst hf
  refine .bnd (aPN (bgI (by (try dsimp only);omega)) ht) fun t1 h1=>.bnd aQV fun t2 h2 => ?_
  obtain ⟨r,er⟩:=aN9 h2.1
  rw [er,qA]
  exact ⟨_,rfl,hy,h2.2 (cJ _),cJ _,hx⟩
 unfold rR nU sH
 rw [uY _ (by omega),qA,qA,aKX hs (by omega),kH hy.ok]
 have same:syI (n+2) (y,s,0):=⟨hy,ht,hw,hs2⟩
 cases hW:y.aG.Writes with
 | nil=>exact ⟨_,rfl,same⟩
 | cons w ws =>
  have hww:wsm w:=hy.2.2.2 w (by rw [hW];simp)
  rw [if_neg (by simp;omega),show idx (w::ws) 0=some w from rfl]
  simp only [qA]
  rw [if_neg (by simp)]
  cases lL y.aG
  ·exact ⟨_,rfl,same⟩
  rw [if_neg (by simp)]
  split
  ·exact ⟨_,rfl,same⟩
  rw [dQ,qA]
  split
  ·exact ⟨_,rfl,same⟩
  have good : ∀ {x:M.Sync×M.Server×Int},obI x.1.aG→inI x.1.Tries→inI x.1.WaitUntil→svI (n+2) x.2.1→Op' (syI (n+2)) (some x):=fun a1 a2 a3 a4=>⟨_,rfl,a1,a2,a3,a4⟩
  have two : ∀ {a:M.Server} {c:Int},svI (n+1) a→svI (n+2) a:=fun h=>h.mono (by omega)
  split
  ·refine .bnd (recv hs (by omega) hww) fun x1 h1 => ?_
   split
   ·refine .bnd (recv h1 (by omega) hww) fun x2 h2 => ?_
    split
    ·exact .bnd ack fun q hq=>good hq rG rG h2
    split
    ·exact .bnd ack fun q hq=>good hq rG rG h2
    ·exact fail h2 rfl
   ·split
    ·exact .bnd ack fun q hq=>good hq rG rG (h1.mono (by omega))
    split
    ·exact .bnd ack fun q hq=>good hq rG rG (h1.mono (by omega))
    ·exact fail (h1.mono (by omega)) rfl
  split
  ·refine .bnd (recv hs (by omega) hww) fun x1 h1 => ?_
   split
   ·refine .bnd (recv h1 (by omega) hww) fun x2 h2 => ?_
    split
    ·exact .bnd ack fun q hq=>good hq rG rG h2
    split
    ·exact .bnd ack fun q hq=>good hq rG rG h2
    ·exact fail h2 rfl
   ·exact fail (h1.mono (by omega)) rfl
  split
  ·refine .bnd (recv hs (by omega) hww) fun x1 h1=>.bnd (recv h1 (by omega) hww) fun x2 h2 => ?_
   split
   ·exact .bnd ack fun q hq=>good hq rG rG h2
   split
   ·exact .bnd ack fun q hq=>good hq rG rG h2
   ·exact fail h2 rfl
  ·exact fail hs2 rfl
def prI (n:Nat) (x:M.aD×M.Server):Prop:=rpI x.1∧svI n x.2
theorem aLs {b:List Int} {i h:Int} (c0:okC b i h):Dr b (prI 20) (tH (⟨b,i,h⟩:M.aK)):=by
 unfold tH
 refine .bnd (aIP c0) fun i0 v0 s0 c00 q0=>.aBq (aPM q0 (by omega) (bgI (by (try dsimp only);omega))) fun r0 h0=>.bnd (aR c00) fun i1 v1 r1 c1 q1 => ?_
 obtain ⟨N,rfl⟩:=xM q1.1
 have hN:=q1.2.1 (by omega)
 refine wI (L:=fun n v (s:(M.aD×M.Server)×Int×Int)=>dR (⟨b,i,h⟩:M.aK) n v s.1.1.Base.Name s.1.1.Base.Auto s.1.1.Seen s.1.1.Sync.aG.Device s.1.1.Sync.aG.Next s.1.1.Sync.Tries s.1.1.Sync.WaitUntil s.2.1 s.2.2 s.1.2.aA.Name s.1.2.aA.Auto s.1.1.Base.Items s.1.1.Sync.aG.Writes s.1.2.aA.Items s.1.2.aP s.1.2.Changes) (I:=fun k s=>k≤100000∧okC b s.2.1 s.2.2∧k≤5∧prI (15-2*k) s.1) (Q:=Dr b (prI 20)) (fun n k s hi ih => ?_) (fun n s hi => ?_) fuel N ((r0.1,s0),i1,v1) (mD (by omega)) ⟨by omega,c1,⟨by omega,h0,q0.mono (by omega)⟩⟩
 ·obtain ⟨x,ci,ch⟩:=s
  obtain ⟨k0,k1,k2⟩:=hi
  dsimp only at k1 k2
  simp only [dR]
  rw [if_pos (aKl k),aEm k0]
  obtain ⟨k2,k3,k4⟩:=k2
  rw [show (⟨(⟨x.1.Base.Name,x.1.Base.Items,x.1.Base.Auto⟩:M.aA),x.1.Seen,(⟨(⟨x.1.Sync.aG.Device,x.1.Sync.aG.Next,x.1.Sync.aG.Writes⟩:M.aG),x.1.Sync.Tries,x.1.Sync.WaitUntil⟩:M.Sync)⟩:M.aD)=x.1 from rfl,show (⟨(⟨x.2.aA.Name,x.2.aA.Items,x.2.aA.Auto⟩:M.aA),x.2.aP,x.2.Changes⟩:M.Server)=x.2 from rfl]
  refine .bnd (aR k1) fun i3 v3 r3 c3 q3 => ?_
  dsimp only
  split
  ·refine .bnd (rN c3) fun i4 v4 r4 c4 q4=>.bnd (wU c4) fun i5 v5 r5 c5 q5=>.bnd (aR c5) fun i6 v6 r6 c6 q6=>.aBq (aGD k3 q4.any (Nat.le_trans q5 (by omega)) (bgI (aNa q6))) fun y hy => ?_
   exact ih ((y.1,x.2),i6,v6) ⟨by omega,c6,by omega,hy,k4.mono (by omega)⟩
  split
  ·refine .bnd (rN c3) fun i4 v4 r4 c4 q4=>.bnd (wU c4) fun i5 v5 r5 c5 q5=>.bnd (aR c5) fun i6 v6 r6 c6 q6=>.aBq (aGD k3 q4.any (Nat.le_trans q5 (by omega)) (bgI (aNa q6))) fun y hy => ?_
   exact ih ((y.1,x.2),i6,v6) ⟨by omega,c6,by omega,hy,k4.mono (by omega)⟩
  split
  ·refine .bnd (aR c3) fun i4 v4 r4 c4 q4=>.aBq (aOo (y:=x.1.Sync) k3.2.2.2.1 k3.2.2.2.2.1 k3.2.2.2.2.2 k4 (by omega)) fun y hy => ?_
   exact ih (((⟨x.1.Base,x.1.Seen,y.1⟩:M.aD),y.2.1),i4,v4) ⟨by omega,c4,by omega,⟨k3.1,k3.2.1,k3.2.2.1,hy.1,hy.2.1,hy.2.2.1⟩,hy.2.2.2.mono (by omega)⟩
  split
  ·refine .bnd (aR c3) fun i4 v4 r4 c4 q4=>.aBq (aD2 k4.2.2.1) fun v hv=>.bnd (rN c4) fun i5 v5 r5 c5 q5=>.bnd (wU c5) fun i6 v6 r6 c6 q6=>.bnd (aR c6) fun i7 v7 r7 c7 q7=>.aBq (recv k4 (by omega) (aIT (cJ _) (cJ _) q5.any (Nat.le_trans q6 (by omega)) (bgI (aNa q7)))) fun y hy => ?_
   exact ih ((x.1,y.1),i7,v7) ⟨by omega,c7,by omega,k3,hy.mono (by omega)⟩
  ·refine .aBq (aNw k3 k4 (by omega)) fun y hy => ?_
   exact ih ((y.1,x.2),i3,v3) ⟨by omega,c3,by omega,hy,k4.mono (by omega)⟩
 ·obtain ⟨x,ci,ch⟩:=s
  obtain ⟨k0,k1,k2⟩:=hi
  dsimp only at k1 k2
  simp only [dR]
  rw [if_neg aES]
  exact .ret k1 ⟨k2.2.1,k2.2.2.mono (by omega)⟩
def aMP (r:M.aD):Prop:=r.ok∧M.aD.sz r≤25000
theorem rpI.all {r:M.aD} (h:rpI r):aMP r:=⟨h.ok,by have:=h.sz;omega⟩
theorem aMN {b:List Int} {i h:Int} (c0:okC b i h):Dr b aMP (uH (⟨b,i,h⟩:M.aK)):=by
 unfold uH
 refine .bnd (aLs c0) fun i1 v1 r1 c1 q1=>.bnd (aR c1) fun i2 v2 r2 c2 q2 => ?_
 dsimp only
 have hr:=q1.1
 have hz:=hr.2.2.2.1.sz
 have hz1:=hr.2.1
 split
 ·refine .bnd (aOW c2) fun i3 v3 r3 c3 q3=>.ret c3 ⟨⟨q3.1,hr.2.2.1,hr.ok.Sync⟩,?_⟩
  have:=q3.2
  simp only [M.aD.sz,M.Sync.sz]
  omega
 split
 ·refine .bnd (rT (fun x => -1000000000000000≤x∧x≤1000000000000000) (by decide) (by decide) c2) fun i3 v3 r3 c3 q3=>.ret c3 ⟨⟨hr.1,bgI q3,hr.ok.Sync⟩,?_⟩
  simp only [M.aD.sz,M.Sync.sz]
  omega
 split
 ·refine .bnd (aMj c2) fun i3 v3 r3 c3 q3=>.ret c3 ⟨⟨hr.1,hr.2.2.1,⟨q3.ok,hr.2.2.2.2.1,hr.2.2.2.2.2⟩⟩,?_⟩
  have:=q3.sz
  simp only [M.aD.sz,M.Sync.sz]
  omega
 ·exact .ret c2 hr.all
def nbI (x:M.Bucket):Prop:=x.Site.size≤16∧x.Top.size≤16∧(M.Registration.ok x.Registration∧x.Registration.Site.size≤16)∧wP x.Caches∧(x.bF.ok∧M.bF.sz x.bF≤1000)∧rpI x.aD∧inI x.LastUsed
theorem aIm:aJ6 (⟨(⟨#[110,111,116,101,115]⟩:ByteArray),([]:List M.Item),0⟩:M.aA):=aNf (by decide) (by decide)
theorem aPf {a t:ByteArray} {d:Int} (ha:a.size≤16) (ht:t.size≤16) (hd:inI d) : ∃x,mQ a t d=some x∧nbI x.1:=by
 refine ⟨_,aDt (s16 ha) (s16 ht) hd,?_⟩
 have hz:nbI sK:=⟨by decide,by decide,⟨⟨s16 (by decide),rG,rG,rG⟩,by decide⟩,aLU,⟨(aEC).bF,by decide⟩,aGX,rG⟩
 unfold aDr
 split
 ·split
  ·have ok:=aDy (s16 ha) (s16 ht) hd
   exact ⟨ha,ht,⟨ok.Registration,ha⟩,aLU,⟨ok.bF,by show M.bF.sz (aAM (⟨#[]⟩:ByteArray) (⟨#[]⟩:ByteArray) 0).bF≤1000;decide⟩,⟨aIm.1,lK aIm.2.1,rG,aHW hd aJ4,rG,rG⟩,rG⟩
  ·exact hz
 ·exact hz
def bkI (x:M.Bucket):Prop:=x.Site.size≤16∧x.Top.size≤16∧(M.Registration.ok x.Registration∧x.Registration.Site.size≤16)∧aFI x.Caches∧aGb x.bF∧aMP x.aD∧inI x.LastUsed
theorem bkI.ok {x:M.Bucket} (h:bkI x):x.ok:=⟨s16 h.1,s16 h.2.1,h.2.2.1.1,h.2.2.2.1.1,h.2.2.2.2.1.1,h.2.2.2.2.2.1.1,h.2.2.2.2.2.2⟩
theorem bkI.sz {x:M.Bucket} (h:bkI x):M.Bucket.sz x≤180000:=by
 obtain ⟨h1,h2,⟨_,h3⟩,⟨_,h4⟩,⟨_,h5⟩,⟨_,h6⟩,_⟩:=h
 simp only [M.Bucket.sz,M.Registration.sz]
 omega
def aIl (k:M.bF):Prop:=k.ok∧M.bF.sz k≤20000
def bkS (x:M.Bucket):Prop:=x.Site.size≤16∧x.Top.size≤16∧(M.Registration.ok x.Registration∧x.Registration.Site.size≤16)∧aFI x.Caches∧aIl x.bF∧aMP x.aD∧inI x.LastUsed
theorem aIl.all {k:M.bF} (h:aIl k):aGb k:=⟨h.1,by have:=h.2;omega⟩
theorem bkS.all {x:M.Bucket} (h:bkS x):bkI x:=⟨h.1,h.2.1,h.2.2.1,h.2.2.2.1,h.2.2.2.2.1.all,h.2.2.2.2.2⟩
theorem aQw {b:List Int} {i h:Int} {X:M.Bucket×Bool} {kd:M.bF} {N:Nat} {i1 v1:Int} (hX:nbI X.1) (hk:aIl kd) (hN:N≤10) (c1:okC b i1 v1):Dr b bkS (dX (⟨b,i,h⟩:M.aK) X kd.Base.Name kd.Base.Version kd.Count kd.Base.Stores kd.Base.Unique kd.Log fuel (N:Int) X.1.aD.Base.Name X.1.aD.Base.Auto X.1.aD.Seen X.1.aD.Sync.aG.Device X.1.aD.Sync.aG.Next X.1.aD.Sync.Tries X.1.aD.Sync.WaitUntil i1 v1 X.1.aD.Base.Items X.1.aD.Sync.aG.Writes):=by
 obtain ⟨h1,h2,h3,h4,h5,h6,h7⟩:=hX
 refine wI (L:=fun n v (s:(M.aD)×Int×Int)=>dX (⟨b,i,h⟩:M.aK) X kd.Base.Name kd.Base.Version kd.Count kd.Base.Stores kd.Base.Unique kd.Log n v s.1.Base.Name s.1.Base.Auto s.1.Seen s.1.Sync.aG.Device s.1.Sync.aG.Next s.1.Sync.Tries s.1.Sync.WaitUntil s.2.1 s.2.2 s.1.Base.Items s.1.Sync.aG.Writes) (I:=fun k s=>k≤100000∧okC b s.2.1 s.2.2∧rpI s.1) (Q:=Dr b bkS) (fun n k s hi ih => ?_) (fun n s hi => ?_) fuel N (X.1.aD,i1,v1) (mD (by omega)) ⟨by omega,c1,h6⟩
 ·obtain ⟨x,ci,ch⟩:=s
  obtain ⟨k0,k1,k2⟩:=hi
  dsimp only at k1 k2
  simp only [dX]
  rw [if_pos (aKl k),aEm k0]
  refine .bnd (rN k1) fun i3 v3 r3 c3 q3=>.bnd (wU c3) fun i4 v4 r4 c4 q4=>.bnd (aR c4) fun i5 v5 r5 c5 q5=>.aBq (aGD (r:=x) k2 q3.any (Nat.le_trans q4 (by omega)) (bgI (aNa q5))) fun y hy => ?_
  exact ih (y.1,i5,v5) ⟨by omega,c5,hy⟩
 ·obtain ⟨x,ci,ch⟩:=s
  obtain ⟨k0,k1,k2⟩:=hi
  dsimp only at k1 k2
  simp only [dX]
  rw [if_neg aES]
  have hkD:=hk
  have hl : ∀ {r:Int},(0≤r∧(0<(50:Int)→r<50)∧r≤16777215)→inI r:=fun q=>bgI ⟨by omega,by omega⟩
  refine .bnd (rC k1) fun i3 v3 r3 c3 q3 => ?_
  dsimp only
  split
  ·refine .bnd (aR c3) fun i4 v4 r4 c4 q4=>.aBq (aF7 h4 (cJ _)) fun y hy=>.bnd (aR c4) fun i5 v5 r5 c5 q5=>.bnd (rC c5) fun i6 v6 r6 c6 q6=>.ret c6 ⟨h1,h2,⟨⟨h3.1.Site,h3.1.Installing,h3.1.Waiting,cJ _⟩,h3.2⟩,hy.all,hkD,k2.all,hl q5⟩
  ·exact .bnd (aR c3) fun i5 v5 r5 c5 q5=>.bnd (rC c5) fun i6 v6 r6 c6 q6=>.ret c6 ⟨h1,h2,h3,h4.all,hkD,k2.all,hl q5⟩
theorem aQc {b:List Int} {i h:Int} {X:M.Bucket×Bool} {N:Nat} {i1 v1:Int} (hX:nbI X.1) (hN:N≤4) (c1:okC b i1 v1):Dr b bkS (dZ (⟨b,i,h⟩:M.aK) X fuel (N:Int) X.1.bF.Base.Name X.1.bF.Base.Version X.1.bF.Count i1 v1 X.1.bF.Base.Stores X.1.bF.Base.Unique X.1.bF.Log):=by
 have h5:=hX.2.2.2.2.1
 refine wI (L:=fun n v (s:(M.bF)×Int×Int)=>dZ (⟨b,i,h⟩:M.aK) X n v s.1.Base.Name s.1.Base.Version s.1.Count s.2.1 s.2.2 s.1.Base.Stores s.1.Base.Unique s.1.Log) (I:=fun k s=>k≤100000∧okC b s.2.1 s.2.2∧s.1.ok∧M.bF.sz s.1+4000*k≤20000) (Q:=Dr b bkS) (fun n k s hi ih => ?_) (fun n s hi => ?_) fuel N (X.1.bF,i1,v1) (mD (by omega)) ⟨by omega,c1,⟨h5.1,by have:=h5.2;dsimp only;omega⟩⟩
 ·obtain ⟨x,ci,ch⟩:=s
  obtain ⟨k0,k1,k2⟩:=hi
  dsimp only at k1 k2
  simp only [dZ]
  rw [if_pos (aKl k),aEm k0]
  refine .bnd (rN k1) fun i3 v3 r3 c3 q3=>.bnd (xE c3) fun i4 v4 r4 c4 q4=>.aBq (aHX (k:=x) (n:=M.bF.sz x) k2.1 (Nat.le_refl _) (by have:=k2.2;omega) (by simp) (by simp only [List.mem_cons,qO,or_false];rintro o rfl;exact ⟨aJ4,s16 (s:=(⟨#[110,111,116,101,115]⟩:ByteArray)) (by decide),q3.any.1,q4.1,s16 (s:=(⟨#[]⟩:ByteArray)) (by decide)⟩)) fun y hy => ?_
  exact ih (y.1,i4,v4) ⟨by omega,c4,hy.1,by have:=hy.2;have:=k2.2;dsimp only;omega⟩
 ·obtain ⟨x,ci,ch⟩:=s
  obtain ⟨k0,k1,k2⟩:=hi
  dsimp only at k1 k2
  simp only [dZ]
  rw [if_neg aES]
  refine .bnd (aR k1) fun i3 v3 r3 c3 q3 => ?_
  obtain ⟨M,rfl⟩:=xM q3.1
  have hM:=q3.2.1 (by omega)
  exact aQw hX (kd:=x) ⟨k2.1,by have:=k2.2;omega⟩ (by omega) c3
theorem aHr {b:List Int} {i h:Int} (c0:okC b i h):Dr b bkS (pP (⟨b,i,h⟩:M.aK)):=by
 unfold pP
 refine .bnd (aBv c0) fun i1 v1 r1 c1 q1=>.aBq (aQr c1 q1) fun y hy=>.bnd (aR hy.2) fun i4 v4 r4 c4 q4=>.aBq (aPf (Nat.le_trans q1 (by omega)) (Nat.le_trans hy.1 (by omega)) (cJ _)) fun x hx=>.bnd (aR c4) fun i5 v5 r5 c5 q5 => ?_
 obtain ⟨N,rfl⟩:=xM q5.1
 have hN:=q5.2.1 (by omega)
 exact aQc hx (by omega) c5
theorem aI2 {b:List Int} {i h:Int} (c0:okC b i h):Dr b bkI (sE (⟨b,i,h⟩:M.aK)):=by
 unfold sE
 refine .bnd (aHr c0) fun i1 v1 r1 c1 q1=>.bnd (aR c1) fun i2 v2 r2 c2 q2 => ?_
 have q0:=q1.all
 obtain ⟨h1,h2,h3,h4,h5,h6,h7⟩:=q1
 have h5a:=h5.all
 dsimp only
 split
 ·exact .bnd (yQ (fun s=>s.size≤16) (by decide) (by decide) c2) fun i3 v3 r3 c3 q3=>.ret c3 ⟨q3,h2,h3,h4,h5a,h6,h7⟩
 split
 ·exact .bnd (aId c2) fun i3 v3 r3 c3 q3=>.ret c3 ⟨h1,h2,h3,q3,h5a,h6,h7⟩
 split
 ·exact .bnd (aJD c2) fun i3 v3 r3 c3 q3=>.ret c3 ⟨h1,h2,h3,h4,q3,h6,h7⟩
 split
 ·exact .bnd (aMN c2) fun i3 v3 r3 c3 q3=>.ret c3 ⟨h1,h2,h3,h4,h5a,q3,h7⟩
 split
 ·exact .bnd (rT (fun x => -1000000000000000≤x∧x≤1000000000000000) (by decide) (by decide) c2) fun i3 v3 r3 c3 q3=>.ret c3 ⟨h1,h2,h3,h4,h5a,h6,bgI q3⟩
 split
 ·have hz:=h5.2
  simp only [M.bF.sz] at hz
  have key : ∀(n:Nat) (l:List Int),100000<n+l.length→okB l→l.length≤20000→Dr b bkI (jC (i1,v1,r1) (i2,v2,r2) n l):=by
   intro n
   induction n with
   | zero=>intro l h _ hz2;exact absurd h (by omega)
   | succ n ih =>
    intro l hn hl hz2
    have e1:(l++[(0:Int)]).length=l.length+1:=by rw [qE];rfl
    simp only [jC]
    by_cases h6':(l.length:Int)<2600
    ·have h7':l.length<2600:=by omega
     rw [if_pos (decide_eq_true h6'),yH (by show l.length+1≤_;omega) (by omega),qA]
     refine ih (l++[0]) (by omega) ⟨ml (by omega),fun x hx => ?_⟩ (by omega)
     rcases List.mem_append.1 hx with hx | hx
     ·exact hl.2 x hx
     ·rw [List.mem_singleton.1 hx];exact ⟨Int.le_refl _,by decide⟩
    ·rw [if_neg (by rw [decide_eq_false h6'];exact Bool.false_ne_true)]
     exact .ret c2 ⟨h1,h2,h3,h4,⟨⟨h5.1.Base,hl,h5.1.Count⟩,by show M.Database.sz r1.bF.Base+l.length≤80000;omega⟩,h6,h7⟩
  exact key fuel r1.bF.Log (Nat.lt_of_lt_of_le (mD (k:=100000) (by omega)) (Nat.le_add_right _ _)) h5.1.Log (by omega)
 ·exact .ret c2 q0
theorem jn {α β:Type} {o:Option α} {v:α} {f:α→Option β} {r:Option β} (h1:o=some v) (h2:f v=r):o.bind f=r:=by rw [h1];exact h2
theorem aPK {l:List Int} {i:Int} (hl:l.length≤1048576) (hb : ∀b∈l,0≤b∧b≤255) (h0:0≤i) (h3:i≤3) : ∃a,aAq l i=some a∧0≤a∧a≤255:=by
 unfold aAq
 by_cases h:i<(l.length:Int)
 ·rw [if_pos (by simpa using h)]
  have hi:i.toNat<l.length:=by omega
  have hm:=hb _ (qG hi)
  have e:idx l i=some l[i.toNat]:=by
   unfold idx
   rw [if_pos h0,qF hi]
  rw [e,qA,bO (by omega) (by omega)]
  exact ⟨_,rfl,hm⟩
 ·rw [if_neg (by simpa using h),bO (n:=i*31) (by omega) (by omega),bO (n:=(l.length:Int)*7) (by omega) (by omega),bO (by omega) (by omega)]
  refine ⟨_,rfl,?_⟩
  rw [Int.tmod_eq_emod_of_nonneg (by omega)];omega
theorem vE {α:Type} {f:α→α→Bool} (hf : ∀x,f x x=true) : ∀l:List α,eqL f l l=true
 | []=>rfl
 | x::l=>by simp only [eqL,hf x,vE hf l,Bool.and_self]
theorem aFE (x:M.Response):aAm x x=true:=by simp [aAm,vE (f:=uA) (fun x=>by simp [uA])]
theorem aFD (x:M.aE):aB8 x x=true:=vE (fun c=>by simp [aG2,vE (f:=aCX) (fun y=>by simp [aCX,aFE])]) _
theorem aGr (x:M.aC):aFu x x=true:=vE (fun y=>by simp [aD3]) _
theorem aEo (x:M.aA):aDM x x=true:=by simp [aDM,aPu,vE (f:=aJ1) (fun y=>by simp [aJ1,aPu,aGr])]
theorem aEz (x:M.Database):aAc x x=true:=by simp [aAc,vE (f:=aDM) aEo,vE (f:=xS) (fun y=>by simp [xS])]
theorem aJl (x:M.bF):aK5 x x=true:=by simp [aK5,aEz,vE (f:=uA) (fun x=>by simp [uA])]
theorem aHC (x:M.aG):aEf x x=true:=by simp [aEf,vE (f:=aCI) (fun y=>by simp [aCI])]
theorem aFq (x:M.aD):aCL x x=true:=by simp [aCL,aM5,aEo,aHC]
theorem aDP (x:M.Bucket):aGP x x=true:=by simp [aGP,aQq,aFD,aJl,aFq]
theorem aLM {p0:List Int} (hl:p0.length≤1048576) (hb : ∀x∈p0,0≤x∧x≤255) : ∃x,jH p0=some x∧bkI x.1∧aGb x.2:=by
 unfold jH
 obtain ⟨h,e,c0⟩:=aLy hl hb
 rw [e,qA]
 obtain ⟨i1,v1,r1,e1,c1,q1⟩:=aI2 c0
 rw [e1,qA]
 obtain ⟨i2,v2,r2,e2,c2,q2⟩:=aJD c1
 dsimp only
 rw [e2,qA]
 exact ⟨_,rfl,q1,q2⟩
theorem aHw {p0:List Int} (hl:p0.length≤1048576) (hb : ∀x∈p0,0≤x∧x≤255) : ∃x,gZ p0=some x∧bkI x.1∧aFI x.2.1∧M.Registration.ok x.2.2∧x.2.2.Site.size≤16:=by
 unfold gZ
 obtain ⟨h,e,c0⟩:=aLy hl hb
 rw [e,qA]
 obtain ⟨i1,v1,r1,e1,c1,q1⟩:=aI2 c0
 rw [e1,qA]
 obtain ⟨i2,v2,r2,e2,c2,q2⟩:=aId c1
 dsimp only
 rw [e2,qA]
 obtain ⟨i3,v3,r3,e3,c3,q3⟩:=aMy c2
 dsimp only
 rw [e3,qA]
 obtain ⟨i4,v4,r4,e4,c4,q4⟩:=rC (n:=2) c3
 dsimp only
 rw [e4,qA]
 dsimp only
 split
 ·exact ⟨_,rfl,q1,q2,⟨s16 q1.1,q3.1.Installing,q3.1.Waiting,q3.1.Active⟩,q1.1⟩
 ·exact ⟨_,rfl,q1,q2,q3⟩
theorem aIu {b o:M.Bucket} (h:(aE7 b o).2=true):(aE7 b o).1=o∧nR o=true:=by
 unfold aE7 at h ⊢
 split at h
 ·rename_i h1
  rw [if_pos h1]
  split at h
  ·rename_i h2
   rw [if_pos h2]
   exact ⟨rfl,h2⟩
  ·cases h
 ·cases h
theorem aOs {b o:M.Bucket} (h:(aE7 b o).2=false):(aE7 b o).1=b:=by
 unfold aE7 at h ⊢
 split
 ·rename_i h1
  rw [if_pos h1] at h
  split
  ·rename_i h2
   rw [if_pos h2] at h
   cases h
  ·rfl
 ·rfl
theorem aEA {b:M.Bucket} (h:nR b=true):aEc b≤2500:=by
 unfold nR at h
 simp only [qM,qL] at h
 exact h.2.2.2.2.2.2.2.2
theorem aM3 (k:Fin 256):(aDr (⟨#[98,97,110,107]⟩:ByteArray) (⟨#[115,104,111,112]⟩:ByteArray) ((k.val:Int)+1)).2=true∧nR (aDr (⟨#[98,97,110,107]⟩:ByteArray) (⟨#[115,104,111,112]⟩:ByteArray) ((k.val:Int)+1)).1=true∧aEc (aDr (⟨#[98,97,110,107]⟩:ByteArray) (⟨#[115,104,111,112]⟩:ByteArray) ((k.val:Int)+1)).1=0:=by
 revert k
 decide +kernel
set_option maxHeartbeats 4000000 in
theorem aPB (p0:List Int) (hb : ∀b∈p0,0≤b∧b≤255):pL p0=some true:=by
 unfold pL aA7
 rw [qA]
 by_cases hl:(p0.length:Int)>1048576
 ·rw [if_pos (by simpa using hl)]
 rw [if_neg (by simpa using hl)]
 have hl':p0.length≤1048576:=by omega
 obtain ⟨⟨b,k⟩,e4,hB,hK⟩:=aLM hl' hb
 rw [e4,qA]
 dsimp only at hB hK ⊢
 have hz:=hB.sz
 have hk:=hK.2
 have zo:M.Database.sz (nM b k).bF.Base≤1048576:=by
  simp only [M.bF.sz] at hk
  show M.Database.sz k.Base≤_
  omega
 rw [aB1 hB.ok hK.1 (by omega) (by omega) zo,qA,aCE hB.ok hK.1 (by omega) (by omega) zo,qA]
 have hR:=aLW hB.ok (aAe hB.ok hK.1)
 refine jn (v:=false) ?_ ?_
 ·rw [if_neg (by simp),xO hR,qA,aDP,if_neg (by simp)]
  cases h2:(aE7 b (nM b k)).2 with
  | true =>
   obtain ⟨y1,y2⟩:=aIu h2
   rw [y1] at hR ⊢
   have hu:=aEA y2
   rw [if_pos rfl,vH hR,qA,if_neg (by simp;omega),if_neg (by simp)]
  | false =>
   rw [if_neg (by simp),if_pos (by simp),aOs h2,xO hB.ok,qA,aDP]
   rfl
 rw [if_neg (by simp)]
 obtain ⟨⟨c,s,r⟩,e38,hC,hS,hG,hG2⟩:=aHw hl' hb
 rw [e38,qA]
 dsimp only at hC hS hG hG2 ⊢
 have hzc:=hC.sz
 have hs:=hS.2
 have zo2:M.Database.sz (gT c s r).bF.Base≤1048576:=by
  have h5:=hC.2.2.2.2.1.2
  simp only [M.bF.sz] at h5
  show M.Database.sz c.bF.Base≤_
  omega
 have zs:M.aE.sz s+M.Registration.sz r≤536870912:=by simp only [M.Registration.sz];omega
 rw [aBG hC.ok hS.1 hG (by omega) zs zo2,qA,aBD hC.ok hS.1 hG (by omega) zs zo2,qA]
 have hR2:=aLW hC.ok (yL hC.ok hS.1 hG)
 refine jn (v:=false) ?_ ?_
 ·rw [if_neg (by simp)]
  cases h2:(aE7 c (gT c s r)).2 with
  | true =>
   obtain ⟨y1,y2⟩:=aIu h2
   rw [y1] at hR2 ⊢
   have hu:=aEA y2
   rw [if_pos rfl,vH hR2,qA,if_neg (by simp;omega)]
   simp [gT]
  | false=>rw [if_neg (by simp)]
 rw [if_neg (by simp)]
 obtain ⟨a,ea,ha⟩:=aPK hl' hb (i:=0) (by omega) (by omega)
 rw [ea,qA,show IntKind.i64.wrap (1+a)=((a.toNat:Nat):Int)+1 from by rw [wrap_small (by omega) (by omega)];omega]
 obtain ⟨n1,n2,n3⟩:=aM3 ⟨a.toNat,by omega⟩
 dsimp only at n1 n2 n3
 have hd:inI (((a.toNat:Nat):Int)+1):=bgI (by omega)
 rw [aDm (s16 (by decide)) (s16 (by decide)) hd,qA]
 have hn:=aMs (a:=(⟨#[98,97,110,107]⟩:ByteArray)) (b:=(⟨#[115,104,111,112]⟩:ByteArray)) (s16 (by decide)) (s16 (by decide)) hd
 refine jn (v:=true) ?_ rfl
 have zn:M.Database.sz (aDr (⟨#[98,97,110,107]⟩:ByteArray) (⟨#[115,104,111,112]⟩:ByteArray) (((a.toNat:Nat):Int)+1)).1.bF.Base≤1048576:=by
  unfold aDr
  split
  ·split
   ·exact aFm _ _ _
   ·show M.Database.sz sK.bF.Base≤1048576
    decide
  ·show M.Database.sz sK.bF.Base≤1048576
   decide
 rw [n1,if_pos rfl,tJ hn zn,qA,n2,if_pos rfl,vH hn,qA,n3,if_pos (by simp),aAV hB.ok (by omega),qA,aAz hB.ok (by omega),qA]
 simp
end Go.Proofs.YtidhkhdnjonjfaaGreat.gen
