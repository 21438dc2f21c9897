/-
  Helper text. No conditions.
-/
import Derived.Test.YtidhkhdnjonjfaaGreatBucketsPd4
set_option linter.unusedVariables false
set_option linter.unusedSimpArgs false
namespace Go.Proofs.YtidhkhdnjonjfaaGreat.gen
open Go Go.Sh
theorem aAf {b:List Int} {i h:Int} {a:ByteArray} (hn:nS a=true) (ha:a.size≤16) (c0:okC b i h):Dr b aJ6 (kB (⟨b,i,h⟩:M.aK) a):=by
 unfold kB
 refine .bnd (rT (fun x=>0≤x∧x≤6) (by decide) (by decide) c0) fun i1 v1 r1 c1 q1 => ?_
 obtain ⟨N,rfl⟩:=xM q1.1
 have hN:=q1.2
 refine wI (L:=fun n v (s:(M.aA)×Int×Int)=>jQ (⟨b,i,h⟩:M.aK) n v s.1.Name s.1.Auto s.2.1 s.2.2 s.1.Items) (I:=fun k s=>k≤100000∧okC b s.2.1 s.2.2∧aJ6 s.1) (Q:=Dr b aJ6) (fun n k s hi ih => ?_) (fun n s hi => ?_) fuel N ((⟨a,([]:List M.Item),0⟩:M.aA),i1,v1) (mD (by omega)) ⟨by omega,c1,aNf hn ha⟩
 ·obtain ⟨x,ci,ch⟩:=s
  obtain ⟨k0,k1,k2⟩:=hi
  dsimp only at k1 k2
  simp only [jQ]
  rw [if_pos (aKl k),aEm k0]
  refine .bnd (rN k1) fun i3 v3 r3 c3 q3=>.bnd (xE c3) fun i4 v4 r4 c4 q4=>.aBq (aLz k2 q3.auto q4) fun y hy => ?_
  exact ih (y.1,i4,v4) ⟨by omega,c4,hy⟩
 ·obtain ⟨x,ci,ch⟩:=s
  obtain ⟨k0,k1,k2⟩:=hi
  dsimp only at k1 k2
  simp only [jQ]
  rw [if_neg aES]
  refine .bnd (rC k1) fun i3 v3 r3 c3 q3 => ?_
  dsimp only
  split
  ·exact .bnd (aLt c3) fun i4 v4 r4 c4 q4=>.bnd (xE c4) fun i5 v5 r5 c5 q5=>.aBq (aLz k2 q4 q5) fun y hy=>.ret c5 hy
  ·exact .ret c3 k2
def aJH (s:M.aA):Prop:=s.ok∧M.aA.sz s≤20000
theorem aJ6.any {s:M.aA} (h:aJ6 s):aJH s:=⟨h.1,by have:=lK h.2.1;omega⟩
def aNC (s:M.aA):Prop:=s.Auto≤256+s.Items.length ∧ ∀x∈s.Items,x.Key.Kind=1→x.Key.N≤s.Auto∨x.Key.N=1000000000000
theorem aKW {s:M.aA} (h1:s.ok) (h2:fB s=true) (h3:aNC s) (hl:s.Items.length<16) : ∃x,rH s (⟨([]:List M.Field)⟩:M.aC)=some x∧x.1.ok∧fB x.1=true∧aNC x.1∧x.1.Items.length=s.Items.length+1:=by
 obtain ⟨_,_,_,h0,_⟩:=pB h2
 obtain ⟨a1,a2⟩:=h3
 have ew:IntKind.i64.wrap (s.Auto+1)=s.Auto+1:=wrap_small (by omega) (by omega)
 have hz:=lK h2
 have hkey:wR (⟨1,s.Auto+1,(⟨#[]⟩:ByteArray)⟩:M.Key)=true:=by
  unfold wR inR
  have e:aE4 (⟨#[]⟩:ByteArray)=true:=by decide
  simp [e]
  omega
 have hf:rD (rE (⟨1,s.Auto+1,(⟨#[]⟩:ByteArray)⟩:M.Key)) s.Items<0:=Classical.byContradiction fun hn=>by
  obtain ⟨j,ej,hj⟩:=lM hn
  obtain ⟨_,hit⟩:=zF ej
  unfold rE at hit
  simp only [qM,beq_iff_eq] at hit
  have:=a2 _ (qG hj) hit.1
  omega
 have hk:M.Key.ok (⟨1,s.Auto+1,(⟨#[]⟩:ByteArray)⟩:M.Key):=(mkKey (by omega) (by omega) (by decide)).1
 have e:=aBR h1 hk aB3 zW (by omega) (by simp [M.aC.sz,lV])
 have ep:wL s (⟨1,s.Auto+1,(⟨#[]⟩:ByteArray)⟩:M.Key) (⟨([]:List M.Field)⟩:M.aC)=(aGt s (⟨1,s.Auto+1,(⟨#[]⟩:ByteArray)⟩:M.Key) (⟨([]:List M.Field)⟩:M.aC),true):=by
  unfold wL
  rw [if_pos h2,if_pos hkey,if_pos hf,if_pos hl]
 have hg:=yR (s:=s) (k:=(⟨1,s.Auto+1,(⟨#[]⟩:ByteArray)⟩:M.Key)) zW (by rw [ep])
 rw [ep] at hg
 have en:aHm s (⟨1,s.Auto+1,(⟨#[]⟩:ByteArray)⟩:M.Key) (⟨([]:List M.Field)⟩:M.aC)=(aGt s (⟨1,s.Auto+1,(⟨#[]⟩:ByteArray)⟩:M.Key) (⟨([]:List M.Field)⟩:M.aC),true):=by
  unfold aHm
  rw [if_pos hf,ep]
 have ea:aCO s (⟨1,s.Auto+1,(⟨#[]⟩:ByteArray)⟩:M.Key)=s.Auto+1:=by
  unfold aCO
  rw [if_pos (by simp;omega)]
 have hp:=aGC s.Items (⟨1,s.Auto+1,(⟨#[]⟩:ByteArray)⟩:M.Key)
 rw [en] at e
 refine ⟨(aGt s (⟨1,s.Auto+1,(⟨#[]⟩:ByteArray)⟩:M.Key) (⟨([]:List M.Field)⟩:M.aC),(⟨1,s.Auto+1,(⟨#[]⟩:ByteArray)⟩:M.Key),true),?_,?_,hg,?_,?_⟩
 ·unfold rH
  rw [if_neg (by simp;omega),ew,e,qA,if_neg (by simp)]
 ·unfold aGt
  exact aLP _ h1 (by omega) hk aB3 (by rw [ea];exact bgI (by (try dsimp only);omega))
 ·unfold aGt aNC
  dsimp only
  rw [ea]
  refine ⟨by simp only [qE,qT,qU,qJ,qK];omega,fun x hx h1 => ?_⟩
  simp only [qP,List.mem_singleton] at hx
  rcases hx with hx | rfl | hx
  ·have:=a2 x (List.mem_of_mem_take hx) h1;omega
  ·exact .inl (Int.le_refl _)
  ·have:=a2 x (List.mem_of_mem_drop hx) h1;omega
 ·unfold aGt
  simp only [qE,qT,qU,qJ,qK]
  omega
theorem aOS {s:M.aA} {k:M.Key} {r:M.aC} (hs:aJ6 s) (hk:aGJ k) (hr:aIq r):aJH (⟨s.Name,s.Items++[(⟨k,r⟩:M.Item)],s.Auto⟩:M.aA):=by
 have hz:=lK hs.2.1
 have h1:=hk.2
 have h2:=hr.2
 refine ⟨⟨hs.1.Name,⟨?_,fun y hy => ?_⟩,hs.1.Auto⟩,?_⟩
 ·simp only [M.aA.sz] at hz
  exact ml (by simp only [qE,qJ,qK];omega)
 ·rcases List.mem_append.1 hy with hy | hy
  ·exact hs.1.Items.2 y hy
  ·rw [List.mem_singleton.1 hy];exact ⟨hk.1,hr.1⟩
 ·simp only [M.aA.sz] at hz ⊢
  rw [yW]
  simp only [lV,M.Item.sz,M.Key.sz,qE,qJ,qK]
  omega
theorem aOW {b:List Int} {i h:Int} (c0:okC b i h):Dr b aJH (vO (⟨b,i,h⟩:M.aK)):=by
 unfold vO
 refine .bnd (aAf (by decide) (by decide) c0) fun i1 v1 r1 c1 q1=>.bnd (aR c1) fun i2 v2 r2 c2 q2 => ?_
 dsimp only
 have hz:=lK q1.2.1
 have hl:r1.Items.length≤10000:=by simp only [M.aA.sz] at hz;omega
 split
 ·refine .bnd (yQ (fun s=>s.size≤16) (by decide) (by decide) c2) fun i3 v3 r3 c3 q3=>.ret c3 ⟨⟨s16 q3,q1.1.Items,q1.1.Auto⟩,?_⟩
  have q3':r3.size≤16:=q3
  simp only [M.aA.sz] at hz ⊢
  omega
 split
 ·exact .bnd (rT (fun x => -1000000000000000≤x∧x≤1000000000000000) (by decide) (by decide) c2) fun i3 v3 r3 c3 q3=>.ret c3 ⟨⟨q1.1.Name,q1.1.Items,bgI q3⟩,Nat.le_trans hz (by omega)⟩
 split
 ·refine .bnd (aKm c2) fun i3 v3 r3 c3 q3=>.bnd (aOO c3) fun i4 v4 r4 c4 q4 => ?_
  dsimp only
  rw [yH (by simp only [qJ,qK];omega) (by omega),qA]
  exact .ret c4 (aOS q1 q3 q4)
 split
 ·have key : ∀(n:Nat) (s:M.aA),16-s.Items.length<n→s.ok→fB s=true→aNC s→Dr b aJH (oZ (i2,v2,r2) n s.Name s.Auto s.Items):=by
   intro n
   induction n with
   | zero=>intro s h _ _ _;omega
   | succ n ih =>
    intro s h hs hst hj
    have hm:=lK hst
    simp only [oZ]
    rcases Nat.lt_or_ge s.Items.length 16 with h6 | h6
    ·rw [if_pos (by simp;omega),show (⟨s.Name,s.Items,s.Auto⟩:M.aA)=s from rfl,rA hs,qA,hst,if_pos rfl]
     refine .aBq (aKW hs hst hj h6) fun y hy => ?_
     have hy':=hy.2.2.2
     exact ih y.1 (by omega) hy.1 hy.2.1 hy.2.2.1
    ·rw [if_neg (by simp;omega)]
     exact .ret c2 ⟨hs,by show M.aA.sz s≤_;omega⟩
  exact key fuel r1 (mD (by omega)) q1.1 q1.2.1 ⟨by have:=q1.2.2.1;omega,q1.2.2.2⟩
 ·exact .ret c2 q1.any
theorem aHJ {b:List Int} {i h n:Int} (hn:0≤n∧n≤1000) (c0:okC b i h):Dr b (fun l=>okB l∧l.length≤1000) (pZ (⟨b,i,h⟩:M.aK) n):=by
 unfold pZ
 obtain ⟨N,rfl⟩:=xM hn.1
 refine aPC (N:=N) (L:=fun m v (s:List Int×Int×Int)=>jX (⟨b,i,h⟩:M.aK) (N:Int) m v s.1 s.2.1 s.2.2) (I:=fun k s=>okC b s.2.1 s.2.2∧s.1.length=k ∧ ∀x∈s.1,0≤x∧x≤255) (Q:=Dr b (fun l=>okB l∧l.length≤1000)) (fun m k s hk hi ih => ?_) (fun m s hi => ?_) fuel 0 (([]:List Int),i,h) (mD (by omega)) (by omega) ⟨c0,rfl,by simp⟩
 ·obtain ⟨l,ci,ch⟩:=s
  obtain ⟨k1,k2,k3⟩:=hi
  dsimp only at k1 k2 k3
  simp only [jX]
  rw [if_pos (bI hk)]
  refine .bnd (aB5 k1) fun i3 v3 r3 c3 q3 => ?_
  dsimp only
  rw [yH (by simp only [qJ,qK];omega) (by omega),qA,cU (by omega)]
  refine ih (l++[_],i3,v3) ⟨c3,by simp [k2],fun x hx => ?_⟩
  rcases List.mem_append.1 hx with hx | hx
  ·exact k3 x hx
  ·rw [List.mem_singleton.1 hx,wrap_u8];omega
 ·obtain ⟨l,ci,ch⟩:=s
  obtain ⟨k1,k2,k3⟩:=hi
  dsimp only at k1 k2 k3
  simp only [jX]
  rw [if_neg (by rw [aW];simp)]
  exact .ret k1 ⟨⟨ml (by omega),k3⟩,by omega⟩
theorem aNN {b l:List Int} {i h:Int} (hl:okB l) (hz:l.length≤100000) (c0:okC b i h):Dr b (fun r=>okB r∧r.length≤l.length+1) (uM (⟨b,i,h⟩:M.aK) l):=by
 unfold uM
 rw [aGS (by omega) (by omega),qA]
 refine .bnd (aR c0) fun i1 v1 r1 c1 q1 => ?_
 dsimp only
 split
 ·split
  ·rename_i hp
   refine .bnd (aR c1) fun i2 v2 r2 c2 q2=>.bnd (aR c2) fun i3 v3 r3 c3 q3 => ?_
   have hp':(0:Int)<(l.length:Int):=by simpa using hp
   obtain ⟨k,rfl⟩:=xM q2.1
   have hk:=q2.2.1 hp'
   dsimp only
   rw [aO (by omega),qA]
   refine .ret c3 ⟨⟨by rw [qN];exact hl.1,fun x hx => ?_⟩,by rw [qN];omega⟩
   rcases List.mem_or_eq_of_mem_set hx with hx | rfl
   ·exact hl.2 x hx
   ·rw [wrap_u8];omega
  ·exact .ret c1 ⟨hl,by omega⟩
 split
 ·refine .bnd (aR c1) fun i2 v2 r2 c2 q2 => ?_
  have hw:IntKind.i64.wrap ((l.length:Int)+1)=(l.length:Int)+1:=wrap_small (by omega) (by omega)
  rw [hw] at q2
  obtain ⟨k,rfl⟩:=xM q2.1
  have hk:=q2.2.1 (by omega)
  dsimp only
  rw [aAh (by omega),qA,qH]
  exact .ret c2 ⟨⟨by have:=hl.1;rw [qT];omega,fun x hx=>hl.2 x (List.mem_of_mem_take hx)⟩,by rw [qT];omega⟩
 split
 ·refine .bnd (rT (fun _=>True) (by decide) (fun _ _=>trivial) c1) fun i2 v2 r2 c2 q2 => ?_
  dsimp only
  rw [yH (by simp only [qJ,qK];omega) (by omega),qA]
  refine .ret c2 ⟨⟨ml (by simp only [qE,qJ,qK];omega),fun x hx => ?_⟩,by simp⟩
  rcases List.mem_append.1 hx with hx | hx
  ·exact hl.2 x hx
  ·rw [List.mem_singleton.1 hx,wrap_u8];omega
 ·exact .ret c1 ⟨hl,by omega⟩
def aNj (x:M.Response):Prop:=x.ok∧x.Body.length≤1000
theorem aCH {b:List Int} {i h:Int} (c0:okC b i h):Dr b aNj (kO (⟨b,i,h⟩:M.aK)):=by
 unfold kO
 refine .bnd (aR c0) fun i1 v1 r1 c1 q1=>.bnd (aR c1) fun i2 v2 r2 c2 q2=>.bnd (aR c2) fun i3 v3 r3 c3 q3=>.bnd (aHJ (aTc q3 (by omega) (by omega)) c3) fun i4 v4 r4 c4 q4=>.bnd (rC c4) fun i5 v5 r5 c5 q5=>.bnd (aR c5) fun i6 v6 r6 c6 q6 => ?_
 dsimp only
 split
 ·exact .bnd (rT (fun x => -1000000000000000≤x∧x≤1000000000000000) (by decide) (by decide) c6) fun i7 v7 r7 c7 q7=>.ret c7 ⟨⟨bgI q7,bgI (by (try dsimp only);omega),cJ _,q4.1⟩,q4.2⟩
 split
 ·exact .bnd (rT (fun x => -1000000000000000≤x∧x≤1000000000000000) (by decide) (by decide) c6) fun i7 v7 r7 c7 q7=>.ret c7 ⟨⟨cJ _,bgI q7,cJ _,q4.1⟩,q4.2⟩
 split
 ·exact .bnd (rT (fun x=>0≤x∧x≤1000) (by decide) (by decide) c6) fun i7 v7 r7 c7 q7=>.bnd (aHJ q7 c7) fun i8 v8 r8 c8 q8=>.ret c8 ⟨⟨cJ _,bgI (by (try dsimp only);omega),cJ _,q8.1⟩,q8.2⟩
 ·exact .ret c6 ⟨⟨cJ _,bgI (by (try dsimp only);omega),cJ _,q4.1⟩,q4.2⟩
def wP (s:M.aE):Prop:=s.ok∧M.aE.sz s≤65536
theorem aF7 {s:M.aE} {v:Int} (h:wP s) (hv:inI v) : ∃x,jD s v=some x∧wP x.1:=by
 have hz:=h.2
 refine ⟨_,aDs h.1 hv (by omega),aLF h.1 hv (by omega),?_⟩
 cases h2:(aBP s v).2 with
 | true=>exact aDS (aJj h2)
 | false =>
  have e:(aBP s v).1=s:=by
   unfold aBP at h2 ⊢
   split at h2
   ·cases h2
   ·rename_i hh;rw [if_neg hh]
  rw [e];exact h.2
theorem aML {s:M.aE} {v:Int} {a p:ByteArray} {x:M.Response} (h:wP s) (ha:a.size≤16) (hp:p.size≤16) (hx:aNj x) : ∃y,iU s v a p x=some y∧wP y.1:=by
 have hz:=h.2
 have hx2:=hx.2
 refine ⟨_,aBH h.1 (by omega) (s16 ha) (s16 hp) hx.1 (by simp only [M.Response.sz];omega),aM6 h.1 (by omega) (s16 ha) (s16 hp) hx.1,?_⟩
 cases h2:(aE3 s v a p x).2 with
 | true=>exact aDS (aKH h2)
 | false =>
  have e:(aE3 s v a p x).1=s:=by
   unfold aE3 at h2 ⊢
   split at h2
   ·rename_i hh;rw [if_pos hh]
   ·rename_i hh
    rw [if_neg hh]
    split at h2
    ·cases h2
    ·rename_i hh2;rw [if_neg hh2]
  rw [e];exact h.2
theorem aLU:wP (⟨([]:List M.Cache)⟩:M.aE):=⟨⟨⟨by simp [maxLen],by simp⟩⟩,by simp [M.aE.sz,lV]⟩
theorem aL6 {b:List Int} {i h:Int} {N:Nat} (hN:N≤10) {i1 v1:Int} (c1:okC b i1 v1) {s:M.aE} (hs:wP s):Dr b wP (iY (⟨b,i,h⟩:M.aK) fuel (N:Int) i1 v1 s.Caches):=by
 refine wI (L:=fun n v (s:(M.aE)×Int×Int)=>iY (⟨b,i,h⟩:M.aK) n v s.2.1 s.2.2 s.1.Caches) (I:=fun k s=>k≤100000∧okC b s.2.1 s.2.2∧wP s.1) (Q:=Dr b wP) (fun n k s hi ih => ?_) (fun n s hi => ?_) fuel N (s,i1,v1) (mD (by omega)) ⟨by omega,c1,hs⟩
 ·obtain ⟨x,ci,ch⟩:=s
  obtain ⟨k0,k1,k2⟩:=hi
  dsimp only at k1 k2
  simp only [iY]
  rw [if_pos (aKl k),aEm k0]
  refine .bnd (aR k1) fun i3 v3 r3 c3 q3=>.bnd (aBv c3) fun i4 v4 r4 c4 q4=>.bnd (aLi c4) fun i5 v5 r5 c5 q5=>.bnd (aCH c5) fun i6 v6 r6 c6 q6=>.aBq (aML k2 (Nat.le_trans q4 (by omega)) (Nat.le_trans q5 (by omega)) q6) fun y hy => ?_
  exact ih (y.1,i6,v6) ⟨by omega,c6,hy⟩
 ·obtain ⟨x,ci,ch⟩:=s
  obtain ⟨k0,k1,k2⟩:=hi
  dsimp only at k1 k2
  simp only [iY]
  rw [if_neg aES]
  exact .ret k1 k2
theorem aMg {b:List Int} {i h:Int} (c0:okC b i h):Dr b wP (uB (⟨b,i,h⟩:M.aK)):=by
 unfold uB
 refine .bnd (aR c0) fun i1 v1 r1 c1 q1 => ?_
 obtain ⟨N,rfl⟩:=xM q1.1
 have hN:=q1.2.1 (by omega)
 refine wI (L:=fun n v (s:(M.aE)×Int×Int)=>kW (⟨b,i,h⟩:M.aK) n v s.2.1 s.2.2 s.1.Caches) (I:=fun k s=>k≤100000∧okC b s.2.1 s.2.2∧wP s.1) (Q:=Dr b wP) (fun n k s hi ih => ?_) (fun n s hi => ?_) fuel N ((⟨([]:List M.Cache)⟩:M.aE),i1,v1) (mD (by omega)) ⟨by omega,c1,aLU⟩
 ·obtain ⟨x,ci,ch⟩:=s
  obtain ⟨k0,k1,k2⟩:=hi
  dsimp only at k1 k2
  simp only [kW]
  rw [if_pos (aKl k),aEm k0]
  refine .bnd (aR k1) fun i3 v3 r3 c3 q3=>.aBq (aF7 k2 (cJ _)) fun y hy => ?_
  exact ih (y.1,i3,v3) ⟨by omega,c3,hy⟩
 ·obtain ⟨x,ci,ch⟩:=s
  obtain ⟨k0,k1,k2⟩:=hi
  dsimp only at k1 k2
  simp only [kW]
  rw [if_neg aES]
  refine .bnd (aR k1) fun i3 v3 r3 c3 q3 => ?_
  obtain ⟨M,rfl⟩:=xM q3.1
  have hM:=q3.2.1 (by omega)
  exact aL6 (by omega) c3 k2
def aFI (s:M.aE):Prop:=s.ok∧M.aE.sz s≤70000
theorem wP.all {s:M.aE} (h:wP s):aFI s:=⟨h.1,by have:=h.2;omega⟩
theorem aId {b:List Int} {i h:Int} (c0:okC b i h):Dr b aFI (sC (⟨b,i,h⟩:M.aK)):=by
 unfold sC
 refine .bnd (aMg c0) fun i1 v1 r1 c1 q1=>.bnd (aR c1) fun i2 v2 r2 c2 q2 => ?_
 have hz:=q1.2
 simp only [M.aE.sz] at hz
 dsimp only
 split
 ·refine .bnd (rT (fun x => -1000000000000000≤x∧x≤1000000000000000) (by decide) (by decide) c2) fun i3 v3 r3 c3 q3 => ?_
  dsimp only
  rw [yH (by simp only [qJ,qK];omega) (by omega),qA]
  refine .ret c3 ⟨⟨⟨ml (by simp only [qE,qJ,qK];omega),fun y hy => ?_⟩⟩,?_⟩
  ·rcases List.mem_append.1 hy with hy | hy
   ·exact q1.1.Caches.2 y hy
   ·rw [List.mem_singleton.1 hy];exact ⟨bgI q3,⟨by simp [maxLen],by simp⟩⟩
  ·simp only [M.aE.sz]
   rw [yW]
   simp only [lV,M.Cache.sz,qE,qJ,qK]
   omega
 split
 ·split
  ·rename_i hp
   cases hc:r1.Caches with
   | nil=>rw [hc] at hp;simp at hp
   | cons x0 xs =>
    have hx0:x0∈r1.Caches:=by rw [hc];simp
    have ho:=q1.1.Caches.2 x0 hx0
    rw [hc] at hz
    simp only [lV,M.Cache.sz,qJ] at hz
    rw [show idx (x0::xs) 0=some x0 from rfl,qA]
    refine .bnd (yQ (fun s=>s.size≤16) (by decide) (by decide) c2) fun i3 v3 r3 c3 q3=>.bnd (aCH c3) fun i4 v4 r4 c4 q4 => ?_
    dsimp only
    rw [yH (by simp only [qJ,qK];omega) (by omega),qA]
    have q42:=q4.2
    have q32:r3.size≤16:=q3
    refine .ret c4 ⟨⟨⟨ml (by show (List.set _ _ _).length≤_;rw [qN,qJ];omega),fun y hy => ?_⟩⟩,?_⟩
    ·rcases List.mem_or_eq_of_mem_set hy with hy | rfl
     ·exact q1.1.Caches.2 y (by rw [hc];exact hy)
     ·refine ⟨ho.Version,ml (by simp only [qE,qJ,qK];omega),fun z hz => ?_⟩
      rcases List.mem_append.1 hz with hz | hz
      ·exact ho.Entries.2 z hz
      ·rw [List.mem_singleton.1 hz];exact ⟨s16 (s:=(⟨#[98,97,110,107]⟩:ByteArray)) (by decide),s16 q3,q4.1⟩
    ·have e4:(⟨#[98,97,110,107]⟩:ByteArray).size=4:=rfl
     show M.aE.sz (⟨(⟨x0.Version,x0.Entries++[_]⟩:M.Cache)::xs⟩:M.aE)≤70000
     simp only [M.aE.sz,lV,M.Cache.sz,yW,M.Cached.sz,M.Response.sz,qE,qJ,qK,e4]
     omega
  ·exact .ret c2 q1.all
 split
 ·have key : ∀(n k:Nat) (s:M.aE),5-k<n→k≤5→wP s→Dr b aFI (kX (i2,v2,r2) n (k:Int) s.Caches):=by
   intro n
   induction n with
   | zero=>intro k s h _ _;omega
   | succ n ih =>
    intro k s h hk hs
    simp only [kX]
    rcases Nat.lt_or_ge k 5 with h6 | h6
    ·rw [if_pos (by simp;omega)]
     refine .aBq (aF7 hs (bgI (by (try dsimp only);omega))) fun y hy => ?_
     rw [cU (by omega)]
     exact ih (k+1) y.1 (by omega) (by omega) hy
    ·rw [if_neg (by simp;omega)]
     exact .ret c2 hs.all
  exact key fuel 1 r1 (mD (by omega)) (by omega) q1
 ·exact .ret c2 q1.all
theorem aMy {b:List Int} {i h:Int} (c0:okC b i h):Dr b (fun r=>M.Registration.ok r∧r.Site.size≤16) (uJ (⟨b,i,h⟩:M.aK)):=by
 unfold uJ
 refine .bnd (aBv c0) fun i1 v1 r1 c1 q1 => ?_
 have hs:r1.size≤16:=Nat.le_trans q1 (by omega)
 dsimp only
 refine .aBq (Q:=fun r:Int×Int×Int×Int=>inI r.2.1∧okC b r.2.2.1 r.2.2.2) ?_ fun x hx=>.aBq (Q:=fun r:Int×Int×Int×Int=>inI r.2.1∧okC b r.2.2.1 r.2.2.2) ?_ fun y hy=>.aBq (Q:=fun r:Int×Int×Int=>inI r.1∧okC b r.2.1 r.2.2) ?_ fun z hz=>.aBq (Q:=fun r:ByteArray×Int×Int×Int=>r.1.size≤16∧inI r.2.1∧okC b r.2.2.1 r.2.2.2) ?_ fun u hu=>.ret hu.2.2 ⟨⟨s16 hu.1,hz.1,hu.2.1,hx.1⟩,hu.1⟩
 ·obtain ⟨i2,v2,r2,e2,c2,q2⟩:=rC (n:=2) c1
  rw [e2,qA]
  dsimp only
  split
  ·obtain ⟨i3,v3,r3,e3,c3,q3⟩:=aR (n:=2) c2
   rw [e3,qA]
   exact ⟨_,rfl,cJ _,c3⟩
  ·exact ⟨_,rfl,rG,c2⟩
 ·obtain ⟨i2,v2,r2,e2,c2,q2⟩:=rC (n:=2) hx.2
  rw [e2,qA]
  dsimp only
  split
  ·obtain ⟨i3,v3,r3,e3,c3,q3⟩:=aR (n:=2) c2
   rw [e3,qA]
   exact ⟨_,rfl,cJ _,c3⟩
  ·exact ⟨_,rfl,rG,c2⟩
 ·obtain ⟨i2,v2,r2,e2,c2,q2⟩:=rC (n:=2) hy.2
  rw [e2,qA]
  dsimp only
  split
  ·obtain ⟨i3,v3,r3,e3,c3,q3⟩:=aR (n:=2) c2
   rw [e3,qA]
   exact ⟨_,rfl,cJ _,c3⟩
  ·exact ⟨_,rfl,rG,c2⟩
 ·obtain ⟨i2,v2,r2,e2,c2,q2⟩:=aR (n:=14) hz.2
  rw [e2,qA]
  dsimp only
  split
  ·exact ⟨_,rfl,by show (⟨#[]⟩:ByteArray).size≤16;decide,hy.1,c2⟩
  split
  ·obtain ⟨i3,v3,r3,e3,c3,q3⟩:=rT (l:=[(-1),1,9,1000000000001]) (fun x => -1000000000000000≤x∧x≤1000000000000000) (by decide) (by decide) c2
   rw [e3,qA]
   exact ⟨_,rfl,hs,bgI q3,c3⟩
  ·exact ⟨_,rfl,hs,hy.1,c2⟩
theorem aHD {d:M.Database} {u:M.gK} (hl:d.Unique.length≤100000) : ∃v,vJ d u=some v:=by
 have key : ∀(n k:Nat),d.Unique.length-k<n→k≤d.Unique.length → ∃v,jN d u n (k:Int)=some v:=by
  intro n
  induction n with
  | zero=>intro k h _;omega
  | succ n ih =>
   intro k h hk
   simp only [jN]
   rcases Nat.lt_or_ge k d.Unique.length with h6 | h6
   ·rw [if_pos (bI h6),aO h6,qA,cU (by omega)]
    have:=ih (k+1) (by omega) (by omega)
    split
    ·split
     ·exact ⟨_,rfl⟩
     ·exact this
    ·exact this
   ·rw [if_neg (by simp;omega)]
    exact ⟨_,rfl⟩
 exact key fuel 0 (mD (by omega)) (by omega)
theorem aP9 {d:M.Database} {a f:ByteArray} (hd:d.ok) (hz:M.Database.sz d≤100000) (ha:a.size≤16) (hf:f.size≤16) : ∃x,gU d (⟨3,a,f⟩:M.gK)=some x∧(x.1.ok∧M.Database.sz x.1≤M.Database.sz d+40):=by
 have hl:d.Unique.length≤100000:=by simp only [M.Database.sz] at hz;omega
 obtain ⟨x5,e5⟩:=aHD (u:=(⟨3,a,f⟩:M.gK)) hl
 have ok':M.Database.ok (⟨d.Name,d.Version,d.Stores,d.Unique++[(⟨a,f⟩:M.aH)]⟩:M.Database):=⟨hd.Name,hd.Version,hd.Stores,ml (by simp only [qE,qJ,qK];omega),fun y hy=>by
  rcases List.mem_append.1 hy with hy | hy
  ·exact hd.Unique.2 y hy
  ·rw [List.mem_singleton.1 hy];exact ⟨s16 ha,s16 hf⟩⟩
 have sz':M.Database.sz (⟨d.Name,d.Version,d.Stores,d.Unique++[(⟨a,f⟩:M.aH)]⟩:M.Database)≤M.Database.sz d+40:=by
  simp only [M.Database.sz,yW,lV,M.aH.sz,qE,qJ,qK]
  omega
 unfold gU
 rw [sJ d (by omega),qA,wG hd,qA,e5,qA]
 dsimp only
 generalize rD (wA a) d.Stores=x3
 have k1:((3:Int)==1)=false:=rfl
 have k2:((3:Int)==2)=false:=rfl
 have k3:((3:Int)==3)=true:=rfl
 have k4:((3:Int)==4)=false:=rfl
 simp only [k1,k2,k3,k4,qD,if_false,if_true,qA]
 by_cases h:x3≥0
 ·by_cases h5:x5<0
  ·simp only [h,h5,decide_true,if_true,qA]
   rw [yH (by simp only [qJ,qK];omega) (by omega),qA,lW hd (by omega),qA,lW ok' (by omega),qA]
   cases nDb d
   ·exact ⟨_,rfl,hd,by dsimp only;omega⟩
   ·cases nDb (⟨d.Name,d.Version,d.Stores,d.Unique++[(⟨a,f⟩:M.aH)]⟩:M.Database)
    ·exact ⟨_,rfl,hd,by dsimp only;omega⟩
    ·exact ⟨_,rfl,ok',sz'⟩
  ·simp only [h,h5,decide_true,decide_false,qD,if_false,if_true,qA]
   exact ⟨_,rfl,hd,by dsimp only;omega⟩
 ·simp only [h,decide_false,qD,if_false,qA]
  exact ⟨_,rfl,hd,by dsimp only;omega⟩
def aPW (d:M.Database):Prop:=d.ok∧M.Database.sz d≤40000
theorem aTZ {l:List M.aA} (hl:l.length≤3) (h : ∀s∈l,aJ6 s):M.Database.ok (⟨(⟨#[97,112,112]⟩:ByteArray),1,l,([]:List M.aH)⟩:M.Database)∧M.Database.sz (⟨(⟨#[97,112,112]⟩:ByteArray),1,l,([]:List M.aH)⟩:M.Database)≤39000:=by
 have h3:(⟨#[97,112,112]⟩:ByteArray).size=3:=rfl
 have:=kU (w:=M.aA.sz) (b:=10000) (xs:=l) fun s hs=>lK (h s hs).2.1
 refine ⟨⟨s16 (s:=(⟨#[97,112,112]⟩:ByteArray)) (by decide),aJ4,⟨ml (by dsimp only;omega),fun s hs=>(h s hs).1⟩,⟨by simp [maxLen],by simp⟩⟩,?_⟩
 simp only [M.Database.sz,lV,qK,h3]
 omega
theorem aOq {α:Type} {b:Nat} {xs:List α} (h:xs.length≤1000000) (hb:b≤1000):aPg b xs=some xs:=by
 unfold aPg
 rw [if_pos (Nat.le_trans (Nat.mul_le_mul h hb) (by omega))]
theorem aMn {b:List Int} {i h:Int} (c0:okC b i h):Dr b aPW (uK (⟨b,i,h⟩:M.aK)):=by
 unfold uK
 refine .bnd (aAf (by decide) (by decide) c0) fun i1 v1 r1 c1 q1=>.bnd (aAf (by decide) (by decide) c1) fun i2 v2 r2 c2 q2 => ?_
 dsimp only
 rw [aOq (by simp) (by omega),qA]
 have fin : ∀ {l:List M.aA} {i5 v5:Int} {f:Int×Int×Bool→Option (Int×Int×M.Database)},l.length≤3→(∀s∈l,aJ6 s)→okC b i5 v5→f=(fun x42=>(if x42.2.2=true then ((eC (⟨b,x42.1,x42.2.1⟩:M.aK)).bind fun x54=>((gU (⟨(⟨#[97,112,112]⟩:ByteArray),1,l,([]:List M.aH)⟩:M.Database) (⟨3,(⟨#[110,111,116,101,115]⟩:ByteArray),x54.2.2⟩:M.gK)).bind fun x56=>(some (x54.1,x54.2.1,x56.1)))) else (some (x42.1,x42.2.1,(⟨(⟨#[97,112,112]⟩:ByteArray),1,l,([]:List M.aH)⟩:M.Database)))))→Dr b aPW ((bS (⟨b,i5,v5⟩:M.aK) 3).bind f):=by
  intro l i5 v5 f hl hg c5 hf
  subst hf
  obtain ⟨o1,o2⟩:=aTZ hl hg
  refine .bnd (rC c5) fun i6 v6 r6 c6 q6 => ?_
  dsimp only
  split
  ·refine .bnd (wU c6) fun i7 v7 r7 c7 q7=>.aBq (aP9 o1 (by omega) (by decide) (Nat.le_trans q7 (by omega))) fun y hy=>.ret c7 ⟨hy.1,?_⟩
   have:=hy.2
   omega
  ·exact .ret c6 ⟨o1,by omega⟩
 refine .bnd (rC c2) fun i3 v3 r3 c3 q3 => ?_
 dsimp only
 split
 ·refine .bnd (aAf (by decide) (by decide) c3) fun i4 v4 r4 c4 q4 => ?_
  dsimp only
  rw [yH (by simp) (by omega),qA]
  exact fin (l:=[r4]++[r1,r2]) (by simp) (by simp only [qP,List.mem_cons,qO,or_false];rintro s (rfl | rfl | rfl)<;>assumption) c4 rfl
 ·exact fin (l:=[r1,r2]) (by simp) (by simp only [List.mem_cons,qO,or_false];rintro s (rfl | rfl)<;>assumption) c3 rfl
theorem aPG {b:List Int} {i h:Int} (c0:okC b i h):Dr b aEx (xL (⟨b,i,h⟩:M.aK)):=by
 unfold xL
 refine .bnd (aR c0) fun i1 v1 r1 c1 q1=>.bnd (yQ (fun s=>s.size≤16) (by decide) (by decide) c1) fun i2 v2 r2 c2 q2=>.bnd (rN c2) fun i3 v3 r3 c3 q3 => ?_
 dsimp only
 have hk:=q3.any.1
 have e0:(⟨#[]⟩:ByteArray).size≤maxLen:=s16 (by decide)
 split
 ·exact .bnd (xE c3) fun i4 v4 r4 c4 q4=>.ret c4 ⟨cJ _,s16 q2,hk,q4.1,e0⟩
 split
 ·exact .bnd (xE c3) fun i4 v4 r4 c4 q4=>.ret c4 ⟨cJ _,s16 q2,hk,q4.1,e0⟩
 split
 ·exact .bnd (wU c3) fun i4 v4 r4 c4 q4=>.ret c4 ⟨cJ _,s16 q2,hk,aB3,s16 (Nat.le_trans q4 (by omega))⟩
 split
 ·refine .bnd (rC c3) fun i4 v4 r4 c4 q4 => ?_
  dsimp only
  split
  ·exact .bnd (rN c4) fun i5 v5 r5 c5 q5=>.ret c5 ⟨aJ4,s16 q2,q5.any.1,aB3,e0⟩
  ·exact .ret c4 ⟨cJ _,s16 q2,aHx,aB3,e0⟩
 ·exact .ret c3 ⟨cJ _,s16 q2,hk,aB3,e0⟩
def aPQ (l:List M.Op):Prop:=l.length≤10 ∧ ∀o∈l,aEx o
theorem aN1 {b:List Int} {i h:Int} (c0:okC b i h):Dr b aPQ (wC (⟨b,i,h⟩:M.aK) 3):=by
 unfold wC
 rw [show IntKind.i64.wrap (3+1)=4 from by rw [wrap_small (by omega) (by omega)];rfl]
 refine .bnd (aR c0) fun i1 v1 r1 c1 q1 => ?_
 obtain ⟨N,rfl⟩:=xM q1.1
 have hN:=q1.2.1 (by omega)
 refine wI (L:=fun n v (s:(List M.Op)×Int×Int)=>mO (⟨b,i,h⟩:M.aK) n v s.1 s.2.1 s.2.2) (I:=fun k s=>k≤100000∧okC b s.2.1 s.2.2∧s.1.length+k≤10 ∧ ∀o∈s.1,aEx o) (Q:=Dr b aPQ) (fun n k s hi ih => ?_) (fun n s hi => ?_) fuel N (([]:List M.Op),i1,v1) (mD (by omega)) ⟨by omega,c1,⟨by simp only [qK];omega,by simp⟩⟩
 ·obtain ⟨x,ci,ch⟩:=s
  obtain ⟨k0,k1,k2⟩:=hi
  dsimp only at k1 k2
  simp only [mO]
  rw [if_pos (aKl k),aEm k0]
  refine .bnd (aPG k1) fun i3 v3 r3 c3 q3 => ?_
  dsimp only
  have k21:=k2.1
  rw [yH (by simp only [qJ,qK];omega) (by omega),qA]
  refine ih (x++[r3],i3,v3) ⟨by omega,c3,by simp only [qE,qJ,qK];omega,fun o ho => ?_⟩
  rcases List.mem_append.1 ho with ho | ho
  ·exact k2.2 o ho
  ·rw [List.mem_singleton.1 ho];exact q3
 ·obtain ⟨x,ci,ch⟩:=s
  obtain ⟨k0,k1,k2⟩:=hi
  dsimp only at k1 k2
  simp only [mO]
  rw [if_neg aES]
  exact .ret k1 ⟨by have:=k2.1;omega,k2.2⟩
theorem aHX {k:M.bF} {l:List M.Op} {n:Nat} (h:k.ok) (hz:M.bF.sz k≤n) (hn:n≤200000) (hl:l.length≤1000) (ho : ∀o∈l,aEx o) : ∃x,jM k l=some x∧(x.1.ok∧M.bF.sz x.1≤n+4000):=⟨_,aC0 h (by omega) hl ho,(aFM h).1,by have:=(aFM (l:=l) h).2.1;omega⟩
def aKQ (k:M.bF):Prop:=k.ok∧M.bF.sz k≤70000
theorem aKt {b:List Int} {i h:Int} (c0:okC b i h):Dr b aKQ (sX (⟨b,i,h⟩:M.aK)):=by
 unfold sX
 refine .bnd (aMn c0) fun i0 v0 d c00 q0=>.bnd (aR c00) fun i1 v1 r1 c1 q1 => ?_
 obtain ⟨N,rfl⟩:=xM q1.1
 have hN:=q1.2.1 (by omega)
 have hz:=q0.2
 refine wI (L:=fun n v (s:(M.bF)×Int×Int)=>jY (⟨b,i,h⟩:M.aK) n v s.1.Base.Name s.1.Base.Version s.1.Count s.2.1 s.2.2 s.1.Base.Stores s.1.Base.Unique s.1.Log) (I:=fun k s=>k≤100000∧okC b s.2.1 s.2.2∧s.1.ok∧M.bF.sz s.1+4000*k≤60000) (Q:=Dr b aKQ) (fun n k s hi ih => ?_) (fun n s hi => ?_) fuel N ((⟨d,([]:List Int),0⟩:M.bF),i1,v1) (mD (by omega)) ⟨by omega,c1,⟨⟨q0.1,⟨by simp [maxLen],by simp⟩,rG⟩,by show M.Database.sz d+0+4000*N≤60000;omega⟩⟩
 ·obtain ⟨x,ci,ch⟩:=s
  obtain ⟨k0,k1,k2⟩:=hi
  dsimp only at k1 k2
  simp only [jY]
  rw [if_pos (aKl k),aEm k0]
  refine .bnd (aN1 k1) fun i3 v3 r3 c3 q3=>.aBq (aHX (k:=x) (n:=M.bF.sz x) k2.1 (Nat.le_refl _) (by have:=k2.2;omega) (Nat.le_trans q3.1 (by omega)) q3.2) fun y hy => ?_
  exact ih (y.1,i3,v3) ⟨by omega,c3,hy.1,by have:=hy.2;have:=k2.2;dsimp only;omega⟩
 ·obtain ⟨x,ci,ch⟩:=s
  obtain ⟨k0,k1,k2⟩:=hi
  dsimp only at k1 k2
  simp only [jY]
  rw [if_neg aES]
  exact .ret k1 ⟨k2.1,by have:=k2.2;show M.bF.sz x≤70000;omega⟩
theorem aOr {l b:List Int} {i:Int} (hl:okB l) (hz:l.length≤100000) (hb : ∀x∈b,0≤x∧x≤255):okB (aMp l i b).1∧(aMp l i b).1.length≤l.length+4000:=by
 unfold aMp
 split
 ·exact ⟨hl,by dsimp only;omega⟩
 split
 ·exact ⟨hl,by dsimp only;omega⟩
 ·rename_i hh
  refine ⟨⟨ml (by dsimp only;omega),fun y hy => ?_⟩,by dsimp only;omega⟩
  have hy':y∈aMC l i b:=hy
  unfold aMC at hy'
  simp only [qP] at hy'
  rcases hy' with h | h | h
  ·exact hl.2 y h
  ·exact zN hb y h
  ·exact aBV _ y h
def aGb (k:M.bF):Prop:=k.ok∧M.bF.sz k≤80000
theorem aJD {b:List Int} {i h:Int} (c0:okC b i h):Dr b aGb (sD (⟨b,i,h⟩:M.aK)):=by
 unfold sD
 refine .bnd (aKt c0) fun i1 v1 r1 c1 q1=>.bnd (aR c1) fun i2 v2 r2 c2 q2 => ?_
 dsimp only
 have hz:=q1.2
 have hl:r1.Log.length≤70000:=by simp only [M.bF.sz] at hz;omega
 split
 ·exact .ret c2 ⟨⟨q1.1.Base,q1.1.Log,cJ _⟩,by simp only [M.bF.sz] at hz ⊢;omega⟩
 split
 ·refine .bnd (aNN q1.1.Log (by omega) c2) fun i3 v3 r3 c3 q3=>.ret c3 ⟨⟨q1.1.Base,q3.1,q1.1.Count⟩,?_⟩
  have:=q3.2
  simp only [M.bF.sz] at hz ⊢
  omega
 split
 ·rw [aAG (by omega) (by decide),qA]
  obtain ⟨o1,o2⟩:=aOr (i:=r1.Count) (b:=[1,2]) q1.1.Log (by omega) (by decide)
  refine .ret c2 ⟨⟨q1.1.Base,o1,cJ _⟩,?_⟩
  simp only [M.bF.sz] at hz ⊢
  omega
 ·exact .ret c2 ⟨q1.1,by omega⟩
def wsm (w:M.aT):Prop:=w.ok∧M.aT.sz w≤32
theorem aIT {d q n:Int} {k:M.Key} {f:ByteArray} (hd:inI d) (hq:inI q) (hk:aGJ k) (hf:f.size≤16) (hn:inI n):wsm (⟨d,q,k,f,n⟩:M.aT):=⟨⟨hd,hq,hk.1,s16 hf,hn⟩,by have:=hk.2;simp only [M.aT.sz,M.Key.sz];omega⟩
def obI (o:M.aG):Prop:=inI o.Device∧inI o.Next∧o.Writes.length≤30 ∧ ∀w∈o.Writes,wsm w
theorem obI.ok {o:M.aG} (h:obI o):o.ok:=⟨h.1,h.2.1,ml (by have:=h.2.2.1;omega),fun w hw=>(h.2.2.2 w hw).1⟩
theorem obI.sz {o:M.aG} (h:obI o):M.aG.sz o≤1000:=by
 have h1:=kU (w:=M.aT.sz) (b:=32) (xs:=o.Writes) fun w hw=>(h.2.2.2 w hw).2
 have h2:=h.2.2.1
 simp only [M.aG.sz]
 omega
theorem aH2 {o:M.aG} (h:lL o=true):o.Writes.length≤20:=by
 unfold lL at h
 simp only [qM,qL] at h
 exact h.2.2.2
theorem aKq {o:M.aG} {k:M.Key} {f:ByteArray} {n:Int} (h:obI o) (hk:aGJ k) (hf:f.size≤16) (hn:inI n):obI (aHj o k f n).1:=by
 unfold aHj
 split
 ·split
  ·rename_i h2
   have:=aH2 h2
   refine ⟨h.1,cJ _,by show (aBz o k f n).Writes.length≤30;omega,fun w hw => ?_⟩
   have hw':w∈o.Writes++[(⟨o.Device,o.Next,k,f,n⟩:M.aT)]:=hw
   rcases List.mem_append.1 hw' with hw | hw
   ·exact h.2.2.2 w hw
   ·rw [List.mem_singleton.1 hw];exact aIT h.1 h.2.1 hk hf hn
  ·exact h
 ·exact h
theorem aIv {o:M.aG} {k:M.Key} {f:ByteArray} {n:Int} (h:obI o) (hk:aGJ k) (hf:f.size≤16) (hn:inI n):eV o k f n=some (aHj o k f n):=xN h.ok (by have:=h.sz;omega) hk.1 (s16 hf) hn
theorem aHW {d n:Int} (hd:inI d) (hn:inI n):obI (⟨d,n,([]:List M.aT)⟩:M.aG):=⟨hd,hn,by simp,by simp⟩
theorem aNZ {d:Int} (hd:inI d) : ∃x,iX d=some x∧obI x.1∧x.1.Next≤1∧x.1.Writes.length≤0:=by
 unfold iX
 rw [kH (aHW hd aJ4).ok,qA]
 cases lL (⟨d,1,([]:List M.aT)⟩:M.aG)
 ·exact ⟨_,rfl,aHW rG rG,by decide,by simp⟩
 ·exact ⟨_,rfl,aHW hd aJ4,by show (1:Int)≤1;omega,by simp⟩
theorem aK6 {o:M.aG} {q:Int} (h:obI o) : ∃x,cA o q=some x∧obI x.1∧x.1.Next=o.Next∧inI x.2∧x.1.Writes.length≤o.Writes.length:=by
 have hlen:=h.2.2.1
 have fin : ∀(k:Nat),k≤o.Writes.length → ∃x,(wM o.Writes (k:Int)).bind (fun x23=>((app 72 ([]:List M.aT) (List.drop (k:Int).toNat o.Writes)).bind fun x25=>(some ((⟨o.Device,o.Next,(List.drop (k:Int).toNat o.Writes)⟩:M.aG),(k:Int)))))=some x∧obI x.1∧x.1.Next=o.Next∧inI x.2∧x.1.Writes.length≤o.Writes.length:=by
  intro k hk
  rw [aFn hk,qA,qH,aGS (by rw [qU];omega) (by omega),qA]
  exact ⟨_,rfl,⟨h.1,h.2.1,by show (List.drop k o.Writes).length≤30;rw [qU];omega,fun w hw=>h.2.2.2 w (List.mem_of_mem_drop hw)⟩,rfl,bgI (by dsimp only;omega),by show (List.drop k o.Writes).length≤_;rw [qU];omega⟩
 have key : ∀(n k:Nat),o.Writes.length-k<n→k≤o.Writes.length → ∃x,jL o q o n (k:Int)=some x∧obI x.1∧x.1.Next=o.Next∧inI x.2∧x.1.Writes.length≤o.Writes.length:=by
  intro n
  induction n with
  | zero=>intro k h _;omega
  | succ n ih =>
   intro k hn hk
   simp only [jL]
   rcases Nat.lt_or_ge k o.Writes.length with h6 | h6
   ·rw [if_pos (bI h6),aO h6,qA,cU (by omega)]
    split
    ·exact ih (k+1) (by omega) (by omega)
    ·exact fin k hk
   ·rw [if_neg (by simp;omega)]
    exact fin k hk
 unfold cA
 rw [uY o (by have:=h.sz;omega),qA,kH h.ok,qA]
 cases lL o
 ·rw [if_pos (by simp)]
  exact ⟨_,rfl,h,rfl,rG,Nat.le_refl _⟩
 ·rw [if_neg (by simp)]
  exact key fuel 0 (mD (by omega)) (by omega)
theorem aOv (o:M.aG) (k:M.Key) (f:ByteArray) (n:Int):(aHj o k f n).1.Writes.length≤o.Writes.length+1:=by
 unfold aHj
 split
 ·split
  ·simp [aBz]
  ·exact Nat.le_succ _
 ·exact Nat.le_succ _
theorem aMb {o:M.aG} {k:M.Key} {f:ByteArray} {n:Int} (h:o.Next≤1000):(aHj o k f n).1.Next≤1+o.Next∨(aHj o k f n).1.Next=o.Next:=by
 unfold aHj
 split
 ·rename_i h1
  split
  ·left
   unfold lL inR at h1
   simp only [qM,qL] at h1
   show IntKind.i64.wrap (o.Next+1)≤_
   rw [wrap_small (by omega) (by omega)]
   omega
  ·exact .inr rfl
 ·exact .inr rfl
theorem aH0 {b:List Int} {i h d:Int} (hd:inI d) (c0:okC b i h):Dr b (fun o=>obI o∧o.Next≤10∧o.Writes.length≤20) (pS (⟨b,i,h⟩:M.aK) d):=by
 unfold pS
 refine .aBq (aNZ hd) fun o ho=>.bnd (rT (fun x=>0≤x∧x≤6) (by decide) (by decide) c0) fun i1 v1 r1 c1 q1 => ?_
 obtain ⟨N,rfl⟩:=xM q1.1
 have hN:=q1.2
 refine wI (L:=fun n v (s:(M.aG)×Int×Int)=>gO (⟨b,i,h⟩:M.aK) n v s.1.Device s.1.Next s.2.1 s.2.2 s.1.Writes) (I:=fun k s=>k≤100000∧okC b s.2.1 s.2.2∧obI s.1∧s.1.Next+k≤8∧s.1.Writes.length+k≤7) (Q:=Dr b (fun o=>obI o∧o.Next≤10∧o.Writes.length≤20)) (fun n k s hi ih => ?_) (fun n s hi => ?_) fuel N (o.1,i1,v1) (mD (by omega)) ⟨by omega,c1,⟨ho.1,by have:=ho.2.1;dsimp only;omega,by have:=ho.2.2;dsimp only;omega⟩⟩
 ·obtain ⟨x,ci,ch⟩:=s
  obtain ⟨k0,k1,k2⟩:=hi
  dsimp only at k1 k2
  simp only [gO]
  rw [if_pos (aKl k),aEm k0]
  refine .bnd (rN k1) fun i3 v3 r3 c3 q3=>.bnd (wU c3) fun i4 v4 r4 c4 q4=>.bnd (aR c4) fun i5 v5 r5 c5 q5 => ?_
  dsimp only
  have hf:r4.size≤16:=Nat.le_trans q4 (by omega)
  have hn:inI r5:=bgI (aNa q5)
  rw [show (⟨x.Device,x.Next,x.Writes⟩:M.aG)=x from rfl,aIv k2.1 q3.any hf hn,qA]
  refine ih ((aHj x r3 r4 r5).1,i5,v5) ⟨by omega,c5,aKq k2.1 q3.any hf hn,?_,?_⟩
  ·have h1:=k2.2.1
   dsimp only
   rcases aMb (o:=x) (k:=r3) (f:=r4) (n:=r5) (by omega) with h2 | h2<;>omega
  ·have h1:=k2.2.2
   have h2:=aOv x r3 r4 r5
   dsimp only
   omega
 ·obtain ⟨x,ci,ch⟩:=s
  obtain ⟨k0,k1,k2⟩:=hi
  dsimp only at k1 k2
  simp only [gO]
  rw [if_neg aES]
  refine .bnd (rC k1) fun i3 v3 r3 c3 q3 => ?_
  dsimp only
  have h1:=k2.2.1
  have h2:=k2.2.2
  split
  ·refine .bnd (aR c3) fun i4 v4 r4 c4 q4 => ?_
   dsimp only
   obtain ⟨y,e,y1,y2,_,y3⟩:=aK6 (q:=r4) k2.1
   rw [show (⟨x.Device,x.Next,x.Writes⟩:M.aG)=x from rfl,e,qA]
   exact .ret c4 ⟨y1,by omega,by omega⟩
  ·exact .ret c3 ⟨k2.1,by dsimp only;omega,by dsimp only;omega⟩
theorem aMf {o:M.aG} {k:M.Key} {f:ByteArray} {n:Int} (h:lL o=true) (hN:o.Next≤1000) (hl:o.Writes.length<20) (hq:yM (⟨o.Device,o.Next,k,f,n⟩:M.aT)=true):lL (aBz o k f n)=true:=by
 unfold lL inR at h
 simp only [qM,qL,qQ,qR] at h
 obtain ⟨h1,⟨h2,h3⟩,⟨h4,h5⟩,h6⟩:=h
 have ew:IntKind.i64.wrap (o.Next+1)=o.Next+1:=wrap_small (by omega) (by omega)
 unfold lL inR aBz
 simp only [qM,qL,qQ,qR,qE,qJ,qK,ew]
 refine ⟨fun j hj => ?_,⟨h2,h3⟩,⟨by omega,by omega⟩,by omega⟩
 unfold yI
 simp only [qE,qJ,qK]
 rcases Nat.lt_or_ge j o.Writes.length with hlt | hge
 ·have:=h1 j hlt
  unfold yI at this
  rw [qF hlt,Option.any_some] at this
  rw [List.getElem?_append_left hlt,qF hlt,Option.any_some,show (o.Next+1-((o.Writes.length+(0+1):Nat):Int))=o.Next-(o.Writes.length:Int) by omega]
  exact this
 ·have:j=o.Writes.length:=by omega
  subst this
  rw [List.getElem?_append_right (Nat.le_refl _),Nat.sub_self]
  simp only [List.getElem?_cons_zero,Option.any_some]
  rw [hq,show (o.Next+1-((o.Writes.length+(0+1):Nat):Int))=o.Next-(o.Writes.length:Int) by omega,wrap_small (n:=o.Next-(o.Writes.length:Int)) (by omega) (by omega),show o.Next-(o.Writes.length:Int)+(o.Writes.length:Int)=o.Next by omega,wrap_small (by omega) (by omega)]
  simp
theorem aIH.n {k:M.Key} (h:aIH k):wR k=true:=by
 obtain ⟨a,n,s⟩:=k
 obtain ⟨h1,h2,h3,h4⟩:=h
 dsimp only at h1 h2 h3 h4
 subst h4 h1
 unfold wR inR
 have e:aE4 (⟨#[]⟩:ByteArray)=true:=by decide
 simp [e]
 omega
theorem aMj {b:List Int} {i h:Int} (c0:okC b i h):Dr b obI (tZ (⟨b,i,h⟩:M.aK)):=by
 unfold tZ
 refine .bnd (aR c0) fun i1 v1 r1 c1 q1=>.bnd (aH0 (cJ _) c1) fun i2 v2 o c2 q2=>.bnd (aR c2) fun i3 v3 r3 c3 q3 => ?_
 dsimp only
 obtain ⟨ho,hN,q2len⟩:=q2
 have hlen:=ho.2.2.1
 split
 ·exact .bnd (rT (fun x => -1000000000000000≤x∧x≤1000000000000000) (by decide) (by decide) c3) fun i4 v4 r4 c4 q4=>.ret c4 ⟨bgI q4,ho.2.1,ho.2.2⟩
 split
 ·exact .bnd (rT (fun x => -1000000000000000≤x∧x≤1000000000000000) (by decide) (by decide) c3) fun i4 v4 r4 c4 q4=>.ret c4 ⟨ho.1,bgI q4,ho.2.2⟩
 split
 ·refine .bnd (aKm c3) fun i4 v4 r4 c4 q4=>.bnd (rT (fun x => -1000000000000000≤x∧x≤1000000000000000) (by decide) (by decide) c4) fun i5 v5 r5 c5 q5 => ?_
  dsimp only
  rw [yH (by simp only [qJ,qK];omega) (by omega),qA]
  refine .ret c5 ⟨ho.1,ho.2.1,by simp only [qE,qJ,qK];omega,fun w hw => ?_⟩
  rcases List.mem_append.1 hw with hw | hw
  ·exact ho.2.2.2 w hw
  ·rw [List.mem_singleton.1 hw];exact aIT ho.1 ho.2.1 q4 (by decide) (bgI q5)
 split
 ·have key : ∀(n:Nat) (o:M.aG) (ci ch:Int),20-o.Writes.length<n→obI o→o.Next≤10+o.Writes.length→okC b ci ch→Dr b obI (mZ (⟨b,i,h⟩:M.aK) n o.Device o.Next ci ch o.Writes):=by
   intro n
   induction n with
   | zero=>intro o ci ch h _ _ _;omega
   | succ n ih =>
    intro o ci ch hn ho hN k1
    simp only [mZ]
    rcases Nat.lt_or_ge o.Writes.length 20 with h6 | h6
    ·rw [if_pos (by simp;omega),show (⟨o.Device,o.Next,o.Writes⟩:M.aG)=o from rfl,kH ho.ok,qA]
     cases hob:lL o with
     | false=>rw [if_neg (by simp)];exact .ret k1 ho
     | true =>
      rw [if_pos rfl]
      refine .bnd (rN k1) fun i4 v4 r4 c4 q4 => ?_
      dsimp only
      have hf:(⟨#[97]⟩:ByteArray).size≤16:=by decide
      rw [aIv ho q4.any hf aJ4,qA]
      have h7:=hob
      unfold lL inR at h7
      simp only [qM,qL] at h7
      have hq:yM (⟨o.Device,o.Next,r4,(⟨#[97]⟩:ByteArray),1⟩:M.aT)=true:=by
       have e:nS (⟨#[97]⟩:ByteArray)=true:=by decide
       unfold yM inR
       simp [q4.n,e]
       omega
      have hb:=aMf hob (by omega) h6 hq
      have en:aHj o r4 (⟨#[97]⟩:ByteArray) 1=(aBz o r4 (⟨#[97]⟩:ByteArray) 1,true):=by
       unfold aHj
       rw [if_pos hob,if_pos hb]
      have hob2:=aKq (k:=r4) (f:=(⟨#[97]⟩:ByteArray)) (n:=1) ho q4.any hf aJ4
      rw [en] at hob2 ⊢
      have e3:(aBz o r4 (⟨#[97]⟩:ByteArray) 1).Writes.length=o.Writes.length+1:=by simp [aBz]
      have e4:(aBz o r4 (⟨#[97]⟩:ByteArray) 1).Next=o.Next+1:=wrap_small (by omega) (by omega)
      exact ih (aBz o r4 (⟨#[97]⟩:ByteArray) 1) i4 v4 (by omega) hob2 (by omega) c4
    ·rw [if_neg (by simp;omega)]
     exact .ret k1 ho
  exact key fuel o i3 v3 (mD (by omega)) ho (by omega) c3
 ·exact .ret c3 ho
def svI (n:Nat) (s:M.Server):Prop:=s.aA.ok∧fB s.aA=true∧(s.aP.length≤60 ∧ ∀a∈s.aP,M.aP.ok a)∧s.Changes.length≤n ∧ ∀w∈s.Changes,wsm w
theorem svI.ok {n:Nat} {s:M.Server} (h:svI n s) (hn:n≤1000):M.Server.ok s:=⟨h.1,⟨ml (by have:=h.2.2.1.1;omega),h.2.2.1.2⟩,⟨ml (by have:=h.2.2.2.1;omega),fun w hw=>(h.2.2.2.2 w hw).1⟩⟩
theorem svI.mono {n m:Nat} {s:M.Server} (h:svI n s) (hm:n≤m):svI m s:=⟨h.1,h.2.1,h.2.2.1,by have:=h.2.2.2.1;omega,h.2.2.2.2⟩
theorem aKX {n:Nat} {s:M.Server} (h:svI n s) (hn:n≤1000):iE s=some s:=by
 have h1:=lK h.2.1
 have h2:=h.2.2.1.1
 have h3:=h.2.2.2.1
 unfold iE
 rw [kC _ (by omega),qA,aGS (by omega) (by omega),qA,aGS (by omega) (by omega),qA]
theorem aD2 {s:M.Server} {d:Int} (h:s.aP.length≤60 ∧ ∀a∈s.aP,M.aP.ok a) : ∃v,nV s d=some v∧inI v:=by
 have hl:=h.1
 have key : ∀(n k:Nat),s.aP.length-k<n→k≤s.aP.length → ∃v,lX s d n (k:Int)=some v∧inI v:=by
  intro n
  induction n with
  | zero=>intro k h _;omega
  | succ n ih =>
   intro k hn hk
   simp only [lX]
   rcases Nat.lt_or_ge k s.aP.length with h6 | h6
   ·rw [if_pos (bI h6),aO h6,qA,cU (by omega)]
    split
    ·exact ⟨_,rfl,(h.2 _ (qG h6)).Seq⟩
    ·exact ih (k+1) (by omega) (by omega)
   ·rw [if_neg (by simp;omega)]
    exact ⟨_,rfl,rG⟩
 exact key fuel 0 (mD (by omega)) (by omega)
theorem aOD {l:List M.aP} {d q:Int} (h:l.length≤60 ∧ ∀a∈l,M.aP.ok a) (hd:inI d) (hq:inI q) : ∃r,sW l d q=some r ∧ ∀a∈r,M.aP.ok a:=by
 have hl:=h.1
 have ins : ∀(k:Nat),k≤l.length → ∀a∈(List.take k l++[(⟨d,q⟩:M.aP)])++List.drop k l,M.aP.ok a:=by
  intro k hk a ha
  simp only [qP,List.mem_singleton] at ha
  rcases ha with (ha | rfl) | ha
  ·exact h.2 a (List.mem_of_mem_take ha)
  ·exact ⟨hd,hq⟩
  ·exact h.2 a (List.mem_of_mem_drop ha)
 have fin : ∀(k:Nat),k≤l.length → ∃r,((xA l (k:Int)).bind fun x24=>((app 16 ([]:List M.aP) (List.take (k:Int).toNat l)).bind fun x26=>((app 16 (List.take (k:Int).toNat l) ([(⟨d,q⟩:M.aP)])).bind fun x28=>((wM l (k:Int)).bind fun x30=>((app 16 ((List.take (k:Int).toNat l)++[(⟨d,q⟩:M.aP)]) (List.drop (k:Int).toNat l)).bind fun x32=>(some (((List.take (k:Int).toNat l)++[(⟨d,q⟩:M.aP)])++(List.drop (k:Int).toNat l))))))))=some r ∧ ∀a∈r,M.aP.ok a:=by
  intro k hk
  rw [aAh hk,qA,qH,aGS (by rw [qT];omega) (by omega),qA,yH (by simp only [qT,qJ,qK];omega) (by omega),qA,aFn hk,qA,yH (by simp only [qE,qT,qU,qJ,qK];omega) (by omega),qA]
  exact ⟨_,rfl,ins k hk⟩
 have key : ∀(n k:Nat),l.length-k<n→k≤l.length → ∃r,lZ l d q n (k:Int)=some r ∧ ∀a∈r,M.aP.ok a:=by
  intro n
  induction n with
  | zero=>intro k h _;omega
  | succ n ih =>
   intro k hn hk
   simp only [lZ]
   rcases Nat.lt_or_ge k l.length with h6 | h6
   ·rw [if_pos (bI h6),aO h6,qA,cU (by omega)]
    split
    ·exact ih (k+1) (by omega) (by omega)
    split
    ·refine ⟨_,rfl,fun a ha => ?_⟩
     rcases List.mem_or_eq_of_mem_set ha with ha | rfl
     ·exact h.2 a ha
     ·exact ⟨(h.2 _ (qG h6)).Device,hq⟩
    ·exact fin k hk
   ·rw [if_neg (by simp;omega)]
    exact fin k hk
 unfold sW
 rw [aGS (by omega) (by omega),qA]
 exact key fuel 0 (mD (by omega)) (by omega)
theorem aKy {s:M.aA} {w:M.aT} (hs:fB s=true):fB (aFV s w).1=true:=by
 cases h2:(aFV s w).2 with
 | false=>rw [aEq h2];exact hs
 | true =>
  unfold aFV at h2 ⊢
  by_cases h1:(aC9 (gH s w.Key) w.Field w.N).2=true
  ·rw [if_pos h1] at h2 ⊢
   exact yR (aAo h1) h2
  ·rw [if_neg h1] at h2;cases h2
theorem recv {n:Nat} {s:M.Server} {w:M.aT} (h:svI n s) (hn:n≤900) (hw:wsm w) : ∃x,bZ s w=some x∧svI (n+1) x.1:=by
 have hm:=h.mono (Nat.le_succ n)
 have hz:=lK h.2.1
 have hc:=h.2.2.2.1
 unfold bZ
 rw [aKX h (by omega),qA,xJ (h.ok (by omega)),qA]
 cases aEP s
 ·exact ⟨_,rfl,hm⟩
 rw [if_neg (by simp),sO hw.1,qA]
 cases yM w
 ·exact ⟨_,rfl,hm⟩
 rw [if_neg (by simp)]
 obtain ⟨r,er,hr⟩:=aOD h.2.2.1 hw.1.Device hw.1.Seq
 obtain ⟨v,ev,hv⟩:=aD2 (s:=s) (d:=w.Device) h.2.2.1
 rw [er,qA,ev,qA]
 by_cases h60:(r.length:Int)>60
 ·rw [if_pos (by simpa using h60)];exact ⟨_,rfl,hm⟩
 rw [if_neg (by simpa using h60)]
 split
 ·exact ⟨_,rfl,hm⟩
 split
 ·exact ⟨_,rfl,hm⟩
 have hch : ∀y∈s.Changes++[w],wsm y:=fun y hy=>by
  rcases List.mem_append.1 hy with hy | hy
  ·exact h.2.2.2.2 y hy
  ·rw [List.mem_singleton.1 hy];exact hw
 have hlen:(s.Changes++[w]).length≤n+1:=by simp only [qE,qJ,qK];omega
 rw [tN h.1 hw.1 (by omega),qA,yH (by simp only [qJ,qK];omega) (by omega),qA]
 split
 ·exact ⟨_,rfl,(aDz h.1 hw.1 (by omega)).1,aKy h.2.1,⟨by dsimp only;omega,hr⟩,hlen,hch⟩
 ·exact ⟨_,rfl,h.1,h.2.1,⟨by dsimp only;omega,hr⟩,hlen,hch⟩
theorem aIP {b:List Int} {i h:Int} (c0:okC b i h):Dr b (svI 5) (pK (⟨b,i,h⟩:M.aK)):=by
 unfold pK
 refine .bnd (aAf (by decide) (by decide) c0) fun i0 v0 s0 c00 q0=>.bnd (aR c00) fun i1 v1 r1 c1 q1 => ?_
 obtain ⟨N,rfl⟩:=xM q1.1
 have hN:=q1.2.1 (by omega)
 refine wI (L:=fun n v (s:(M.Server)×Int×Int)=>gS (⟨b,i,h⟩:M.aK) n v s.1.aA.Name s.1.aA.Auto s.2.1 s.2.2 s.1.aA.Items s.1.aP s.1.Changes) (I:=fun k s=>k≤100000∧okC b s.2.1 s.2.2∧k≤5∧svI (5-k) s.1) (Q:=Dr b (svI 5)) (fun n k s hi ih => ?_) (fun n s hi => ?_) fuel N ((⟨s0,([]:List M.aP),([]:List M.aT)⟩:M.Server),i1,v1) (mD (by omega)) ⟨by omega,c1,⟨by omega,q0.1,q0.2.1,⟨by simp,by simp⟩,by simp,by simp⟩⟩
 ·obtain ⟨x,ci,ch⟩:=s
  obtain ⟨k0,k1,k2⟩:=hi
  dsimp only at k1 k2
  simp only [gS]
  rw [if_pos (aKl k),aEm k0]
  obtain ⟨k2,k3⟩:=k2
  refine .bnd (aR k1) fun i3 v3 r3 c3 q3 => ?_
  dsimp only
  rw [show (⟨(⟨x.aA.Name,x.aA.Items,x.aA.Auto⟩:M.aA),x.aP,x.Changes⟩:M.Server)=x from rfl]
  refine .aBq (aD2 k3.2.2.1) fun v hv=>.bnd (rN c3) fun i4 v4 r4 c4 q4=>.bnd (wU c4) fun i5 v5 r5 c5 q5=>.bnd (aR c5) fun i6 v6 r6 c6 q6=>.aBq (recv k3 (by omega) (aIT (cJ _) (cJ _) q4.any (Nat.le_trans q5 (by omega)) (bgI (aNa q6)))) fun y hy => ?_
  exact ih (y.1,i6,v6) ⟨by omega,c6,by omega,hy.mono (by omega)⟩
 ·obtain ⟨x,ci,ch⟩:=s
  obtain ⟨k0,k1,k2⟩:=hi
  dsimp only at k1 k2
  simp only [gS]
  rw [if_neg aES]
  exact .ret k1 (k2.2.mono (by omega))
def rpI (r:M.aD):Prop:=r.Base.ok∧M.aA.sz r.Base≤10000∧inI r.Seen∧obI r.Sync.aG∧inI r.Sync.Tries∧inI r.Sync.WaitUntil
theorem rpI.ok {r:M.aD} (h:rpI r):r.ok:=⟨h.1,h.2.2.1,h.2.2.2.1.ok,h.2.2.2.2.1,h.2.2.2.2.2⟩
theorem rpI.sz {r:M.aD} (h:rpI r):M.aD.sz r≤11000:=by
 have h1:=h.2.1
 have h2:=h.2.2.2.1.sz
 simp only [M.aD.sz,M.Sync.sz]
 omega
theorem aGX:rpI (⟨(⟨(⟨#[]⟩:ByteArray),([]:List M.Item),0⟩:M.aA),0,(⟨(⟨0,0,([]:List M.aT)⟩:M.aG),0,0⟩:M.Sync)⟩:M.aD):=⟨⟨s16 (by decide),⟨by simp [maxLen],by simp⟩,rG⟩,by decide,rG,aHW rG rG,rG,rG⟩
theorem aPM {n:Nat} {s:M.Server} {d:Int} (h:svI n s) (hn:n≤900) (hd:inI d) : ∃x,oK s d=some x∧rpI x.1:=by
 have hz:=lK h.2.1
 have hc:=h.2.2.2.1
 obtain ⟨o,eo,ho,_⟩:=aNZ hd
 have hr:rpI (⟨s.aA,(List.length s.Changes:Int),(⟨o.1,0,0⟩:M.Sync)⟩:M.aD):=⟨h.1,hz,bgI (by dsimp only;omega),ho,rG,rG⟩
 unfold oK
 rw [eo,qA,kC _ (by omega),qA]
 cases o.2
 ·exact ⟨_,rfl,aGX⟩
 rw [if_neg (by simp),xJ (h.ok (by omega)),qA]
 cases aEP s
 ·exact ⟨_,rfl,aGX⟩
 rw [if_neg (by simp),tI hr.ok,qA]
 cases vA (⟨s.aA,(List.length s.Changes:Int),(⟨o.1,0,0⟩:M.Sync)⟩:M.aD)
 ·exact ⟨_,rfl,aGX⟩
 ·exact ⟨_,rfl,hr⟩
theorem aGD {r:M.aD} {k:M.Key} {f:ByteArray} {n:Int} (h:rpI r) (hk:aGJ k) (hf:f.size≤16) (hn:inI n) : ∃x,hJ r k f n=some x∧rpI x.1:=by
 refine ⟨_,aC6 h.ok (by have:=h.sz;omega) hk.1 (s16 hf) hn,?_⟩
 unfold nWL
 split
 ·exact ⟨h.1,h.2.1,h.2.2.1,aKq h.2.2.2.1 hk hf hn,h.2.2.2.2.1,h.2.2.2.2.2⟩
 ·exact h
theorem aOh {l:List M.aT} : ∀ {s:M.aA},s.ok→fB s=true→(∀w∈l,M.aT.ok w)→(yE s l).ok∧fB (yE s l)=true:=by
 induction l with
 | nil=>intro s hs hn _;exact ⟨hs,hn⟩
 | cons w l ih =>
  intro s hs hn hl
  have hz:=lK hn
  exact ih (s:=(aFV s w).1) (aDz hs (hl w (by simp)) (by omega)).1 (aKy hn) fun y hy=>hl y (by simp [hy])
end Go.Proofs.YtidhkhdnjonjfaaGreat.gen
