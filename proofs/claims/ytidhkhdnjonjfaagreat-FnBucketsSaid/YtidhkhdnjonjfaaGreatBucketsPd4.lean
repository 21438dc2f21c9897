/-
  Helper text. No conditions.
-/
import Derived.Test.YtidhkhdnjonjfaaGreatBucketsPd3
set_option linter.unusedVariables false
set_option linter.unusedSimpArgs false
namespace Go.Proofs.YtidhkhdnjonjfaaGreat.gen
open Go Go.Sh
open Go.IntKind (i64)
def aHq (d:M.Database) (j:Nat) (s:M.aA):M.Database:=(⟨d.Name,d.Version,d.Stores.set j s,d.Unique⟩:M.Database)
def aIi (d:M.Database) (o:M.Op) (j:Nat) (s:M.aA):M.Database×Int×Bool:=if (nOn s o).2.2=true then (if nDb (aHq d j (nOn s o).1)=true then (aHq d j (nOn s o).1,(nOn s o).2.1,true) else (d,0,false)) else (d,0,false)
def aJ5 (d:M.Database) (o:M.Op):M.Database×Int×Bool:=if (nDb d&&nOp o)=true then (match d.Stores[(rD (wA o.aA) d.Stores).toNat]? with
 | some s=>if rD (wA o.aA) d.Stores<0 then (d,0,false) else aIi d o (rD (wA o.aA) d.Stores).toNat s
 | none=>(d,0,false)) else (d,0,false)
theorem aIs {d:M.Database} {s:M.aA} {j:Nat} (hd:d.ok) (hs:s.ok):(aHq d j s).ok:=⟨hd.Name,hd.Version,⟨by show (d.Stores.set j s).length≤_;rw [qN];exact hd.Stores.1,fun y hy=>by
 rcases List.mem_or_eq_of_mem_set hy with h | rfl
 ·exact hd.Stores.2 y h
 ·exact hs⟩,hd.Unique⟩
theorem aNQ {d:M.Database} {s:M.aA} {j:Nat} (hz:M.Database.sz d≤1000000) (hs:M.aA.sz s≤10000):M.Database.sz (aHq d j s)≤1048576:=by
 have:=aEt (f:=M.aA.sz) (x:=s) (l:=d.Stores) (i:=j)
 simp only [aHq,M.Database.sz,qN] at hz ⊢
 omega
theorem aG1 {d:M.Database} {o:M.Op} (hd:d.ok) (ho:aEx o) (hz:M.Database.sz d≤1000000):tP d o=some (aJ5 d o):=by
 unfold tP aJ5
 rw [sJ d (by omega),qA,wG hd,qA,lW hd (by omega),qA,aD8 ho,qA]
 cases hD:nDb d with
 | false=>rfl
 | true =>
  cases hO:nOp o with
  | false=>rfl
  | true =>
   rw [if_neg (by simp),if_neg (by simp),if_pos (show (true&&true)=true from rfl)]
   by_cases hf:rD (wA o.aA) d.Stores<0
   ·rw [if_pos (by simpa using hf)]
    split
    ·rw [if_pos hf]
    ·rfl
   ·obtain ⟨j,e,hj⟩:=lM hf
    have ht:=(aD1 hD).1 j hj
    have hs:=hd.Stores.2 _ (qG hj)
    have hon:aMB d.Stores[j] o:=⟨hs,ho,hO,ht⟩
    obtain ⟨v1,v2⟩:=aLx hon
    rw [if_neg (by simpa using hf),e,qH,qF hj]
    simp only [show ¬((j:Nat):Int)<0 from by omega,if_false]
    rw [aO hj,qA]
    unfold aIi
    obtain ⟨x,e1,e2,e3⟩:=aE0 hon
    rw [e1,qA,qA,←e2]
    cases hx:x.2.2 with
    | false=>rfl
    | true =>
     obtain rfl:=e3 hx
     rw [if_neg (by simp),if_pos rfl]
     have:=lW (aIs (j:=j) hd v1) (aNQ hz v2)
     unfold aHq at this ⊢
     rw [this,qA]
     cases nDb (⟨d.Name,d.Version,d.Stores.set j (nOn d.Stores[j] o).1,d.Unique⟩:M.Database)<;>rfl
theorem aI7 {d:M.Database} {o:M.Op} (hd:d.ok) (ho:aEx o) (hz:M.Database.sz d≤1000000):(aJ5 d o).1.ok∧M.Database.sz (aJ5 d o).1≤M.Database.sz d+10000:=by
 unfold aJ5
 split
 ·rename_i h
  rw [qM] at h
  by_cases hf:rD (wA o.aA) d.Stores<0
  ·split
   ·rw [if_pos hf];exact ⟨hd,by dsimp only;omega⟩
   ·exact ⟨hd,by dsimp only;omega⟩
  ·obtain ⟨j,e,hj⟩:=lM hf
   have hon:aMB d.Stores[j] o:=⟨hd.Stores.2 _ (qG hj),ho,h.2,(aD1 h.1).1 j hj⟩
   obtain ⟨v1,v2⟩:=aLx hon
   rw [e,qH,qF hj]
   simp only [show ¬((j:Nat):Int)<0 from by omega,if_false]
   unfold aIi
   split
   ·split
    ·refine ⟨aIs hd v1,?_⟩
     have:=aEt (f:=M.aA.sz) (x:=(nOn d.Stores[j] o).1) (l:=d.Stores) (i:=j)
     simp only [aHq,M.Database.sz,qN]
     omega
    ·exact ⟨hd,by dsimp only;omega⟩
   ·exact ⟨hd,by dsimp only;omega⟩
 ·exact ⟨hd,by dsimp only;omega⟩
theorem aN4 {d:M.Database} (h:nDb d=true) (hu : ∀u∈d.Unique,u.aA.size≤8):M.Database.sz d≤100000:=by
 obtain ⟨h1,h2,h3,h4,h5⟩:=aD1 h
 have a1:=kU (w:=M.aA.sz) (b:=10000) (xs:=d.Stores) (fun x hx=>by
  obtain ⟨k,hk,rfl⟩:=List.getElem_of_mem hx
  exact lK (h1 k hk))
 have a2:=kU (w:=M.aH.sz) (b:=16) (xs:=d.Unique) (fun x hx=>by
  have b1:=h5 x hx
  have b2:=hu x hx
  simp only [M.aH.sz]
  omega)
 simp only [M.Database.sz]
 omega
theorem aJU {l:List M.aA} {a:ByteArray} (h:0≤rD (wA a) l) : ∃x∈l,x.Name.toList=a.toList:=by
 obtain ⟨k,e,hk⟩:=lM (show ¬rD (wA a) l<0 by omega)
 obtain ⟨_,hf⟩:=zF e
 exact ⟨_,qG hk,by unfold wA at hf;exact eq_of_beq hf⟩
theorem aH6 {d:M.Database} (h:nDb d=true) : ∀u∈d.Unique,u.aA.size≤8:=by
 intro u hu
 obtain ⟨h1,_⟩:=aD1 h
 unfold nDb at h
 simp only [qM,qL,qQ,qR] at h
 obtain ⟨k,hk,rfl⟩:=List.getElem_of_mem hu
 have:=h.2.1 k hk
 unfold aAT at this
 rw [qF hk] at this
 simp only [Option.any_some,qM,qL] at this
 obtain ⟨x,hx,e⟩:=aJU this.1
 obtain ⟨j,hj,rfl⟩:=List.getElem_of_mem hx
 have hn:=(pB (h1 j hj)).2.1
 unfold nS inR at hn
 simp only [qM,qL] at hn
 have:=bsize e
 omega
def aHB (d0:M.Database):M.Database→List Int→List M.Op→M.Database×List Int×Bool
 | x,ns,[]=>(x,ns,true)
 | x,ns,o::l=>if (aJ5 x o).2.2=true then aHB d0 (aJ5 x o).1 (ns++[(aJ5 x o).2.1]) l else (d0,([]:List Int),false)
def zR (d:M.Database) (l:List M.Op):M.Database×List Int×Bool:=if nDb d=true then (if l.length>6 then (d,([]:List Int),false) else aHB d d [] l) else (d,([]:List Int),false)
theorem aKR {d0:M.Database} {l:List M.Op} (h6:l.length≤6) (ho : ∀o∈l,aEx o) (hz0:M.Database.sz d0≤1000000) : ∀(n k:Nat) (x:M.Database) (ns:List Int),l.length-k<n→k≤l.length→x.ok→M.Database.sz x≤900000+10000*k→ns.length=k→mU d0 l n (k:Int) x.Name x.Version ns x.Stores x.Unique=some (aHB d0 x ns (l.drop k))
 | 0,_,_,_,h,_,_,_,_=>by omega
 | n+1,k,x,ns,hn,hk,hx,hz,hs=>by
  simp only [mU]
  rcases Nat.lt_or_ge k l.length with hlt | hge
  ·rw [if_pos (bI hlt),aO hlt,qA]
   show ((tP x l[k]).bind _)=_
   have hok:=ho _ (qG hlt)
   obtain ⟨v1,v2⟩:=aI7 hx hok (by omega)
   rw [aG1 hx hok (by omega),qA,qV hlt]
   simp only [aHB]
   cases (aJ5 x l[k]).2.2 with
   | false =>
    rw [if_pos (by simp),if_neg (by simp),sJ d0 (by omega),qA]
   | true =>
    rw [if_neg (by simp),if_pos rfl,fC (by simp;omega),qA,cU (by omega)]
    exact aKR h6 ho hz0 n (k+1) _ _ (by omega) hlt v1 (Nat.le_trans v2 (by omega)) (by simp [hs])
  ·have e:k=l.length:=by omega
   subst e
   rw [if_neg (by rw [aW];simp),qY]
   rfl
theorem aCG {d:M.Database} {l:List M.Op} (hd:d.ok) (hl:l.length≤1000) (ho : ∀o∈l,aEx o) (hz:M.Database.sz d≤1048576):pE d l=some (zR d l):=by
 unfold pE zR
 rw [sJ d (by omega),qA,lW hd (by omega),qA]
 cases hD:nDb d with
 | false=>rfl
 | true =>
  have hs:=aN4 hD (aH6 hD)
  rw [if_neg (by simp),if_pos rfl]
  by_cases h6:l.length>6
  ·rw [if_pos (by simp;omega),if_pos h6]
  ·rw [if_neg (by simp;omega),if_neg h6]
   exact aKR (by omega) ho (by omega) fuel 0 d [] (by unfold fuel;omega) (by omega) hd (by omega) rfl
theorem aN0 {d:M.Database} {o:M.Op} (h:(aJ5 d o).2.2=true):nDb (aJ5 d o).1=true:=by
 unfold aJ5 at h ⊢
 split at h
 ·rename_i h1
  rw [if_pos h1]
  split at h
  ·rename_i s hs
   split at h
   ·cases h
   ·rename_i h2
    rw [if_neg h2]
    unfold aIi at h ⊢
    split at h
    ·rename_i h3
     rw [if_pos h3]
     split at h
     ·rename_i h4
      rw [if_pos h4]
      exact h4
     ·cases h
    ·cases h
  ·cases h
 ·cases h
theorem aHL {d0:M.Database} (h0:d0.ok) : ∀ {l:List M.Op} {x:M.Database} {ns:List Int},(∀o∈l,aEx o)→x.ok→nDb x=true→(aHB d0 x ns l).1=d0∨((aHB d0 x ns l).1.ok∧nDb (aHB d0 x ns l).1=true)
 | [],x,ns,_,hx,hb=>.inr ⟨hx,hb⟩
 | o::l,x,ns,ho,hx,hb=>by
  have hz:=aN4 hb (aH6 hb)
  simp only [aHB]
  split
  ·rename_i h
   exact aHL h0 (fun y hy=>ho y (by simp [hy])) (aI7 hx (ho o (by simp)) (by omega)).1 (aN0 h)
  ·exact .inl rfl
theorem aEv {d:M.Database} {l:List M.Op} (hd:d.ok) (ho : ∀o∈l,aEx o):(zR d l).1=d∨((zR d l).1.ok∧M.Database.sz (zR d l).1≤100000):=by
 unfold zR
 split
 ·rename_i h
  split
  ·exact .inl rfl
  ·rcases aHL hd ho hd h (ns:=[]) with e | ⟨h1,h2⟩
   ·exact .inl e
   ·exact .inr ⟨h1,aN4 h2 (aH6 h2)⟩
 ·exact .inl rfl
def aEi:M.Database→Nat→List (List Int)→M.Database×Int
 | d,i,[]=>(d,(i:Int))
 | d,i,e::l=>if (aAg e).2=true then aEi (zR d (aAg e).1).1 (i+1) l else (d,(i:Int))
def aGd (d:M.bF):M.Database×Int:=aEi d.Base 0 (aO3 d.Log).1
theorem aIN {x3:List (List Int)×Int} (hl:x3.1.length≤1048576) (ho : ∀l∈x3.1,okB l∧l.length≤4000) : ∀(n k:Nat) (d:M.Database),x3.1.length-k<n→k≤x3.1.length→d.ok→M.Database.sz d≤1048576→kP x3 n (k:Int) d.Name d.Version d.Stores d.Unique=some (aEi d k (x3.1.drop k))
 | 0,_,_,h,_,_,_=>by omega
 | n+1,k,d,hn,hk,hd,hz=>by
  simp only [kP]
  rcases Nat.lt_or_ge k x3.1.length with hlt | hge
  ·obtain ⟨b1,b2⟩:=ho _ (qG hlt)
   obtain ⟨o1,o2⟩:=aFh b1 (by omega)
   rw [if_pos (bI hlt),aO hlt,qA,aDu b1 (by omega),qA,qV hlt]
   simp only [aEi]
   cases (aAg x3.1[k]).2 with
   | false=>rfl
   | true =>
    rw [if_neg (by simp),if_pos rfl]
    show ((pE d (aAg x3.1[k]).1).bind _)=_
    rw [aCG hd (by omega) (fun o h=>(o2 o h).1) hz,qA,cU (by omega)]
    rcases aEv hd (fun o h=>(o2 o h).1) with e | ⟨v1,v2⟩
    ·rw [e]
     exact aIN hl ho n (k+1) d (by omega) hlt hd hz
    ·exact aIN hl ho n (k+1) _ (by omega) hlt v1 (by omega)
  ·have e:k=x3.1.length:=by omega
   subst e
   rw [if_neg (by rw [aW];simp),qY]
   rfl
theorem aEu {d:M.bF} (hd:d.ok) (hz:M.bF.sz d≤1048576):rO d=some (aGd d):=by
 have hz1:M.Database.sz d.Base≤1048576:=by simp only [M.bF.sz] at hz;omega
 have hz2:d.Log.length≤1048576:=by simp only [M.bF.sz] at hz;omega
 obtain ⟨g1,g2⟩:=aLS hd.Log
 unfold rO aGd
 rw [sJ d.Base (by omega),qA,aE1 hd.Log (by omega),qA]
 exact aIN (x3:=aO3 d.Log) (by omega) g2 fuel 0 d.Base (by unfold fuel;omega) (by omega) hd.Base hz1
theorem aCp : ∀ {l:List (List Int)} {d:M.Database} {i:Nat},(∀e∈l,okB e∧e.length≤4000)→d.ok→M.Database.sz d≤1048576→(aEi d i l).1.ok∧M.Database.sz (aEi d i l).1≤1048576
 | [],d,i,_,hd,hz=>⟨hd,hz⟩
 | e::l,d,i,ho,hd,hz=>by
  obtain ⟨b1,b2⟩:=ho e (by simp)
  obtain ⟨o1,o2⟩:=aFh b1 (by omega)
  simp only [aEi]
  split
  ·rcases aEv hd (fun o h=>(o2 o h).1) with e' | ⟨v1,v2⟩
   ·rw [e']
    exact aCp (fun x hx=>ho x (by simp [hx])) hd hz
   ·exact aCp (fun x hx=>ho x (by simp [hx])) v1 (by omega)
  ·exact ⟨hd,hz⟩
theorem aKS {d:M.bF} (hd:d.ok) (hz:M.bF.sz d≤1048576):(aGd d).1.ok∧M.Database.sz (aGd d).1≤1048576:=aCp (aLS hd.Log).2 hd.Base (by simp only [M.bF.sz] at hz;omega)
def aMC (l:List Int) (i:Int) (b:List Int):List Int:=l++(aE5 b++uv (aNl i b).toNat)
def aMp (l:List Int) (i:Int) (b:List Int):List Int×Bool:=if i<0 then (l,false) else if (aMC l i b).length>4000 then (l,false) else (aMC l i b,true)
theorem aOL {l b:List Int} {i:Int}:aMC l i b=(l++aE5 b)++uv (aNl i b).toNat:=by unfold aMC;rw [qS]
theorem aOA (i:Int) (b:List Int):0≤aNl i b∧aNl i b<2147483647:=aOG _
theorem aAG {l b:List Int} {i:Int} (hl:l.length≤1048576) (hb:b.length≤100000):mW l i b=some (aMp l i b):=by
 have hs:=aOA i b
 have hu:=aCe (n:=b.length) (by omega)
 have e0:=iT (r:=l++aE5 b) (n:=(aNl i b).toNat) (by unfold aE5;simp only [qE];omega) (by omega)
 rw [Int.toNat_of_nonneg hs.1,←aOL] at e0
 unfold mW aMp
 rw [aGS (by omega) (by omega),qA,kQ (by omega) (by omega),qA,aAt (by omega),qA]
 show ((bD (l++aE5 b) (aNl i b)).bind _)=_
 rw [e0,qA]
 by_cases hi:i<0
 ·rw [if_pos (by simpa using hi),if_pos hi]
 ·rw [if_neg (by simpa using hi),if_neg hi]
  by_cases h4:(aMC l i b).length>4000
  ·rw [if_pos (by simp;omega),if_pos h4]
  ·rw [if_neg (by simp;omega),if_neg h4]
def aQB (d:M.bF) (l:List M.Op):Bool:=(zR (aGd d).1 l).2.2&&((List.length (aAd l):Int) != 0&&(((aGd d).2==d.Count)&&(aMp d.Log d.Count (aAd l)).2))
def aC5 (d:M.bF) (l:List M.Op):M.bF×Bool:=if aQB d l=true then ((⟨d.Base,(aMp d.Log d.Count (aAd l)).1,i64.wrap (d.Count+1)⟩:M.bF),true) else (d,false)
theorem aLR (l:List M.Op):(aAd l).length≤2000:=by
 unfold aAd
 split
 ·rename_i h
  rw [qM,qL,qQ] at h
  have h1:=aGN (f:=enO) (fun o hx=>aIE (h.1 o hx))
  have h9:=aCe (n:=l.length) (by omega)
  rw [qE]
  omega
 ·simp
theorem aC0 {d:M.bF} {l:List M.Op} (hd:d.ok) (hz:M.bF.sz d≤1048576) (hl:l.length≤1000) (ho : ∀o∈l,aEx o):jM d l=some (aC5 d l):=by
 have hz2:d.Log.length≤1048576:=by simp only [M.bF.sz] at hz;omega
 have he:=aLR l
 obtain ⟨v1,v2⟩:=aKS hd hz
 unfold jM aC5 aQB
 rw [yN d (by omega),qA,aEu hd hz,qA,aCG v1 hl ho v2,qA,aAJ hl ho,qA,aAG hz2 (by omega),qA]
 unfold bne
 generalize (zR (aGd d).1 l).2.2=a1
 generalize ((List.length (aAd l):Int)==0)=a2
 generalize ((aGd d).2==d.Count)=a3
 cases a1<;>cases a2<;>cases a3<;>cases (aMp d.Log d.Count (aAd l)).2<;>rfl
theorem aFM {d:M.bF} {l:List M.Op} (hd:d.ok):(aC5 d l).1.ok∧M.bF.sz (aC5 d l).1≤M.bF.sz d+4000∧(aC5 d l).1.Base=d.Base:=by
 unfold aC5
 split
 ·rename_i h
  unfold aQB at h
  simp only [qM] at h
  have h4:=h.2.2.2
  unfold aMp at h4 ⊢
  split at h4
  ·cases h4
  ·rename_i hi
   rw [if_neg hi]
   split at h4
   ·cases h4
   ·rename_i hl
    rw [if_neg hl]
    refine ⟨⟨hd.Base,⟨Nat.le_trans (by omega:(aMC d.Log d.Count (aAd l)).length≤4000) (by unfold maxLen;omega),fun y hy => ?_⟩,cJ _⟩,?_,rfl⟩
    ·have hy':y∈aMC d.Log d.Count (aAd l):=hy
     unfold aMC at hy'
     simp only [qP] at hy'
     rcases hy' with h | h | h
     ·exact hd.Log.2 y h
     ·exact zN (aJB l).2 y h
     ·exact aBV _ y h
    ·simp only [M.bF.sz]
     omega
 ·exact ⟨hd,by dsimp only;omega,rfl⟩
theorem aDo {s:M.aE} {v:Int} (hs:s.ok):pT s v=some (rD (fun c:M.Cache=>c.Version==v) s.Caches):=by
 have hm:=le_max hs.Caches.1
 unfold pT
 rw [findAll (L:=gM s v) (f:=fun c:M.Cache=>c.Version==v) (A:=fun i=>some (i:Int)) (E:=some (-1)) hs.Caches.1 (fun m k hk => ?_) (fun m => ?_),vY]
 ·simp only [gM]
  rw [if_pos (bI hk),aO hk,qA,cU (by omega)]
 ·simp only [gM]
  rw [if_neg (by rw [aW];simp)]
def aDO (a b:ByteArray) (x:M.Cached):Bool:=(x.Site.toList==a.toList)&&(x.Path.toList==b.toList)
theorem aFG {c:M.Cache} {a b:ByteArray} (hc:c.ok):sR c a b=some (rD (aDO a b) c.Entries):=by
 have hm:=le_max hc.Entries.1
 unfold sR
 rw [findAll (L:=hY c a b) (f:=aDO a b) (A:=fun i=>some (i:Int)) (E:=some (-1)) hc.Entries.1 (fun m k hk => ?_) (fun m => ?_),vY]
 ·simp only [hY]
  rw [if_pos (bI hk),aO hk,qA,cU (by omega),aO0]
  rfl
 ·simp only [hY]
  rw [if_neg (by rw [aW];simp)]
def aDv (s:M.aE) (v:Int):Nat:=(s.Caches.takeWhile fun c=>decide (c.Version<v)).length
def xT (s:M.aE) (v:Int) (k:Nat):List M.Cache:=s.Caches.take k++((⟨v,([]:List M.Cached)⟩:M.Cache)::s.Caches.drop k)
def aBP (s:M.aE) (v:Int):M.aE×Bool:=if (gD s&&gD (⟨xT s v (aDv s v)⟩:M.aE))=true then ((⟨xT s v (aDv s v)⟩:M.aE),true) else (s,false)
theorem aGf {s:M.aE} {v:Int} (hs:s.ok) (hv:inI v) (hl:s.Caches.length≤1073741824) (k:Nat):M.aE.ok (⟨xT s v k⟩:M.aE):=by
 refine ⟨⟨?_,fun x hx => ?_⟩⟩
 ·show (xT s v k).length≤maxLen
  unfold xT maxLen
  simp only [qE,qJ,qT,qU]
  omega
 ·have hx:x∈xT s v k:=hx
  unfold xT at hx
  rcases List.mem_append.1 hx with hx | hx
  ·exact hs.Caches.2 x (List.mem_of_mem_take hx)
  ·rcases List.mem_cons.1 hx with rfl | hx
   ·exact ⟨hv,⟨by simp [maxLen],by simp⟩⟩
   ·exact hs.Caches.2 x (List.mem_of_mem_drop hx)
def aFa (s:M.aE) (v:Int) (k:Nat):Option (M.aE×Bool):=(bR s).bind fun a=>if (!a)=true then ((bX s).bind fun y=>some (y,false)) else ((bR (⟨xT s v k⟩:M.aE)).bind fun b=>if (!b)=true then ((bX s).bind fun y=>some (y,false)) else some ((⟨xT s v k⟩:M.aE),true))
theorem aDs {s:M.aE} {v:Int} (hs:s.ok) (hv:inI v) (hz:M.aE.sz s≤1073741824):jD s v=some (aBP s v):=by
 have hl:s.Caches.length≤1073741824:=by simp only [M.aE.sz] at hz;omega
 have hm:=le_max hs.Caches.1
 unfold jD
 rw [tG s hz,qA,aIC (l:=s.Caches) (f:=fun c:M.Cache=>decide (c.Version<v)) (L:=gW s v s) (S:=aFa s v) hs.Caches.1 (fun n k hk => ?_) (fun n => ?_)]
 ·unfold aFa aBP
  rw [jW hs,qA,jW (aGf hs hv hl _),qA,tG s hz,qA]
  show _=some (if (gD s&&gD (⟨xT s v (aDv s v)⟩:M.aE))=true then _ else _)
  unfold aDv
  generalize gD (⟨xT s v (List.takeWhile (fun c:M.Cache=>decide (c.Version<v)) s.Caches).length⟩:M.aE)=b
  cases gD s<;>cases b<;>rfl
 ·simp only [gW]
  rw [if_pos (bI hk),aO hk,qA,cU (by omega)]
  by_cases h:s.Caches[k].Version<v
  ·rw [if_pos (by simpa using h),if_pos (by simpa using h)]
  ·rw [if_neg (by simpa using h),if_neg (by simpa using h)]
   rw [aAh (by omega),qA,qH,fC (by simp only [qK,qT];omega),qA,fC (by simp only [qJ,qK,qT];omega),qA,fC (by simp only [qE,qJ,qK,qT,qU];omega),qA,qS]
   rfl
 ·simp only [gW]
  rw [if_neg (by rw [aW];simp)]
  rw [aAh (Nat.le_refl _),qA,qH,fC (by simp only [qK,qT];omega),qA,fC (by simp only [qJ,qK,qT];omega),qA,fC (by simp only [qE,qJ,qK,qT,qU];omega),qA,qS]
  rfl
theorem aLF {s:M.aE} {v:Int} (hs:s.ok) (hv:inI v) (hz:M.aE.sz s≤1073741824):M.aE.ok (aBP s v).1:=by
 have hl:s.Caches.length≤1073741824:=by simp only [M.aE.sz] at hz;omega
 unfold aBP
 split
 ·exact aGf hs hv hl _
 ·exact hs
theorem aJj {s:M.aE} {v:Int} (h:(aBP s v).2=true):gD (aBP s v).1=true:=by
 unfold aBP at h ⊢
 split at h
 ·rename_i h1
  rw [if_pos h1]
  exact (Bool.and_eq_true_iff.1 h1).2
 ·cases h
def aDR (c:M.Cache) (a p:ByteArray) (x:M.Response):M.Cache:=(⟨c.Version,if rD (aDO a p) c.Entries≥0 then c.Entries.set (rD (aDO a p) c.Entries).toNat (⟨a,p,x⟩:M.Cached) else c.Entries++[(⟨a,p,x⟩:M.Cached)]⟩:M.Cache)
def aFZ (s:M.aE) (v:Int) (a p:ByteArray) (x:M.Response):List M.Cache:=match s.Caches[(rD (fun c:M.Cache=>c.Version==v) s.Caches).toNat]? with
 | some c=>s.Caches.set (rD (fun c:M.Cache=>c.Version==v) s.Caches).toNat (aDR c a p x)
 | none=>s.Caches
def aE3 (s:M.aE) (v:Int) (a p:ByteArray) (x:M.Response):M.aE×Bool:=if rD (fun c:M.Cache=>c.Version==v) s.Caches<0 then (s,false) else (if (gD s&&gD (⟨aFZ s v a p x⟩:M.aE))=true then ((⟨aFZ s v a p x⟩:M.aE),true) else (s,false))
theorem aKC {c:M.Cache} {a p:ByteArray} {x:M.Response} (hc:c.ok) (hl:c.Entries.length≤1073741824) (ha:a.size≤maxLen) (hp:p.size≤maxLen) (hx:x.ok):M.Cache.ok (aDR c a p x):=by
 unfold aDR
 refine ⟨hc.Version,?_⟩
 dsimp only
 split
 ·refine ⟨by rw [qN];exact hc.Entries.1,fun y hy => ?_⟩
  rcases List.mem_or_eq_of_mem_set hy with hy | rfl
  ·exact hc.Entries.2 y hy
  ·exact ⟨ha,hp,hx⟩
 ·refine ⟨by simp only [qE,qJ,qK];unfold maxLen;omega,fun y hy => ?_⟩
  rcases List.mem_append.1 hy with hy | hy
  ·exact hc.Entries.2 y hy
  ·rw [List.mem_singleton.1 hy]
   exact ⟨ha,hp,hx⟩
theorem aGq {s:M.aE} {v:Int} {a p:ByteArray} {x:M.Response} (hs:s.ok) (hz:M.aE.sz s≤1073741824) (ha:a.size≤maxLen) (hp:p.size≤maxLen) (hx:x.ok):M.aE.ok (⟨aFZ s v a p x⟩:M.aE):=by
 unfold aFZ
 split
 ·rename_i c hc
  refine ⟨⟨by show List.length (List.set _ _ _)≤_;rw [qN];exact hs.Caches.1,fun y hy => ?_⟩⟩
  have hcm:=List.mem_of_getElem? hc
  have z:=nY (f:=M.Cache.sz) hcm
  rcases List.mem_or_eq_of_mem_set hy with hy | rfl
  ·exact hs.Caches.2 y hy
  ·exact aKC (hs.Caches.2 c hcm) (by simp only [M.aE.sz] at hz;simp only [M.Cache.sz] at z;omega) ha hp hx
 ·exact hs
theorem aLL {s:M.aE} {v:Int} {a p:ByteArray} {x:M.Response} {j:Nat} (ej:rD (fun c:M.Cache=>c.Version==v) s.Caches=(j:Int)) (hj:j<s.Caches.length):aFZ s v a p x=s.Caches.set j (aDR s.Caches[j] a p x):=by
 unfold aFZ
 rw [ej,qH,qF hj]
theorem aKk {c:M.Cache} {a p:ByteArray} {x:M.Response} {i:Nat} (ei:rD (aDO a p) c.Entries=(i:Int)):aDR c a p x=(⟨c.Version,c.Entries.set i (⟨a,p,x⟩:M.Cached)⟩:M.Cache):=by
 unfold aDR
 rw [ei,if_pos (by omega),qH]
theorem aJ3 {c:M.Cache} {a p:ByteArray} {x:M.Response} (h : ¬rD (aDO a p) c.Entries≥0):aDR c a p x=(⟨c.Version,c.Entries++[(⟨a,p,x⟩:M.Cached)]⟩:M.Cache):=by
 unfold aDR
 rw [if_neg h]
theorem aBH {s:M.aE} {v:Int} {a p:ByteArray} {x:M.Response} (hs:s.ok) (hz:M.aE.sz s≤1073741824) (ha:a.size≤maxLen) (hp:p.size≤maxLen) (hx:x.ok) (zx:M.Response.sz x≤1073741824):iU s v a p x=some (aE3 s v a p x):=by
 have hout:=aGq (v:=v) (a:=a) (p:=p) (x:=x) hs hz ha hp hx
 unfold iU aE3
 rw [tG s hz,qA,aDo hs,qA]
 by_cases h:rD (fun c:M.Cache=>c.Version==v) s.Caches<0
 ·rw [if_pos (by simpa using h),if_pos h]
 ·rw [if_neg (by simpa using h),if_neg h]
  obtain ⟨j,ej,hj⟩:=lM h
  rw [aLL ej hj] at hout ⊢
  have hc:=hs.Caches.2 _ (qG hj)
  have z1:=nY (f:=M.Cache.sz) (qG hj)
  have hl:s.Caches[j].Entries.length≤1073741824:=by simp only [M.aE.sz] at hz;simp only [M.Cache.sz] at z1;omega
  rw [aBT x zx,qA,ej,aO hj,qA,aFG hc,qA,qH]
  by_cases h2:rD (aDO a p) s.Caches[j].Entries≥0
  ·obtain ⟨i,ei,hi⟩:=lM (f:=aDO a p) (xs:=s.Caches[j].Entries) (by omega)
   rw [aKk ei] at hout ⊢
   rw [if_pos (by simpa using h2),ei,aO hi,qA,qH,jW hs,qA,jW hout,qA]
   generalize gD (⟨s.Caches.set j _⟩:M.aE)=b
   cases gD s<;>cases b<;>rfl
  ·rw [aJ3 h2] at hout ⊢
   rw [if_neg (by simpa using h2),fC (by simp only [qJ,qK];omega),qA,jW hs,qA,jW hout,qA]
   generalize gD (⟨s.Caches.set j _⟩:M.aE)=b
   cases gD s<;>cases b<;>rfl
theorem aKH {s:M.aE} {v:Int} {a p:ByteArray} {x:M.Response} (h:(aE3 s v a p x).2=true):gD (aE3 s v a p x).1=true:=by
 unfold aE3 at h ⊢
 split at h
 ·cases h
 ·rename_i h0
  rw [if_neg h0]
  split at h
  ·rename_i h1
   rw [if_pos h1]
   exact (Bool.and_eq_true_iff.1 h1).2
  ·cases h
theorem aM6 {s:M.aE} {v:Int} {a p:ByteArray} {x:M.Response} (hs:s.ok) (hz:M.aE.sz s≤1073741824) (ha:a.size≤maxLen) (hp:p.size≤maxLen) (hx:x.ok):M.aE.ok (aE3 s v a p x).1:=by
 unfold aE3
 split
 ·exact hs
 ·split
  ·exact aGq hs hz ha hp hx
  ·exact hs
theorem aNr {x a b:Int} (h:inR x a b=true):a≤x∧x≤b:=by
 unfold inR at h
 simpa using h
theorem aDS {s:M.aE} (h:gD s=true):M.aE.sz s≤65536:=by
 unfold gD at h
 rw [qM] at h
 have h2:s.Caches.length≤4:=by simpa using h.2
 have hc : ∀c∈s.Caches,M.Cache.sz c≤4096:=by
  intro c hc
  obtain ⟨k,hk,rfl⟩:=List.getElem_of_mem hc
  have h3:=List.all_eq_true.1 h.1 k (List.mem_range.2 hk)
  unfold aA3 at h3
  rw [qF hk,Option.any_some,qM,qM] at h3
  have h4:=h3.1.2
  unfold zO at h4
  rw [qM] at h4
  have h5:s.Caches[k].Entries.length≤12:=by simpa using h4.2
  have he : ∀x∈s.Caches[k].Entries,M.Cached.sz x≤100:=by
   intro x hx
   obtain ⟨i,hi,rfl⟩:=List.getElem_of_mem hx
   have h6:=List.all_eq_true.1 h4.1 i (List.mem_range.2 hi)
   unfold uW at h6
   rw [qF hi,Option.any_some,qM,qM,qM] at h6
   obtain ⟨q1,q2,q3,_⟩:=h6
   unfold nS at q1 q2
   rw [qM] at q1 q2
   have r1:=aNr q1.2
   have r2:=aNr q2.2
   unfold aAP at q3
   rw [qM,qM,qM] at q3
   have r3:s.Caches[k].Entries[i].Response.Body.length≤60:=by have:=q3.2.2.2;simp at this;omega
   simp only [M.Cached.sz,M.Response.sz]
   omega
  have:=kU he
  simp only [M.Cache.sz]
  omega
 have:=kU hc
 simp only [M.aE.sz]
 omega
theorem aIL {l:List M.aT} : ∀ {s:M.aA},s.ok→l.length≤maxLen→(∀w∈l,M.aT.ok w)→M.aA.sz s≤536870912→(yE s l).ok∧M.aA.sz (yE s l)≤536870912:=by
 induction l with
 | nil=>intro s hs _ _ hz;exact ⟨hs,hz⟩
 | cons w l ih =>
  intro s hs hl ho hz
  have h:=aDz hs (ho w (by simp)) hz
  exact ih (s:=(aFV s w).1) h.1 (by simp only [qJ] at hl;omega) (fun y hy=>ho y (by simp [hy])) h.2
def aBz (o:M.aG) (k:M.Key) (f:ByteArray) (n:Int):M.aG:=(⟨o.Device,i64.wrap (o.Next+1),o.Writes++[(⟨o.Device,o.Next,k,f,n⟩:M.aT)]⟩:M.aG)
def aHj (o:M.aG) (k:M.Key) (f:ByteArray) (n:Int):M.aG×Bool:=if lL o=true then (if lL (aBz o k f n)=true then (aBz o k f n,true) else (o,false)) else (o,false)
theorem aNG {o:M.aG} {k:M.Key} {f:ByteArray} {n:Int} (ho:o.ok) (hl:o.Writes.length≤1073741824) (hk:k.ok) (hf:f.size≤maxLen) (hn:inI n):(aBz o k f n).ok:=
 ⟨ho.Device,cJ _,⟨by show (o.Writes++_).length≤maxLen;unfold maxLen;simp;omega,fun y hy=>by
  have hy':y∈o.Writes++[(⟨o.Device,o.Next,k,f,n⟩:M.aT)]:=hy
  simp only [qP,List.mem_cons,qO,or_false] at hy'
  rcases hy' with hy | rfl
  ·exact ho.Writes.2 y hy
  ·exact ⟨ho.Device,ho.Next,hk,hf,hn⟩⟩⟩
theorem xN {o:M.aG} {k:M.Key} {f:ByteArray} {n:Int} (ho:o.ok) (hz:M.aG.sz o≤536870912) (hk:k.ok) (hf:f.size≤maxLen) (hn:inI n):eV o k f n=some (aHj o k f n):=by
 have hl:o.Writes.length≤536870912:=by simp only [M.aG.sz] at hz;omega
 have e:=kH (aNG (k:=k) (f:=f) (n:=n) ho (by omega) hk hf hn)
 unfold aBz at e
 unfold eV aHj
 rw [uY o (by omega),qA,kH ho,qA,fC (by simp only [qJ,qK];omega),qA,e,qA]
 unfold aBz
 cases lL o
 ·simp
 ·cases lL (⟨o.Device,i64.wrap (o.Next+1),o.Writes++[(⟨o.Device,o.Next,k,f,n⟩:M.aT)]⟩:M.aG)<;>simp
def aO6 (r:M.aD) (k:M.Key) (f:ByteArray) (n:Int):Bool:=vA r&&((aHj r.Sync.aG k f n).2&&(aFV (yE r.Base r.Sync.aG.Writes) (⟨0,0,k,f,n⟩:M.aT)).2)
def aSM (r:M.aD) (k:M.Key) (f:ByteArray) (n:Int):M.aD:=(⟨r.Base,r.Seen,(⟨(aHj r.Sync.aG k f n).1,r.Sync.Tries,r.Sync.WaitUntil⟩:M.Sync)⟩:M.aD)
def nWL (r:M.aD) (k:M.Key) (f:ByteArray) (n:Int):M.aD×Bool:=if aO6 r k f n=true then (aSM r k f n,true) else (r,false)
theorem aQT {α:Type} (a b c:Bool) (x y:α):(if (!a)=true then y else (if (!b)=true then y else (if (!c)=true then y else x)))=if (a&&(b&&c))=true then x else y:=by
 cases a<;>cases b<;>cases c<;>rfl
theorem aC6 {r:M.aD} {k:M.Key} {f:ByteArray} {n:Int} (hr:r.ok) (hz:M.aD.sz r≤536870912) (hk:k.ok) (hf:f.size≤maxLen) (hn:inI n):hJ r k f n=some (nWL r k f n):=by
 have hz':=hz
 simp only [M.aD.sz,M.Sync.sz] at hz'
 obtain ⟨q2,q3⟩:=aIL hr.Base hr.Sync.aG.Writes.1 hr.Sync.aG.Writes.2 (by omega)
 have q1:=aAa hr.Base hr.Sync.aG.Writes.1 hr.Sync.aG.Writes.2 (by omega)
 unfold hJ sI
 rw [yO r (by omega),xN hr.Sync.aG (by omega) hk hf hn,q1,tI hr]
 simp only [qA]
 rw [tN (w:=(⟨0,0,k,f,n⟩:M.aT)) q2 ⟨by unfold inI;simp,by unfold inI;simp,hk,hf,hn⟩ (by omega)]
 simp only [qA,aQT]
 unfold nWL aO6 aSM
 cases (vA r&&((aHj r.Sync.aG k f n).2&&(aFV (yE r.Base r.Sync.aG.Writes) (⟨0,0,k,f,n⟩:M.aT)).2))<;>simp
def aCk (l:List M.aP) (k:Nat):Bool:=(l[k]?).any (fun x=>inR x.Device 1 1000000&&inR x.Seq 0 1000000)&&(decide (k=0)||(l[k-1]?).any fun y=>(l[k]?).any fun x=>decide (y.Device<x.Device))
def aD7 (l:List M.aT) (k:Nat):Bool:=(l[k]?).any yM
def aEP (s:M.Server):Bool:=(List.range s.aP.length).all (aCk s.aP)&&((List.range s.Changes.length).all (aD7 s.Changes)&&(fB s.aA&&((s.aA.Name.toList==(⟨#[110,111,116,101,115]⟩:ByteArray).toList)&&decide ((s.aP.length:Int)≤60))))
theorem xJ {s:M.Server} (hs:s.ok):mK s=some (aEP s):=by
 have hm:=le_max hs.aP.1
 have hm2:=le_max hs.Changes.1
 unfold mK aEP
 rw [tT (L:=eQ s) (g:=aCk s.aP) (F:=some false) (E:=fR s fuel 0) hs.aP.1 (fun n k hk => ?_) (fun n => ?_),
  tT (L:=fR s) (g:=aD7 s.Changes) (F:=some false) (E:=some (fB s.aA&&((s.aA.Name.toList==(⟨#[110,111,116,101,115]⟩:ByteArray).toList)&&decide ((s.aP.length:Int)≤60)))) hs.Changes.1 (fun n k hk => ?_) (fun n => ?_),bK,bK]
 ·have hf:=hs.Changes.2 _ (qG hk)
  simp only [fR]
  rw [if_pos (bI hk),aO hk,qA,cU (by omega),sO hf,qA,nZ]
  unfold aD7
  rw [qF hk,Option.any_some]
 ·simp only [fR]
  rw [if_neg (by rw [aW];simp),rA hs.aA,qA,bK,bK]
 ·simp only [eQ]
  rw [if_pos (bI hk),aO hk,qA,cU (by omega),dQ,qA,dQ,qA]
  unfold aCk
  rw [qF hk]
  generalize eQ s n ((k+1:Nat):Int)=Z
  by_cases h0:k=0
  ·subst h0
   simp only [Option.any_some]
   cases inR s.aP[0].Device 1 1000000<;>cases inR s.aP[0].Seq 0 1000000<;>simp
  ·have e:i64.wrap ((k:Int)-1)=((k-1:Nat):Int):=by rw [bO (by omega) (by omega)];omega
   have hk1:k-1<s.aP.length:=by omega
   have ed:decide (s.aP[k-1].Device≥s.aP[k].Device) = !decide (s.aP[k-1].Device<s.aP[k].Device):=by rw [Bool.eq_iff_iff];simp
   rw [if_pos (c:=(decide ((k:Int)>0))=true) (by simp;omega),e,aO hk1,qA,qF hk1,ed]
   simp only [Option.any_some,h0,decide_false,Bool.false_or]
   cases inR s.aP[k].Device 1 1000000<;>cases inR s.aP[k].Seq 0 1000000<;>cases decide (s.aP[k-1].Device<s.aP[k].Device)<;>simp
 ·simp only [eQ]
  rw [if_neg (by rw [aW];simp)]
def okC (b:List Int) (i h:Int):Prop:=b.length≤1048576∧(∀x∈b,0≤x∧x≤255)∧0≤i∧i≤1048576∧inI h
def Dr {α:Type} (b:List Int) (P:α→Prop) (o:Option (Int×Int×α)):Prop:=∃i h r,o=some (i,h,r)∧okC b i h∧P r
theorem Dr.ret {α:Type} {b:List Int} {P:α→Prop} {i h:Int} {r:α} (hc:okC b i h) (hp:P r):Dr b P (some (i,h,r)):=⟨i,h,r,rfl,hc,hp⟩
theorem Dr.bnd {α β:Type} {b:List Int} {P:β→Prop} {Q:α→Prop} {o:Option (Int×Int×α)} {f:Int×Int×α→Option (Int×Int×β)} (ho:Dr b Q o) (hf : ∀i h r,okC b i h→Q r→Dr b P (f (i,h,r))):Dr b P (o.bind f):=by
 obtain ⟨i,h,r,rfl,hc,hq⟩:=ho
 exact hf i h r hc hq
theorem Dr.aBq {α β:Type} {b:List Int} {P:β→Prop} {Q:α→Prop} {o:Option α} {f:α→Option (Int×Int×β)} (ho : ∃r,o=some r∧Q r) (hf : ∀r,Q r→Dr b P (f r)):Dr b P (o.bind f):=by
 obtain ⟨r,rfl,hq⟩:=ho
 exact hf r hq
theorem Dr.mono {α:Type} {b:List Int} {P Q:α→Prop} {o:Option (Int×Int×α)} (h : ∀r,P r→Q r) (ho:Dr b P o):Dr b Q o:=by
 obtain ⟨i,h',r,e,hc,hp⟩:=ho
 exact ⟨i,h',r,e,hc,h r hp⟩
theorem wI {σ R:Type} {L:Nat→Int→σ→Option R} {I:Nat→σ→Prop} {Q:Option R→Prop} (h1 : ∀n (k:Nat) s,I (k+1) s→(∀s',I k s'→Q (L n (k:Int) s'))→Q (L (n+1) ((k+1:Nat):Int) s)) (h0 : ∀n s,I 0 s→Q (L (n+1) 0 s)) : ∀(n k:Nat) (s:σ),k<n→I k s→Q (L n (k:Int) s)
 | 0,_,_,h,_=>by omega
 | n+1,0,s,_,hi=>h0 n s hi
 | n+1,k+1,s,h,hi=>h1 n k s hi fun s' hi'=>wI h1 h0 n k s' (by omega) hi'
theorem aPC {σ R:Type} {N:Nat} {L:Nat→Int→σ→Option R} {I:Nat→σ→Prop} {Q:Option R→Prop} (h1 : ∀n (k:Nat) s,k<N→I k s→(∀s',I (k+1) s'→Q (L n ((k+1:Nat):Int) s'))→Q (L (n+1) (k:Int) s)) (h2 : ∀n s,I N s→Q (L (n+1) (N:Int) s)) : ∀(n k:Nat) (s:σ),N-k<n→k≤N→I k s→Q (L n (k:Int) s)
 | 0,_,_,h,_,_=>by omega
 | n+1,k,s,h,hk,hi=>by
  rcases Nat.lt_or_ge k N with hlt | hge
  ·exact h1 n k s hlt hi fun s' hi'=>aPC h1 h2 n (k+1) s' (by omega) (by omega) hi'
  ·have e:k=N:=by omega
   subst e
   exact h2 n s hi
theorem mD {k:Nat} (h:k≤9223372036854775808):k<fuel:=by unfold fuel;omega
theorem aGx (x:BitVec IntKind.i64.bits):0≤i64.wrap ((x&&&BitVec.ofInt IntKind.i64.bits 255).toNat:Int)∧i64.wrap ((x&&&BitVec.ofInt IntKind.i64.bits 255).toNat:Int)≤255:=by
 have h1:(x&&&BitVec.ofInt IntKind.i64.bits 255).toNat≤255:=by
  rw [BitVec.toNat_and]
  exact Nat.le_trans Nat.and_le_right (by decide)
 rw [bO (by omega) (by omega)]
 omega
theorem aB5 {b:List Int} {i h:Int} (hc:okC b i h):Dr b (fun r=>0≤r∧r≤255) (lO (⟨b,i,h⟩:M.aK)):=by
 obtain ⟨h1,h2,h3,h4,h5⟩:=hc
 unfold lO
 by_cases hl:i<(b.length:Int)
 ·rw [if_pos (by simpa using hl)]
  obtain ⟨k,rfl⟩:=Int.eq_ofNat_of_zero_le h3
  have hk:k<b.length:=by omega
  show Dr b _ ((idx b (k:Int)).bind _)
  rw [aO hk,qA]
  refine .ret ⟨h1,h2,?_,?_,cJ _⟩ (aGx _)
  ·show 0≤i64.wrap ((k:Int)+1)
   rw [cU (by omega)];omega
  ·show i64.wrap ((k:Int)+1)≤_
   rw [cU (by omega)];omega
 ·rw [if_neg (by simpa using hl)]
  exact .ret ⟨h1,h2,h3,h4,cJ _⟩ (aGx _)
theorem aH7 {x n:Int} (hx:0≤x) (hn:0<n):x%n≤x:=by
 have h1:=Int.emod_add_mul_ediv x n
 have h2:0≤n*(x/n):=Int.mul_nonneg (by omega) (Int.ediv_nonneg hx (by omega))
 omega
theorem aLG {x n:Int} (hx:0≤x) (hn:0<n):0≤Int.tmod x n∧Int.tmod x n<n:=by
 rw [Int.tmod_eq_emod_of_nonneg hx]
 exact ⟨Int.emod_nonneg _ (by omega),Int.emod_lt_of_pos _ hn⟩
theorem aR {b:List Int} {i h n:Int} (hc:okC b i h):Dr b (fun r=>0≤r∧(0<n→r<n)∧r≤16777215) (aJ (⟨b,i,h⟩:M.aK) n):=by
 unfold aJ
 by_cases h0:n≤0
 ·rw [if_pos (by simpa using h0)]
  exact .ret hc ⟨by omega,by omega,by omega⟩
 ·rw [if_neg (by simpa using h0)]
  by_cases h1:n≤256
  ·rw [if_pos (by simpa using h1)]
   refine .bnd (aB5 hc) fun i1 v1 r1 c1 q1 => ?_
   rw [if_neg (by simp;omega)]
   have:=aLG q1.1 (show 0<n by omega)
   exact .ret c1 ⟨this.1,fun _=>this.2,by show Int.tmod r1 n≤_;omega⟩
  ·rw [if_neg (by simpa using h1)]
   refine .bnd (aB5 hc) fun i1 v1 r1 c1 q1=>.bnd (aB5 c1) fun i2 v2 r2 c2 q2=>.bnd (aB5 c2) fun i3 v3 r3 c3 q3 => ?_
   rw [if_neg (by simp;omega)]
   dsimp only
   rw [bO (n:=r1*65536) (by omega) (by omega),bO (n:=r2*256) (by omega) (by omega),bO (n:=r1*65536+r2*256) (by omega) (by omega),bO (by omega) (by omega)]
   have:=aLG (show 0≤r1*65536+r2*256+r3 by omega) (show 0<n by omega)
   have h3:=Int.tmod_eq_emod_of_nonneg (b:=n) (show 0≤r1*65536+r2*256+r3 by omega)
   have h4:=aH7 (n:=n) (show 0≤r1*65536+r2*256+r3 by omega) (show 0<n by omega)
   exact .ret c3 ⟨this.1,fun _=>this.2,by omega⟩
theorem rC {b:List Int} {i h n:Int} (hc:okC b i h):Dr b (fun _=>True) (bS (⟨b,i,h⟩:M.aK) n):=by
 unfold bS
 exact .bnd (aR hc) fun i1 v1 r1 c1 q1=>.ret c1 trivial
theorem rT {b:List Int} {i h:Int} {l:List Int} (P:Int→Prop) (hl:0<l.length) (hp : ∀x∈l,P x) (hc:okC b i h):Dr b P (cG (⟨b,i,h⟩:M.aK) l):=by
 unfold cG
 refine .bnd (aR hc) fun i1 v1 r1 c1 q1 => ?_
 dsimp only
 obtain ⟨k,rfl⟩:=Int.eq_ofNat_of_zero_le q1.1
 have:=q1.2.1 (by omega)
 have hk:k<l.length:=by omega
 rw [aO hk,qA]
 exact .ret c1 (hp _ (qG hk))
theorem yQ {b:List Int} {i h:Int} {l:List ByteArray} (P:ByteArray→Prop) (hl:0<l.length) (hp : ∀x∈l,P x) (hc:okC b i h):Dr b P (fT (⟨b,i,h⟩:M.aK) l):=by
 unfold fT
 refine .bnd (aR hc) fun i1 v1 r1 c1 q1 => ?_
 dsimp only
 obtain ⟨k,rfl⟩:=Int.eq_ofNat_of_zero_le q1.1
 have:=q1.2.1 (by omega)
 have hk:k<l.length:=by omega
 rw [aO hk,qA]
 exact .ret c1 (hp _ (qG hk))
theorem aJM {b:List Int} : ∀(n k:Nat) (v:Int),b.length-k<n→k≤b.length→b.length≤1048576→inI v → ∃h,iR b n v (k:Int)=some (⟨b,0,h⟩:M.aK)∧inI h
 | 0,_,_,h,_,_,_=>by omega
 | n+1,k,v,h,hk,hl,hv=>by
  simp only [iR]
  by_cases h1:k<b.length
  ·rw [if_pos (bI h1)]
   by_cases h2:(k:Int)<4000
   ·rw [if_pos (by simpa using h2),aO h1,qA,cU (by omega)]
    exact aJM n (k+1) _ (by omega) (by omega) hl (cJ _)
   ·rw [if_neg (by simpa using h2)]
    exact ⟨v,rfl,hv⟩
  ·rw [if_neg (by simp;omega)]
   exact ⟨v,rfl,hv⟩
theorem aLy {b:List Int} (hl:b.length≤1048576) (hb : ∀x∈b,0≤x∧x≤255) : ∃h,tQ b=some (⟨b,0,h⟩:M.aK)∧okC b 0 h:=by
 unfold tQ
 obtain ⟨h,e1,e2⟩:=aJM (b:=b) fuel 0 (i64.wrap (193017+(List.length b:Int))) (mD (by omega)) (by omega) hl (cJ _)
 exact ⟨h,e1,hl,hb,by omega,by omega,e2⟩
theorem xM {r:Int} (h:0≤r) : ∃k:Nat,r=(k:Int):=⟨r.toNat,by omega⟩
theorem aMr {n:Int} (h1 : -1000000000000000≤n) (h2:n≤1000000000000000):inI n:=by unfold inI;omega
theorem wrap_small {n:Int} (h1 : -1000000000000000≤n) (h2:n≤1000000000000000):i64.wrap n=n:=bO (by omega) (by omega)
theorem aBv {b:List Int} {i h:Int} (hc:okC b i h):Dr b (fun s=>s.size≤8) (kA (⟨b,i,h⟩:M.aK)):=by
 unfold kA
 exact .bnd (yQ (fun s=>s.size≤8) (by decide) (by decide) hc) fun i1 v1 r1 c1 q1=>.ret c1 q1
theorem aLi {b:List Int} {i h:Int} (hc:okC b i h):Dr b (fun s=>s.size≤8) (sY (⟨b,i,h⟩:M.aK)):=by
 unfold sY
 exact .bnd (yQ (fun s=>s.size≤8) (by decide) (by decide) hc) fun i1 v1 r1 c1 q1=>.ret c1 q1
theorem wU {b:List Int} {i h:Int} (hc:okC b i h):Dr b (fun s=>s.size≤8) (eC (⟨b,i,h⟩:M.aK)):=by
 unfold eC
 exact .bnd (yQ (fun s=>s.size≤8) (by decide) (by decide) hc) fun i1 v1 r1 c1 q1=>.ret c1 q1
theorem aQr {b:List Int} {i1 v1:Int} {r1:ByteArray} (c1:okC b i1 v1) (q1:r1.size≤8) : ∃r:ByteArray×Int×Int,((bS (⟨b,i1,v1⟩:M.aK) 3).bind fun x21=>(if x21.2.2=true then ((kA (⟨b,x21.1,x21.2.1⟩:M.aK)).bind fun x32=>(some (x32.2.2,x32.1,x32.2.1))) else (some (r1,x21.1,x21.2.1))))=some r∧(r.1.size≤8∧okC b r.2.1 r.2.2):=by
 obtain ⟨i2,v2,r2,e2,c2,q2⟩:=rC (n:=3) c1
 rw [e2,qA]
 dsimp only
 split
 ·obtain ⟨i3,v3,r3,e3,c3,q3⟩:=aBv c2
  rw [e3,qA]
  exact ⟨_,rfl,q3,c3⟩
 ·exact ⟨_,rfl,q1,c2⟩
theorem aKl (k:Nat):(decide (((k+1:Nat):Int)>0))=true:=decide_eq_true (by omega)
theorem aES : ¬(decide ((0:Int)>0))=true:=by simp
theorem aEm {k:Nat} (h:k+1≤100000):i64.wrap (((k+1:Nat):Int)-1)=(k:Int):=by rw [wrap_small (by omega) (by omega)];omega
theorem bgI {x:Int} (h : -1000000000000000≤x∧x≤1000000000000000):inI x:=aMr h.1 h.2
theorem aNa {r n:Int} (q:0≤r∧(0<n→r<n)∧r≤16777215) : -1000000000000000≤r∧r≤1000000000000000:=⟨by omega,by omega⟩
theorem aSD {x:Int} (q : -1000000000000≤x∧x≤1000000000000∧(x≤256∨x=1000000000000)) : -1000000000000000≤x∧x≤1000000000000000:=⟨by omega,by omega⟩
theorem aTc {r n:Int} (q:0≤r∧(0<n→r<n)∧r≤16777215) (h0:0<n) (h:n≤1000):0≤r∧r≤1000:=⟨q.1,by have:=q.2.1 h0;omega⟩
theorem s16 {s:ByteArray} (h:s.size≤16):s.size≤maxLen:=by unfold maxLen;omega
theorem ml {n:Nat} (h:n≤1000000):n≤maxLen:=by unfold maxLen;omega
theorem yH {α:Type} {b:Nat} {xs ys:List α} (h:xs.length+ys.length≤1000000) (hb:b≤1000):app b xs ys=some (xs++ys):=fC (Nat.le_trans (Nat.mul_le_mul h hb) (by omega))
def aGJ (k:M.Key):Prop:=M.Key.ok k∧k.Text.size≤16
theorem mkKey {a n:Int} {s:ByteArray} (h1 : -1000000000000000≤a∧a≤1000000000000000) (h2 : -1000000000000000≤n∧n≤1000000000000000) (h3:s.size≤16):aGJ (⟨a,n,s⟩:M.Key):=⟨⟨bgI h1,bgI h2,s16 h3⟩,h3⟩
def aIH (k:M.Key):Prop:=k.Kind=1∧0≤k.N∧k.N≤5∧k.Text=(⟨#[]⟩:ByteArray)
theorem aIH.any {k:M.Key} (h:aIH k):aGJ k:=by
 obtain ⟨a,n,s⟩:=k
 obtain ⟨h1,h2,h3,h4⟩:=h
 dsimp only at h1 h2 h3 h4
 subst h4
 exact mkKey (by omega) (by omega) (by decide)
def aF5 (k:M.Key):Prop:=aGJ k∧(k.Kind=1→k.N≤256∨k.N=1000000000000)
theorem aIH.auto {k:M.Key} (h:aIH k):aF5 k:=⟨h.any,fun _=>.inl (by have:=h.2.2.1;omega)⟩
theorem rN {b:List Int} {i h:Int} (c0:okC b i h):Dr b aIH (dB (⟨b,i,h⟩:M.aK)):=by
 unfold dB
 refine .bnd (aR c0) fun i1 v1 r1 c1 q1 => ?_
 have:=q1.2.1 (by omega)
 exact .ret c1 ⟨rfl,q1.1,by show r1≤5;omega,rfl⟩
theorem aFj {b:List Int} {i h:Int} (c0:okC b i h):Dr b (fun x => -1000000000000≤x∧x≤1000000000000∧(x≤256∨x=1000000000000)) (oH (⟨b,i,h⟩:M.aK)):=by
 unfold oH
 refine .bnd (aR c0) fun i1 v1 r1 c1 q1 => ?_
 have:=q1.2.1 (by omega)
 have:=q1.1
 exact .bnd (rT (fun x => -1000000000000≤x∧x≤1000000000000∧(x≤256∨x=1000000000000)) (by simp) (fun x hx=>by simp only [List.mem_cons,qO,or_false] at hx;omega) c1) fun i2 v2 r2 c2 q2=>.ret c2 q2
theorem aLt {b:List Int} {i h:Int} (c0:okC b i h):Dr b aF5 (tV (⟨b,i,h⟩:M.aK)):=by
 unfold tV
 refine .bnd (yQ (fun s=>s.size≤16) (by decide) (by decide) c0) fun i1 v1 r1 c1 q1=>.bnd (aR c1) fun i2 v2 r2 c2 q2 => ?_
 dsimp only
 split
 ·exact .ret c2 ⟨mkKey (by omega) (by omega) q1,fun h=>by have h':(2:Int)=1:=h;omega⟩
 split
 ·exact .bnd (aFj c2) fun i3 v3 r3 c3 q3=>.ret c3 ⟨mkKey (by omega) (aSD q3) q1,fun h=>by have h':(3:Int)=1:=h;omega⟩
 ·exact .bnd (aFj c2) fun i3 v3 r3 c3 q3=>.ret c3 ⟨mkKey (by omega) (aSD q3) (by decide),fun _=>q3.2.2⟩
theorem aKm {b:List Int} {i h:Int} (c0:okC b i h):Dr b aGJ (tR (⟨b,i,h⟩:M.aK)):=by
 unfold tR
 refine .bnd (aLt c0) fun i1 v1 r1 c1 q1=>.bnd (aR c1) fun i2 v2 r2 c2 q2 => ?_
 dsimp only
 have hk:=q1.1
 split
 ·exact .bnd (aR c2) fun i3 v3 r3 c3 q3=>.ret c3 ⟨⟨bgI (aNa q3),hk.1.N,hk.1.Text⟩,hk.2⟩
 split
 ·exact .bnd (rT (fun x => -1000000000000000≤x∧x≤1000000000000000) (by decide) (by decide) c2) fun i3 v3 r3 c3 q3=>.ret c3 ⟨⟨hk.1.Kind,bgI q3,hk.1.Text⟩,hk.2⟩
 split
 ·exact .bnd (yQ (fun s=>s.size≤16) (by decide) (by decide) c2) fun i3 v3 r3 c3 q3=>.ret c3 ⟨⟨hk.1.Kind,hk.1.N,s16 q3⟩,q3⟩
 ·exact .ret c2 hk
def aEK (r:M.aC):Prop:=r.ok∧bL r=true
theorem aLp {r:M.aC} {a:ByteArray} {n:Int} (h:aEK r) (ha:a.size≤16) (hn : -1000000000000000≤n∧n≤1000000000000000) : ∃x,eX r a n=some x∧aEK x.1:=by
 have hz:=aBO h.2
 have hl:r.Fields.length≤1073741824:=by simp only [M.aC.sz] at hz;omega
 exact ⟨_,uE h.1 (by omega) (s16 ha) (bgI hn),aFw h.1 hl (s16 ha) (bgI hn),aIo h.2 _ _⟩
theorem aO5:aEK (⟨([]:List M.Field)⟩:M.aC):=⟨aB3,zW⟩
theorem xE {b:List Int} {i h:Int} (c0:okC b i h):Dr b aEK (fX (⟨b,i,h⟩:M.aK)):=by
 unfold fX
 refine .bnd (aR c0) fun i1 v1 r1 c1 q1 => ?_
 have hN:=q1.2.2
 obtain ⟨N,rfl⟩:=xM q1.1
 have hN:=q1.2.1 (by omega)
 refine wI (L:=fun n v (s:(M.aC)×Int×Int)=>iO (⟨b,i,h⟩:M.aK) n v s.2.1 s.2.2 s.1.Fields) (I:=fun k s=>k≤100000∧okC b s.2.1 s.2.2∧aEK s.1) (Q:=Dr b aEK) (fun n k s hi ih => ?_) (fun n s hi => ?_) fuel N ((⟨([]:List M.Field)⟩:M.aC),i1,v1) (mD (by omega)) ⟨by omega,c1,aO5⟩
 ·obtain ⟨x,ci,ch⟩:=s
  obtain ⟨k0,k1,k2⟩:=hi
  dsimp only at k1 k2
  simp only [iO]
  rw [if_pos (aKl k),aEm k0]
  refine .bnd (wU k1) fun i3 v3 r3 c3 q3=>.bnd (aR c3) fun i4 v4 r4 c4 q4=>.aBq (aLp k2 (Nat.le_trans q3 (by omega)) (aNa q4)) fun y hy => ?_
  exact ih (y.1,i4,v4) ⟨by omega,c4,hy⟩
 ·obtain ⟨x,ci,ch⟩:=s
  obtain ⟨k0,k1,k2⟩:=hi
  dsimp only at k1 k2
  simp only [iO]
  rw [if_neg aES]
  exact .ret k1 k2
theorem aOd {r:M.aC} {a:ByteArray} {n:Int} (h:aEK r) (ha:a.size≤16) (hn : -1000000000000000≤n∧n≤1000000000000000):M.aC.ok (⟨r.Fields++[(⟨a,n⟩:M.Field)]⟩:M.aC)∧M.aC.sz (⟨r.Fields++[(⟨a,n⟩:M.Field)]⟩:M.aC)≤200:=by
 have hz:=aBO h.2
 simp only [M.aC.sz] at hz ⊢
 refine ⟨⟨ml (by simp only [qE,qJ,qK];omega),fun y hy => ?_⟩,?_⟩
 ·rcases List.mem_append.1 hy with hy | hy
  ·exact h.1.Fields.2 y hy
  ·rw [List.mem_singleton.1 hy];exact ⟨s16 ha,bgI hn⟩
 ·rw [yW]
  simp only [lV,M.Field.sz,qE,qJ,qK]
  omega
def aIq (r:M.aC):Prop:=r.ok∧M.aC.sz r≤200
theorem aEK.any {r:M.aC} (h:aEK r):aIq r:=⟨h.1,by have:=aBO h.2;omega⟩
theorem aOO {b:List Int} {i h:Int} (c0:okC b i h):Dr b aIq (vX (⟨b,i,h⟩:M.aK)):=by
 unfold vX
 refine .bnd (xE c0) fun i1 v1 r1 c1 q1=>.bnd (aR c1) fun i2 v2 r2 c2 q2 => ?_
 dsimp only
 have hz:=aBO q1.2
 have hl:r1.Fields.length≤100:=by simp only [M.aC.sz] at hz;omega
 split
 ·refine .bnd (yQ (fun s=>s.size≤16) (by decide) (by decide) c2) fun i3 v3 r3 c3 q3=>.bnd (rT (fun x => -1000000000000000≤x∧x≤1000000000000000) (by decide) (by decide) c3) fun i4 v4 r4 c4 q4 => ?_
  dsimp only
  rw [yH (by simp only [qJ,qK];omega) (by omega),qA]
  exact .ret c4 (aOd q1 q3 q4)
 split
 ·have key : ∀(n k:Nat) (r:M.aC),6-k<n→k≤6→aEK r→Dr b aIq (mB (i2,v2,r2) n (k:Int) r.Fields):=by
   intro n
   induction n with
   | zero=>intro k r h _ _;omega
   | succ n ih =>
    intro k r h hk hr
    simp only [mB]
    rcases Nat.lt_or_ge k 6 with h6 | h6
    ·have e : ∃s,idx ([(⟨#[100]⟩:ByteArray),(⟨#[101]⟩:ByteArray),(⟨#[102]⟩:ByteArray),(⟨#[103]⟩:ByteArray),(⟨#[104]⟩:ByteArray),(⟨#[105]⟩:ByteArray)]) (k:Int)=some s∧s.size≤16:=by
      have:k=0∨k=1∨k=2∨k=3∨k=4∨k=5:=by omega
      rcases this with rfl | rfl | rfl | rfl | rfl | rfl<;>exact ⟨_,rfl,by decide⟩
     rw [if_pos (bI h6)]
     refine .aBq e fun s hs=>.aBq (aLp hr hs (by omega)) fun y hy => ?_
     rw [cU (by omega)]
     exact ih (k+1) y.1 (by omega) (by omega) hy
    ·have:k=6:=by omega
     subst this
     rw [if_neg (by simp)]
     exact .ret c2 hr.any
  exact key fuel 0 r1 (mD (by omega)) (by omega) q1
 ·exact .ret c2 q1.any
def aNv (s:M.aA):Prop:=s.Auto≤256 ∧ ∀x∈s.Items,x.Key.Kind=1→x.Key.N≤s.Auto∨x.Key.N=1000000000000
def aJ6 (s:M.aA):Prop:=s.ok∧fB s=true∧aNv s
theorem aNJ {s:M.aA} {k:M.Key} {r:M.aC} (hs:aNv s) (hk:aF5 k):aNv (wL s k r).1:=by
 have ha:s.Auto≤aCO s k∧aCO s k≤256∧(k.Kind=1→k.N≤aCO s k∨k.N=1000000000000):=by
  obtain ⟨a1,a2⟩:=hs
  have a3:=hk.2
  unfold aCO
  by_cases hc:((k.Kind==1)&&(decide (k.N>s.Auto)&&decide (k.N≤1000000)))=true
  ·rw [if_pos hc]
   simp only [qM,qL,beq_iff_eq] at hc
   have:=a3 hc.1
   exact ⟨by omega,by omega,fun _=>.inl (by omega)⟩
  ·rw [if_neg hc]
   refine ⟨by omega,a1,fun h1 => ?_⟩
   have:=a3 h1
   simp only [qM,qL,beq_iff_eq,not_and] at hc
   by_cases h2:k.N>s.Auto
   ·have:=hc h1 h2;omega
   ·omega
 unfold wL
 split
 ·split
  ·split
   ·split
    ·refine ⟨ha.2.1,fun x hx h1 => ?_⟩
     have hx':x∈s.Items.take (xU s.Items k)++([(⟨k,r⟩:M.Item)]++s.Items.drop (xU s.Items k)):=hx
     simp only [qP,List.mem_singleton] at hx'
     show x.Key.N≤aCO s k∨_
     rcases hx' with hx' | rfl | hx'
     ·have:=hs.2 x (List.mem_of_mem_take hx') h1;omega
     ·exact ha.2.2 h1
     ·have:=hs.2 x (List.mem_of_mem_drop hx') h1;omega
    ·exact hs
   ·unfold aH4
    refine ⟨hs.1,?_⟩
    dsimp only
    split
    ·rename_i y hy
     intro x hx h1
     rcases List.mem_or_eq_of_mem_set hx with hx | rfl
     ·exact hs.2 x hx h1
     ·exact hs.2 y (List.mem_of_getElem? hy) h1
    ·exact hs.2
  ·exact hs
 ·exact hs
theorem aLz {s:M.aA} {k:M.Key} {r:M.aC} (hs:aJ6 s) (hk:aF5 k) (hr:aEK r) : ∃x,cZ s k r=some x∧aJ6 x.1:=by
 have hz:=lK hs.2.1
 have hl:s.Items.length≤1073741824:=by simp only [M.aA.sz] at hz;omega
 refine ⟨_,pU hs.1 hk.1.1 hr.1 hr.2 (by omega) (Nat.le_trans (aBO hr.2) (by omega)),aF2 hs.1 hl hk.1.1 hr.1,?_,aNJ hs.2.2 hk⟩
 cases h2:(wL s k r).2 with
 | true=>exact yR hr.2 h2
 | false=>rw [aDA h2];exact hs.2.1
theorem aNf {a:ByteArray} (hn:nS a=true) (ha:a.size≤16):aJ6 (⟨a,([]:List M.Item),0⟩:M.aA):=⟨⟨s16 ha,⟨by simp [maxLen],by simp⟩,rG⟩,by unfold fB;simp [hn,inR],by show (0:Int)≤256;omega,by simp⟩
end Go.Proofs.YtidhkhdnjonjfaaGreat.gen
