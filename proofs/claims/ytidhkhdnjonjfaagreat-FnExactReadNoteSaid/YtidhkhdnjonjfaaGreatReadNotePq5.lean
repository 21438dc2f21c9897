/-
  Helper text. No conditions.
-/
import Derived.Test.YtidhkhdnjonjfaaGreatReadNotePq4
set_option linter.unusedVariables false
set_option linter.unusedSimpArgs false
namespace Go.Proofs.YtidhkhdnjonjfaaGreat.gen
open Go Go.Sh
theorem aBm {d:M.Database} (h:nDb d=true):(∀(k:Nat) (hk:k<d.Stores.length),fX d.Stores[k]=true)∧d.Name.size≤8∧d.Stores.length≤4∧d.Unique.length≤4 ∧ ∀u∈d.Unique,u.Field.size≤8:=by
 unfold nDb at h
 simp only [qM,qL,qP,qQ] at h
 obtain ⟨h1,h2,h3,_,h5,h6⟩:=h
 refine ⟨fun k hk => ?_,?_,h5,h6,fun u hu => ?_⟩
 ·have:=h1 k hk
  unfold aAP at this
  rw [qF hk,qM,Option.any_some] at this
  exact this.1
 ·unfold tN inR at h3
  simp only [qM,qL] at h3
  omega
 ·obtain ⟨k,hk,rfl⟩:=List.getElem_of_mem hu
  have:=h2 k hk
  unfold aAY tN inR at this
  rw [qF hk] at this
  simp only [Option.any_some,qM,qL] at this
  omega
def aFL (d:M.Database) (j:Nat) (s:M.aC):M.Database:=(⟨d.Name,d.Version,d.Stores.set j s,d.Unique⟩:M.Database)
def aFQ (d:M.Database) (o:M.Op) (j:Nat) (s:M.aC):M.Database×Int×Bool:=if (nOn s o).2.2=true then (if nDb (aFL d j (nOn s o).1)=true then (aFL d j (nOn s o).1,(nOn s o).2.1,true) else (d,0,false)) else (d,0,false)
def aGW (d:M.Database) (o:M.Op):M.Database×Int×Bool:=if (nDb d&&nOp o)=true then (match d.Stores[(nO (sV o.aC) d.Stores).toNat]? with
 | some s=>if nO (sV o.aC) d.Stores<0 then (d,0,false) else aFQ d o (nO (sV o.aC) d.Stores).toNat s
 | none=>(d,0,false)) else (d,0,false)
theorem aDd {α:Type} {f:α→Nat} {x:α} : ∀ {l:List α} {i:Nat},eA f (l.set i x)≤eA f l+f x
 | [],i=>by simp [eA]
 | y::l,0=>by simp only [List.set_cons_zero,eA];omega
 | y::l,i+1=>by
  have:=aDd (f:=f) (x:=x) (l:=l) (i:=i)
  simp only [List.set_cons_succ,eA]
  omega
theorem aEd {d:M.Database} {s:M.aC} {j:Nat} (hd:d.ok) (hs:s.ok):(aFL d j s).ok:=⟨hd.Name,hd.Version,⟨by show (d.Stores.set j s).length≤_;rw [qN];exact hd.Stores.1,fun y hy=>by
 rcases List.mem_or_eq_of_mem_set hy with h | rfl
 ·exact hd.Stores.2 y h
 ·exact hs⟩,hd.Unique⟩
theorem aHh {d:M.Database} {s:M.aC} {j:Nat} (hz:M.Database.sz d≤1000000) (hs:M.aC.sz s≤10000):M.Database.sz (aFL d j s)≤1048576:=by
 have:=aDd (f:=M.aC.sz) (x:=s) (l:=d.Stores) (i:=j)
 simp only [aFL,M.Database.sz,qN] at hz ⊢
 omega
theorem aFb {d:M.Database} {o:M.Op} (hd:d.ok) (ho:aCf o) (hz:M.Database.sz d≤1000000):uX d o=some (aGW d o):=by
 unfold uX aGW
 rw [yM d (by omega),qA,xY hd,qA,xF hd (by omega),qA,aCu ho,qA]
 cases hD:nDb d with
 | false=>rfl
 | true =>
  cases hO:nOp o with
  | false=>rfl
  | true =>
   rw [if_neg (by simp),if_neg (by simp),if_pos (show (true&&true)=true from rfl)]
   by_cases hf:nO (sV o.aC) d.Stores<0
   ·rw [if_pos (by simpa using hf)]
    split
    ·rw [if_pos hf]
    ·rfl
   ·obtain ⟨j,e,hj⟩:=fV hf
    have ht:=(aBm hD).1 j hj
    have hs:=hd.Stores.2 _ (qG hj)
    have hon:aII d.Stores[j] o:=⟨hs,ho,hO,ht⟩
    obtain ⟨v1,v2⟩:=aGw hon
    rw [if_neg (by simpa using hf),e,qH,qF hj]
    simp only [show ¬((j:Nat):Int)<0 from by omega,if_false]
    rw [aF hj,qA]
    unfold aFQ
    obtain ⟨x,e1,e2,e3⟩:=aDg hon
    rw [e1,qA,qA,←e2]
    cases hx:x.2.2 with
    | false=>rfl
    | true =>
     obtain rfl:=e3 hx
     rw [if_neg (by simp),if_pos rfl]
     have:=xF (aEd (j:=j) hd v1) (aHh hz v2)
     unfold aFL at this ⊢
     rw [this,qA]
     cases nDb (⟨d.Name,d.Version,d.Stores.set j (nOn d.Stores[j] o).1,d.Unique⟩:M.Database)<;>rfl
theorem aFE {d:M.Database} {o:M.Op} (hd:d.ok) (ho:aCf o) (hz:M.Database.sz d≤1000000):uY d o=some (aGW d o):=by
 unfold uY aGW
 rw [mV d (by omega),qA,xZ hd,qA,xE hd (by omega),qA,aC9 ho,qA]
 cases hD:nDb d with
 | false=>rfl
 | true =>
  cases hO:nOp o with
  | false=>rfl
  | true =>
   rw [if_neg (by simp),if_neg (by simp),if_pos (show (true&&true)=true from rfl)]
   by_cases hf:nO (sV o.aC) d.Stores<0
   ·rw [if_pos (by simpa using hf)]
    split
    ·rw [if_pos hf]
    ·rfl
   ·obtain ⟨j,e,hj⟩:=fV hf
    have ht:=(aBm hD).1 j hj
    have hs:=hd.Stores.2 _ (qG hj)
    have hon:aII d.Stores[j] o:=⟨hs,ho,hO,ht⟩
    obtain ⟨v1,v2⟩:=aGw hon
    rw [if_neg (by simpa using hf),e,qH,qF hj]
    simp only [show ¬((j:Nat):Int)<0 from by omega,if_false]
    rw [aF hj,qA]
    unfold aFQ
    rw [aGL hon,qA]
    cases hx:(nOn d.Stores[j] o).2.2 with
    | false=>rfl
    | true =>
     rw [if_neg (by simp),if_pos rfl]
     have:=xE (aEd (j:=j) hd v1) (aHh hz v2)
     unfold aFL at this ⊢
     rw [this,qA]
     cases nDb (⟨d.Name,d.Version,d.Stores.set j (nOn d.Stores[j] o).1,d.Unique⟩:M.Database)<;>rfl
theorem aEu {d:M.Database} {o:M.Op} (hd:d.ok) (ho:aCf o) (hz:M.Database.sz d≤1000000):(aGW d o).1.ok∧M.Database.sz (aGW d o).1≤M.Database.sz d+10000:=by
 unfold aGW
 split
 ·rename_i h
  rw [qM] at h
  by_cases hf:nO (sV o.aC) d.Stores<0
  ·split
   ·rw [if_pos hf];exact ⟨hd,by dsimp only;omega⟩
   ·exact ⟨hd,by dsimp only;omega⟩
  ·obtain ⟨j,e,hj⟩:=fV hf
   have hon:aII d.Stores[j] o:=⟨hd.Stores.2 _ (qG hj),ho,h.2,(aBm h.1).1 j hj⟩
   obtain ⟨v1,v2⟩:=aGw hon
   rw [e,qH,qF hj]
   simp only [show ¬((j:Nat):Int)<0 from by omega,if_false]
   unfold aFQ
   split
   ·split
    ·refine ⟨aEd hd v1,?_⟩
     have:=aDd (f:=M.aC.sz) (x:=(nOn d.Stores[j] o).1) (l:=d.Stores) (i:=j)
     simp only [aFL,M.Database.sz,qN]
     omega
    ·exact ⟨hd,by dsimp only;omega⟩
   ·exact ⟨hd,by dsimp only;omega⟩
 ·exact ⟨hd,by dsimp only;omega⟩
theorem aJy {d:M.Database} (h:nDb d=true) (hu : ∀u∈d.Unique,u.aC.size≤8):M.Database.sz d≤100000:=by
 obtain ⟨h1,h2,h3,h4,h5⟩:=aBm h
 have a1:=wY (w:=M.aC.sz) (b:=10000) (xs:=d.Stores) (fun x hx=>by
  obtain ⟨k,hk,rfl⟩:=List.getElem_of_mem hx
  exact aCl (h1 k hk))
 have a2:=wY (w:=M.aE.sz) (b:=16) (xs:=d.Unique) (fun x hx=>by
  have b1:=h5 x hx
  have b2:=hu x hx
  simp only [M.aE.sz]
  omega)
 simp only [M.Database.sz]
 omega
theorem aHr {l:List M.aC} {a:ByteArray} (h:0≤nO (sV a) l) : ∃x∈l,x.Name.toList=a.toList:=by
 obtain ⟨k,e,hk⟩:=fV (show ¬nO (sV a) l<0 by omega)
 obtain ⟨_,hf⟩:=aA1 e
 exact ⟨_,qG hk,by unfold sV at hf;exact eq_of_beq hf⟩
theorem aEn {d:M.Database} (h:nDb d=true) : ∀u∈d.Unique,u.aC.size≤8:=by
 intro u hu
 obtain ⟨h1,_⟩:=aBm h
 unfold nDb at h
 simp only [qM,qL,qP,qQ] at h
 obtain ⟨k,hk,rfl⟩:=List.getElem_of_mem hu
 have:=h.2.1 k hk
 unfold aAY at this
 rw [qF hk] at this
 simp only [Option.any_some,qM,qL] at this
 obtain ⟨x,hx,e⟩:=aHr this.1
 obtain ⟨j,hj,rfl⟩:=List.getElem_of_mem hx
 have hn:=(pF (h1 j hj)).2.1
 unfold tN inR at hn
 simp only [qM,qL] at hn
 have:=bsize e
 omega
def aDm (d0:M.Database):M.Database→List Int→List M.Op→M.Database×List Int×Bool
 | x,ns,[]=>(x,ns,true)
 | x,ns,o::l=>if (aGW x o).2.2=true then aDm d0 (aGW x o).1 (ns++[(aGW x o).2.1]) l else (d0,([]:List Int),false)
def aAI (d:M.Database) (l:List M.Op):M.Database×List Int×Bool:=if nDb d=true then (if l.length>6 then (d,([]:List Int),false) else aDm d d [] l) else (d,([]:List Int),false)
theorem aIc {d0:M.Database} {l:List M.Op} (h6:l.length≤6) (ho : ∀o∈l,aCf o) (hz0:M.Database.sz d0≤1000000) : ∀(n k:Nat) (x:M.Database) (ns:List Int),l.length-k<n→k≤l.length→x.ok→M.Database.sz x≤900000+10000*k→ns.length=k→kC d0 l n (k:Int) x.Name x.Version ns x.Stores x.Unique=some (aDm d0 x ns (l.drop k))
 | 0,_,_,_,h,_,_,_,_=>by omega
 | n+1,k,x,ns,hn,hk,hx,hz,hs=>by
  simp only [kC]
  rcases Nat.lt_or_ge k l.length with hlt | hge
  ·rw [if_pos (bD hlt),aF hlt,qA]
   show ((uX x l[k]).bind _)=_
   have hok:=ho _ (qG hlt)
   obtain ⟨v1,v2⟩:=aEu hx hok (by omega)
   rw [aFb hx hok (by omega),qA,qU hlt]
   simp only [aDm]
   cases (aGW x l[k]).2.2 with
   | false =>
    rw [if_pos (by simp),if_neg (by simp),yM d0 (by omega),qA]
   | true =>
    rw [if_neg (by simp),if_pos rfl,iH (by simp;omega),qA,bR (by omega)]
    exact aIc h6 ho hz0 n (k+1) _ _ (by omega) hlt v1 (Nat.le_trans v2 (by omega)) (by simp [hs])
  ·have e:k=l.length:=by omega
   subst e
   rw [if_neg (by rw [aJ];simp),qX]
   rfl
theorem aEm {d:M.Database} {l:List M.Op} (hd:d.ok) (hl:l.length≤1000) (ho : ∀o∈l,aCf o) (hz:M.Database.sz d≤1048576):sS d l=some (aAI d l):=by
 unfold sS aAI
 rw [yM d (by omega),qA,xF hd (by omega),qA]
 cases hD:nDb d with
 | false=>rfl
 | true =>
  have hs:=aJy hD (aEn hD)
  rw [if_neg (by simp),if_pos rfl]
  by_cases h6:l.length>6
  ·rw [if_pos (by simp;omega),if_pos h6]
  ·rw [if_neg (by simp;omega),if_neg h6]
   exact aIc (by omega) ho (by omega) fuel 0 d [] (by unfold fuel;omega) (by omega) hd (by omega) rfl
theorem aId {d0:M.Database} {l:List M.Op} (h6:l.length≤6) (ho : ∀o∈l,aCf o) (hz0:M.Database.sz d0≤1000000) : ∀(n k:Nat) (x:M.Database) (ns:List Int),l.length-k<n→k≤l.length→x.ok→M.Database.sz x≤900000+10000*k→ns.length=k→iM d0 l n (k:Int) x.Name x.Version ns x.Stores x.Unique=some (aDm d0 x ns (l.drop k))
 | 0,_,_,_,h,_,_,_,_=>by omega
 | n+1,k,x,ns,hn,hk,hx,hz,hs=>by
  simp only [iM]
  rcases Nat.lt_or_ge k l.length with hlt | hge
  ·rw [if_pos (bD hlt),aF hlt,qA]
   show ((uY x l[k]).bind _)=_
   have hok:=ho _ (qG hlt)
   obtain ⟨v1,v2⟩:=aEu hx hok (by omega)
   rw [aFE hx hok (by omega),qA,qU hlt]
   simp only [aDm]
   cases (aGW x l[k]).2.2 with
   | false =>
    rw [if_pos (by simp),if_neg (by simp),mV d0 (by omega),qA]
   | true =>
    rw [if_neg (by simp),if_pos rfl,iH (by simp;omega),qA,bR (by omega)]
    exact aId h6 ho hz0 n (k+1) _ _ (by omega) hlt v1 (Nat.le_trans v2 (by omega)) (by simp [hs])
  ·have e:k=l.length:=by omega
   subst e
   rw [if_neg (by rw [aJ];simp),qX]
   rfl
theorem aEv {d:M.Database} {l:List M.Op} (hd:d.ok) (hl:l.length≤1000) (ho : ∀o∈l,aCf o) (hz:M.Database.sz d≤1048576):rZ d l=some (aAI d l):=by
 unfold rZ aAI
 rw [mV d (by omega),qA,xE hd (by omega),qA]
 cases hD:nDb d with
 | false=>rfl
 | true =>
  have hs:=aJy hD (aEn hD)
  rw [if_neg (by simp),if_pos rfl]
  by_cases h6:l.length>6
  ·rw [if_pos (by simp;omega),if_pos h6]
  ·rw [if_neg (by simp;omega),if_neg h6]
   exact aId (by omega) ho (by omega) fuel 0 d [] (by unfold fuel;omega) (by omega) hd (by omega) rfl
theorem aLB {d:M.Database} {o:M.Op} (h:(aGW d o).2.2=true):nDb (aGW d o).1=true:=by
 unfold aGW at h ⊢
 split at h
 ·rename_i h1
  rw [if_pos h1]
  split at h
  ·rename_i s hs
   split at h
   ·cases h
   ·rename_i h2
    rw [if_neg h2]
    unfold aFQ at h ⊢
    split at h
    ·rename_i h3
     rw [if_pos h3]
     split at h
     ·rename_i h4
      rw [if_pos h4]
      exact h4
     ·cases h
    ·cases h
  ·cases h
 ·cases h
theorem aFs {d0:M.Database} (h0:d0.ok) : ∀ {l:List M.Op} {x:M.Database} {ns:List Int},(∀o∈l,aCf o)→x.ok→nDb x=true→(aDm d0 x ns l).1=d0∨((aDm d0 x ns l).1.ok∧nDb (aDm d0 x ns l).1=true)
 | [],x,ns,_,hx,hb=>.inr ⟨hx,hb⟩
 | o::l,x,ns,ho,hx,hb=>by
  have hz:=aJy hb (aEn hb)
  simp only [aDm]
  split
  ·rename_i h
   exact aFs h0 (fun y hy=>ho y (by simp [hy])) (aEu hx (ho o (by simp)) (by omega)).1 (aLB h)
  ·exact .inl rfl
theorem aBS {d:M.Database} {l:List M.Op} (hd:d.ok) (ho : ∀o∈l,aCf o):(aAI d l).1=d∨((aAI d l).1.ok∧M.Database.sz (aAI d l).1≤100000):=by
 unfold aAI
 split
 ·rename_i h
  split
  ·exact .inl rfl
  ·rcases aFs hd ho hd h (ns:=[]) with e | ⟨h1,h2⟩
   ·exact .inl e
   ·exact .inr ⟨h1,aJy h2 (aEn h2)⟩
 ·exact .inl rfl
def aBo:M.Database→Nat→List (List Int)→M.Database×Int
 | d,i,[]=>(d,(i:Int))
 | d,i,e::l=>if (yT e).2=true then aBo (aAI d (yT e).1).1 (i+1) l else (d,(i:Int))
def aBC (d:M.fQ):M.Database×Int:=aBo d.Base 0 (aKc d.Log).1
theorem aGy {x3:List (List Int)×Int} (hl:x3.1.length≤1048576) (ho : ∀l∈x3.1,okB l∧l.length≤4000) : ∀(n k:Nat) (d:M.Database),x3.1.length-k<n→k≤x3.1.length→d.ok→M.Database.sz d≤1048576→iI x3 n (k:Int) d.Name d.Version d.Stores d.Unique=some (aBo d k (x3.1.drop k))
 | 0,_,_,h,_,_,_=>by omega
 | n+1,k,d,hn,hk,hd,hz=>by
  simp only [iI]
  rcases Nat.lt_or_ge k x3.1.length with hlt | hge
  ·obtain ⟨b1,b2⟩:=ho _ (qG hlt)
   obtain ⟨o1,o2⟩:=aCG b1 (by omega)
   rw [if_pos (bD hlt),aF hlt,qA,aCk b1 (by omega),qA,qU hlt]
   simp only [aBo]
   cases (yT x3.1[k]).2 with
   | false=>rfl
   | true =>
    rw [if_neg (by simp),if_pos rfl]
    show ((sS d (yT x3.1[k]).1).bind _)=_
    rw [aEm hd (by omega) (fun o h=>(o2 o h).1) hz,qA,bR (by omega)]
    rcases aBS hd (fun o h=>(o2 o h).1) with e | ⟨v1,v2⟩
    ·rw [e]
     exact aGy hl ho n (k+1) d (by omega) hlt hd hz
    ·exact aGy hl ho n (k+1) _ (by omega) hlt v1 (by omega)
  ·have e:k=x3.1.length:=by omega
   subst e
   rw [if_neg (by rw [aJ];simp),qX]
   rfl
theorem aDe {d:M.fQ} (hd:d.ok) (hz:M.fQ.sz d≤1048576):pZ d=some (aBC d):=by
 have hz1:M.Database.sz d.Base≤1048576:=by simp only [M.fQ.sz] at hz;omega
 have hz2:d.Log.length≤1048576:=by simp only [M.fQ.sz] at hz;omega
 obtain ⟨g1,g2⟩:=aGh hd.Log
 unfold pZ aBC
 rw [yM d.Base (by omega),qA,aDh hd.Log (by omega),qA]
 exact aGy (x3:=aKc d.Log) (by omega) g2 fuel 0 d.Base (by unfold fuel;omega) (by omega) hd.Base hz1
theorem aGc {x3:List (List Int)×Int} (hl:x3.1.length≤1048576) (ho : ∀l∈x3.1,okB l∧l.length≤4000) : ∀(n k:Nat) (d:M.Database),x3.1.length-k<n→k≤x3.1.length→d.ok→M.Database.sz d≤1048576→fJ x3 n (k:Int) d.Name d.Version d.Stores d.Unique=some (aBo d k (x3.1.drop k))
 | 0,_,_,h,_,_,_=>by omega
 | n+1,k,d,hn,hk,hd,hz=>by
  simp only [fJ]
  rcases Nat.lt_or_ge k x3.1.length with hlt | hge
  ·obtain ⟨b1,b2⟩:=ho _ (qG hlt)
   obtain ⟨o1,o2⟩:=aCG b1 (by omega)
   rw [if_pos (bD hlt),aF hlt,qA,aCa b1 (by omega),qA,qU hlt]
   simp only [aBo]
   cases (yT x3.1[k]).2 with
   | false=>rfl
   | true =>
    rw [if_neg (by simp),if_pos rfl]
    show ((rZ d (yT x3.1[k]).1).bind _)=_
    rw [aEv hd (by omega) (fun o h=>(o2 o h).1) hz,qA,bR (by omega)]
    rcases aBS hd (fun o h=>(o2 o h).1) with e | ⟨v1,v2⟩
    ·rw [e]
     exact aGc hl ho n (k+1) d (by omega) hlt hd hz
    ·exact aGc hl ho n (k+1) _ (by omega) hlt v1 (by omega)
  ·have e:k=x3.1.length:=by omega
   subst e
   rw [if_neg (by rw [aJ];simp),qX]
   rfl
theorem aDW {d:M.fQ} (hd:d.ok) (hz:M.fQ.sz d≤1048576):pN d=some (aBC d):=by
 have hz1:M.Database.sz d.Base≤1048576:=by simp only [M.fQ.sz] at hz;omega
 have hz2:d.Log.length≤1048576:=by simp only [M.fQ.sz] at hz;omega
 obtain ⟨g1,g2⟩:=aGh hd.Log
 unfold pN aBC
 rw [mV d.Base (by omega),qA,aDj hd.Log (by omega),qA]
 exact aGc (x3:=aKc d.Log) (by omega) g2 fuel 0 d.Base (by unfold fuel;omega) (by omega) hd.Base hz1
theorem aB7 : ∀ {l:List (List Int)} {d:M.Database} {i:Nat},(∀e∈l,okB e∧e.length≤4000)→d.ok→M.Database.sz d≤1048576→(aBo d i l).1.ok∧M.Database.sz (aBo d i l).1≤1048576
 | [],d,i,_,hd,hz=>⟨hd,hz⟩
 | e::l,d,i,ho,hd,hz=>by
  obtain ⟨b1,b2⟩:=ho e (by simp)
  obtain ⟨o1,o2⟩:=aCG b1 (by omega)
  simp only [aBo]
  split
  ·rcases aBS hd (fun o h=>(o2 o h).1) with e' | ⟨v1,v2⟩
   ·rw [e']
    exact aB7 (fun x hx=>ho x (by simp [hx])) hd hz
   ·exact aB7 (fun x hx=>ho x (by simp [hx])) v1 (by omega)
  ·exact ⟨hd,hz⟩
theorem aBY {d:M.fQ} (hd:d.ok) (hz:M.fQ.sz d≤1048576):(aBC d).1.ok∧M.Database.sz (aBC d).1≤1048576:=aB7 (aGh hd.Log).2 hd.Base (by simp only [M.fQ.sz] at hz;omega)
def aAw (n:Int):M.Key:=(⟨1,n,(⟨#[]⟩:ByteArray)⟩:M.Key)
def aDT:ByteArray:=(⟨#[110,111,116,101,115]⟩:ByteArray)
def aCj (d:M.Database) (n:Int):M.aA:=match d.Stores[(nO (sV aDT) d.Stores).toNat]? with
 | some s=>if nO (sV aDT) d.Stores<0 then (⟨([]:List M.Field)⟩:M.aA) else kZ s (aAw n)
 | none=>(⟨([]:List M.Field)⟩:M.aA)
theorem aHi {d:M.Database} {n:Int} (hd:d.ok):(aCj d n).ok:=by
 unfold aCj
 split
 ·rename_i s hs
  split
  ·exact aHL
  ·exact aFT (hd.Stores.2 _ (List.mem_of_getElem? hs))
 ·exact aHL
def aJi (d:M.Database):Bool:=decide (0≤nO (sV aDT) d.Stores)
theorem aL0 {s:M.aC} (k:M.Key):M.aA.sz (kZ s k)≤M.aC.sz s:=aIP s k
theorem aCg {b:M.Bucket} {n:Int} (hb:b.fQ.ok) (hz:M.fQ.sz b.fQ≤1048576):oJ b n=some (aCj (aBC b.fQ).1 n,aJi (aBC b.fQ).1):=by
 obtain ⟨v1,v2⟩:=aBY hb hz
 unfold oJ aCj
 rw [aDe hb hz,qA]
 generalize (aBC b.fQ).1=d at v1 v2 ⊢
 show ((fR d aDT).bind _)=_
 rw [xY v1,qA]
 by_cases hf:nO (sV aDT) d.Stores<0
 ·have eh:aJi d=false:=by unfold aJi;rw [decide_eq_false_iff_not];omega
  rw [if_pos (by simpa using hf),eh]
  split
  ·rw [if_pos hf]
  ·rfl
 ·obtain ⟨j,e,hj⟩:=fV hf
  have hs:=v1.Stores.2 _ (qG hj)
  have zs:=aFC v2 _ (qG hj)
  have eh:aJi d=true:=by unfold aJi;rw [qL];omega
  rw [eh,if_neg (by simpa using hf),e,qH,qF hj]
  simp only [show ¬((j:Nat):Int)<0 from by omega,if_false]
  rw [aF hj,qA]
  unfold yF
  rw [qA]
  show ((eM d.Stores[j] (aAw n)).bind _)=_
  rw [rY hs,qA]
  by_cases hi:nO (lC (aAw n)) d.Stores[j].Items<0
  ·rw [if_pos (by simpa using hi),aBX hi]
  ·obtain ⟨x,e1,e2⟩:=aAM hi
   have:=aL0 (s:=d.Stores[j]) (aAw n)
   rw [if_neg (by simpa using hi),e1,qA,e2,sJ _ (by omega),qA]
theorem aEj {d:M.Database} {n:Int} (hd:d.ok) : ∃g,wJ d n=some (aCj d n,g,aJi d):=by
 unfold wJ aCj
 show ∃g,((fS d aDT).bind _)=_
 rw [xZ hd,qA]
 by_cases hf:nO (sV aDT) d.Stores<0
 ·have eh:aJi d=false:=by unfold aJi;rw [decide_eq_false_iff_not];omega
  rw [if_pos (by simpa using hf),eh]
  split
  ·rw [if_pos hf];exact ⟨_,rfl⟩
  ·exact ⟨_,rfl⟩
 ·obtain ⟨j,e,hj⟩:=fV hf
  have hs:=hd.Stores.2 _ (qG hj)
  have eh:aJi d=true:=by unfold aJi;rw [qL];omega
  rw [eh,if_neg (by simpa using hf),e,qH,qF hj]
  simp only [show ¬((j:Nat):Int)<0 from by omega,if_false]
  rw [aF hj,qA]
  unfold uR
  rw [qA]
  show ∃g,((fI d.Stores[j] (aAw n)).bind _)=_
  rw [wB hs,qA]
  by_cases hi:nO (lC (aAw n)) d.Stores[j].Items<0
  ·rw [if_pos (by simpa using hi),aBX hi];exact ⟨_,rfl⟩
  ·obtain ⟨x,e1,e2⟩:=aAM hi
   rw [if_neg (by simpa using hi),e1,qA,e2]
   exact ⟨_,rfl⟩
def aKK (w:M.World) (p:M.gX) (n:Int) (f:ByteArray):Int:=match w.aM.Buckets[(nO (nAt p.Site p.Top) w.aM.Buckets).toNat]? with
 | some b=>if nO (nAt p.Site p.Top) w.aM.Buckets<0 then -1 else (if (cA (aCj (aBC b.fQ).1 n) f).2=true then (if 1000<(cA (aCj (aBC b.fQ).1 n) f).1 then 1000 else (cA (aCj (aBC b.fQ).1 n) f).1) else -1)
 | none => -1
theorem aJV {w:M.World} (hz:M.World.sz w≤1048576) {b:M.Bucket} (hb:b∈w.aM.Buckets):M.fQ.sz b.fQ≤1048576:=by
 have:=eP (f:=M.Bucket.sz) hb
 have h2:M.fQ.sz b.fQ≤M.Bucket.sz b:=by simp only [M.Bucket.sz];omega
 simp only [M.World.sz,M.aM.sz] at hz
 omega
theorem aDF {w:M.World} {p:M.gX} {n:Int} {f:ByteArray} (hw:w.ok) (hz:M.World.sz w≤1048576):pT w p n f=some (aKK w p n f):=by
 unfold pT aKK
 rw [aB0 hw.aM,qA]
 by_cases hf:nO (nAt p.Site p.Top) w.aM.Buckets<0
 ·rw [if_pos (by simpa using hf)]
  split
  ·rw [if_pos hf]
  ·rfl
 ·obtain ⟨j,e,hj⟩:=fV hf
  have hb:=hw.aM.Buckets.2 _ (qG hj)
  have zd:=aJV hz (qG hj)
  rw [if_neg (by simpa using hf),e,qH,qF hj]
  simp only [show ¬((j:Nat):Int)<0 from by omega,if_false]
  rw [aF hj,qA,aCg (n:=n) hb.fQ zd,qA,gV (aHi (aBY hb.fQ zd).1),qA]
  cases (cA (aCj (aBC w.aM.Buckets[j].fQ).1 n) f).2 with
  | false=>rfl
  | true =>
   rw [if_neg (by simp),if_pos rfl]
   unfold aA0
   generalize (cA (aCj (aBC w.aM.Buckets[j].fQ).1 n) f).1=v
   by_cases hv:v<1000
   ·rw [if_pos (by simpa using hv),qA,if_neg (by omega)]
   ·rw [if_neg (by simpa using hv),qA]
    by_cases h2:1000<v
    ·rw [if_pos h2]
    ·rw [if_neg h2,show v=1000 from by omega]
theorem aDN {w:M.World} {p:M.gX} {n:Int} {f:ByteArray} (hw:w.ok) (hz:M.World.sz w≤1048576):rN w p n f=some (aKK w p n f):=by
 unfold rN vY aKK
 rw [aCF hw.aM,qA]
 by_cases hf:nO (nAt p.Site p.Top) w.aM.Buckets<0
 ·rw [if_pos (by simpa using hf),qA]
  simp only [qC,if_true]
  split
  ·rw [if_pos hf]
  ·rfl
 ·obtain ⟨j,e,hj⟩:=fV hf
  have hb:=hw.aM.Buckets.2 _ (qG hj)
  have zd:=aJV hz (qG hj)
  rw [if_neg (by simpa using hf),e,qH,qF hj]
  simp only [show ¬((j:Nat):Int)<0 from by omega,if_false]
  obtain ⟨g,eg⟩:=aEj (n:=n) (aBY hb.fQ zd).1
  rw [aF hj,qA,qA,if_neg (by simp),aDW hb.fQ zd,qA,eg,qA,eN (aHi (aBY hb.fQ zd).1),qA]
  cases (cA (aCj (aBC w.aM.Buckets[j].fQ).1 n) f).2<;>rfl
end Go.Proofs.YtidhkhdnjonjfaaGreat.gen
