/-
  Helper text. No conditions.
-/
import Derived.Test.YtidhkhdnjonjfaaGreatBucketsPd0
set_option linter.unusedVariables false
set_option linter.unusedSimpArgs false
namespace Go.Proofs.YtidhkhdnjonjfaaGreat.gen
open Go Go.Sh
open Go.IntKind (i64)
theorem aEE (x:M.Cache) (hs:M.Cache.sz x≤1073741824):rQ x=some x:=by
 have hl:x.Entries.length≤1073741824:=by simp only [M.Cache.sz] at hs;omega
 unfold rQ
 exact aAU (xs:=x.Entries) (L:=iI x) (b:=88) (E:=fun r=>some { x with Entries:=r }) hl (by omega) (fun n r k hk=>by
  simp only [iI]
  rw [if_pos (bI hk),aO hk,qA,aBT _ (by have:=nY (f:=M.Cached.sz) (qG hk);simp only [M.Cache.sz] at hs;simp only [M.Cached.sz] at this;omega),qA,cU (by omega)]) (fun n r=>by
  simp only [iI]
  rw [if_neg (by rw [aW];simp)])
theorem tG (x:M.aE) (hs:M.aE.sz x≤1073741824):bX x=some x:=by
 have hl:x.Caches.length≤1073741824:=by simp only [M.aE.sz] at hs;omega
 unfold bX
 exact aAU (xs:=x.Caches) (L:=jZ x) (b:=32) (E:=fun r=>some { x with Caches:=r }) hl (by omega) (fun n r k hk=>by
  simp only [jZ]
  rw [if_pos (bI hk),aO hk,qA,aEE _ (by have:=nY (f:=M.Cache.sz) (qG hk);simp only [M.aE.sz] at hs;omega),qA,cU (by omega)]) (fun n r=>by
  simp only [jZ]
  rw [if_neg (by rw [aW];simp)])
theorem aBl (x:M.aE) (hs:M.aE.sz x≤1073741824):mH x=some x:=by
 have hl:x.Caches.length≤1073741824:=by simp only [M.aE.sz] at hs;omega
 unfold mH
 exact aAU (xs:=x.Caches) (L:=dC x) (b:=32) (E:=fun r=>some { x with Caches:=r }) hl (by omega) (fun n r k hk=>by
  have hz:=nY (f:=M.Cache.sz) (qG hk)
  simp only [M.aE.sz] at hs
  have hz2:x.Caches[k].Entries.length+lV M.Cached.sz x.Caches[k].Entries≤M.Cache.sz x.Caches[k]:=by simp only [M.Cache.sz];omega
  simp only [dC]
  rw [if_pos (bI hk),aO hk,qA,cU (by omega)]
  exact aAU (xs:=x.Caches[k].Entries) (b:=88) (L:=eK x.Caches[k] (fun (v:Int) (q:List M.Cached)=>(app 32 r ([(⟨x.Caches[k].Version,q⟩:M.Cache)])).bind fun _=>(dC x n ((k+1:Nat):Int) (r++[(⟨x.Caches[k].Version,q⟩:M.Cache)])))) (by omega) (by omega) (fun m q j hj=>by
   have hy:=nY (f:=M.Cached.sz) (qG hj)
   simp only [eK]
   rw [if_pos (bI hj),aO hj,qA,aBX _ (by simp only [M.Cached.sz] at hy;omega),qA,cU (by omega)]) (fun m q=>by
   simp only [eK]
   rw [if_neg (by rw [aW];simp)])) (fun n r=>by
  simp only [dC]
  rw [if_neg (by rw [aW];simp)])
theorem uI (x:M.aC) (hs:M.aC.sz x≤1073741824):bN x=some x:=by
 simp only [M.aC.sz] at hs
 unfold bN
 rw [aGS (by omega) (by omega),qA]
theorem zZ (x:M.Item) (hs:M.Item.sz x≤1073741824):pC x=some x:=by
 simp only [M.Item.sz] at hs
 unfold pC
 rw [uI _ (by omega),qA]
theorem kC (x:M.aA) (hs:M.aA.sz x≤1073741824):bH x=some x:=by
 have hl:x.Items.length≤1073741824:=by simp only [M.aA.sz] at hs;omega
 unfold bH
 exact aAU (xs:=x.Items) (L:=kZ x) (b:=56) (E:=fun r=>some { x with Items:=r }) hl (by omega) (fun n r k hk=>by
  simp only [kZ]
  rw [if_pos (bI hk),aO hk,qA,zZ _ (by have:=nY (f:=M.Item.sz) (qG hk);simp only [M.aA.sz] at hs;omega),qA,cU (by omega)]) (fun n r=>by
  simp only [kZ]
  rw [if_neg (by rw [aW];simp)])
theorem sJ (x:M.Database) (hs:M.Database.sz x≤1073741824):dG x=some x:=by
 have hl:x.Stores.length≤1073741824:=by simp only [M.Database.sz] at hs;omega
 unfold dG
 rw [aGS (by simp only [M.Database.sz] at hs;omega) (by omega),qA]
 exact aAU (xs:=x.Stores) (L:=lA x) (b:=48) (E:=fun r=>some { x with Stores:=r }) hl (by omega) (fun n r k hk=>by
  simp only [lA]
  rw [if_pos (bI hk),aO hk,qA,kC _ (by have:=nY (f:=M.aA.sz) (qG hk);simp only [M.Database.sz] at hs;omega),qA,cU (by omega)]) (fun n r=>by
  simp only [lA]
  rw [if_neg (by rw [aW];simp)])
theorem yN (x:M.bF) (hs:M.bF.sz x≤1073741824):nQ x=some x:=by
 simp only [M.bF.sz] at hs
 unfold nQ
 rw [sJ _ (by omega),qA,aGS (by omega) (by omega),qA]
theorem uY (x:M.aG) (hs:M.aG.sz x≤1073741824):lR x=some x:=by
 simp only [M.aG.sz] at hs
 unfold lR
 rw [aGS (by omega) (by omega),qA]
theorem aFA (x:M.Sync) (hs:M.Sync.sz x≤1073741824):nU x=some x:=by
 simp only [M.Sync.sz] at hs
 unfold nU
 rw [uY _ (by omega),qA]
theorem yO (x:M.aD) (hs:M.aD.sz x≤1073741824):nW x=some x:=by
 simp only [M.aD.sz] at hs
 unfold nW
 rw [kC _ (by omega),qA,aFA _ (by omega),qA]
theorem yP (x:M.Bucket) (hs:M.Bucket.sz x≤1073741824):lP x=some x:=by
 simp only [M.Bucket.sz] at hs
 unfold lP
 rw [tG _ (by omega),qA,yN _ (by omega),qA,yO _ (by omega),qA]
theorem aC8 (x:M.aC) (hs:M.aC.sz x≤1073741824):oP x=some x:=by
 simp only [M.aC.sz] at hs
 unfold oP
 rw [aGS (by omega) (by omega),qA]
theorem aAj (x:M.Item) (hs:M.Item.sz x≤1073741824):oT x=some x:=by
 simp only [M.Item.sz] at hs
 unfold oT
 rw [aC8 _ (by omega),qA]
theorem aAF (x:M.aA) (hs:M.aA.sz x≤1073741824):mY x=some x:=by
 have hl:x.Items.length≤1073741824:=by simp only [M.aA.sz] at hs;omega
 unfold mY
 exact aAU (xs:=x.Items) (L:=gN x) (b:=56) (E:=fun r=>some { x with Items:=r }) hl (by omega) (fun n r k hk=>by
  simp only [gN]
  rw [if_pos (bI hk),aO hk,qA,aAj _ (by have:=nY (f:=M.Item.sz) (qG hk);simp only [M.aA.sz] at hs;omega),qA,cU (by omega)]) (fun n r=>by
  simp only [gN]
  rw [if_neg (by rw [aW];simp)])
theorem aBa (x:M.Database) (hs:M.Database.sz x≤1073741824):mM x=some x:=by
 have hl:x.Stores.length≤1073741824:=by simp only [M.Database.sz] at hs;omega
 unfold mM
 rw [aGS (by simp only [M.Database.sz] at hs;omega) (by omega),qA]
 exact aAU (xs:=x.Stores) (L:=eM x) (b:=48) (E:=fun r=>some { x with Stores:=r }) hl (by omega) (fun n r k hk=>by
  simp only [eM]
  rw [if_pos (bI hk),aO hk,qA,aAF _ (by have:=nY (f:=M.aA.sz) (qG hk);simp only [M.Database.sz] at hs;omega),qA,cU (by omega)]) (fun n r=>by
  simp only [eM]
  rw [if_neg (by rw [aW];simp)])
theorem aEU (x:M.bF) (hs:M.bF.sz x≤1073741824):rK x=some x:=by
 simp only [M.bF.sz] at hs
 unfold rK
 rw [aBa _ (by omega),qA,aAH _ (by omega),qA]
theorem aCy (x:M.aG) (hs:M.aG.sz x≤1073741824):oU x=some x:=by
 simp only [M.aG.sz] at hs
 unfold oU
 rw [aGS (by omega) (by omega),qA]
theorem aEr (x:M.Sync) (hs:M.Sync.sz x≤1073741824):rU x=some x:=by
 simp only [M.Sync.sz] at hs
 unfold rU
 rw [aCy _ (by omega),qA]
theorem aBu (x:M.aD) (hs:M.aD.sz x≤1073741824):nI x=some x:=by
 simp only [M.aD.sz] at hs
 unfold nI
 rw [aAF _ (by omega),qA,aEr _ (by omega),qA]
theorem zI (x:M.Bucket) (hs:M.Bucket.sz x≤1073741824):jO x=some x:=by
 simp only [M.Bucket.sz] at hs
 unfold jO
 rw [aBl _ (by omega),qA,aEU _ (by omega),qA,aBu _ (by omega),qA]
def nPl (f:M.Item→Bool) (l:List M.Item):Nat→Nat
 | 0=>0
 | k+1=>if (l[k]?).any f=true then nPl f l k else k+1
theorem aJJ (f:M.Item→Bool) (l:List M.Item) : ∀k,nPl f l k≤k
 | 0=>by simp [nPl]
 | k+1=>by
  unfold nPl
  split
  ·exact Nat.le_succ_of_le (aJJ f l k)
  ·exact Nat.le_refl _
theorem aKo {α:Type} {l:List α} {i:Int} {x:α} (h:idx l i=some x):x∈l:=List.mem_of_getElem? (jG h).2.1
theorem aAh {α:Type} {l:List α} {k:Nat} (h:k≤l.length):xA l (k:Int)=some (l.take k):=by
 unfold xA
 rw [if_pos ⟨by omega,by simpa using h⟩,qH]
def aM9 (a:ByteArray) (out:List M.Item) (x:M.Item):List M.Item:=
 if (fJ x.aC a).2=true then out.take (nPl (aBf a x) out out.length)++(x::out.drop (nPl (aBf a x) out out.length)) else out
def aDX (s:M.aA) (a:ByteArray):List M.Item:=s.Items.foldl (aM9 a) []
theorem aIZ (a:ByteArray) (out:List M.Item) (x:M.Item):(aM9 a out x).length≤out.length+1:=by
 unfold aM9
 have:=aJJ (aBf a x) out out.length
 split
 ·simp only [qE,qT,qJ,qU];omega
 ·omega
theorem aIW {a:ByteArray} {out:List M.Item} {x y:M.Item} (h:y∈aM9 a out x):y=x∨y∈out:=by
 unfold aM9 at h
 split at h
 ·rcases List.mem_append.1 h with h | h
  ·exact .inr (List.mem_of_mem_take h)
  ·rcases List.mem_cons.1 h with h | h
   ·exact .inl h
   ·exact .inr (List.mem_of_mem_drop h)
 ·exact .inr h
theorem aKg {a:ByteArray} {l:List M.Item} {x:M.Item} {K:Int→Option (List M.Item)} (hl:l.length≤1048576) (hx:x.ok) (ho : ∀y∈l,M.Item.ok y) :
  ∀(n k:Nat),k<n→k≤l.length→jK a l x K n (k:Int)=K ((nPl (aBf a x) l k:Nat):Int)
 | 0,k,h,_=>by omega
 | n+1,0,h,_=>by
  simp only [jK,nPl]
  rw [if_neg (by simp)]
 | n+1,k+1,h,hk=>by
  have hk':k<l.length:=by omega
  have e:i64.wrap (((k+1:Nat):Int)-1)=(k:Int):=by rw [bO (by omega) (by omega)];omega
  simp only [jK]
  rw [if_pos (by simp),e,aO hk',qA,aGG hx (ho _ (qG hk')),qA,nPl,qF hk',Option.any_some]
  cases hc:aBf a x l[k] with
  | true=>rw [if_pos rfl,if_pos rfl];exact aKg hl hx ho n k (by omega) (by omega)
  | false=>rw [if_neg (by simp),if_neg (by simp)]
theorem aKB {a:ByteArray} {l:List M.Item} {x:M.Item} {K:Int→Option (List M.Item)} (hl:l.length≤1048576) (hx:x.ok) (ho : ∀y∈l,M.Item.ok y) :
  ∀(n k:Nat),k<n→k≤l.length→jS a l x K n (k:Int)=K ((nPl (aBf a x) l k:Nat):Int)
 | 0,k,h,_=>by omega
 | n+1,0,h,_=>by
  simp only [jS,nPl]
  rw [if_neg (by simp)]
 | n+1,k+1,h,hk=>by
  have hk':k<l.length:=by omega
  have e:i64.wrap (((k+1:Nat):Int)-1)=(k:Int):=by rw [bO (by omega) (by omega)];omega
  simp only [jS]
  rw [if_pos (by simp),e,aO hk',qA,aCQ hx (ho _ (qG hk')),qA,nPl,qF hk',Option.any_some]
  cases hc:aBf a x l[k] with
  | true=>rw [if_pos rfl,if_pos rfl];exact aKB hl hx ho n k (by omega) (by omega)
  | false=>rw [if_neg (by simp),if_neg (by simp)]
theorem aMu {s:M.aA} {a:ByteArray} (hs:s.ok) (hz:M.aA.sz s≤1048576):tB s a=some (aDX s a)∧(aDX s a).length≤s.Items.length ∧ ∀y∈aDX s a,M.Item.ok y:=by
 have hl:s.Items.length≤1048576:=by simp only [M.aA.sz] at hz;omega
 unfold tB aDX
 refine aIb (L:=gY s a) (xs:=s.Items) (step:=aM9 a) (I:=fun k out=>out.length≤k ∧ ∀y∈out,M.Item.ok y) (E:=fun out=>some out) hs.Items.1 (fun out k hk hi=>⟨?_,fun y hy => ?_⟩) (fun n out k hk hi => ?_) (fun n out hi => ?_) [] ⟨Nat.le_refl _,by simp⟩
 ·have:=aIZ a out s.Items[k]
  have:=hi.1
  omega
 ·rcases aIW hy with rfl | hy
  ·exact hs.Items.2 _ (qG hk)
  ·exact hi.2 y hy
 ·have hx:=hs.Items.2 _ (qG hk)
  have hzx:M.Item.sz s.Items[k]≤1073741824:=by
   have:=nY (f:=M.Item.sz) (qG hk)
   simp only [M.aA.sz] at hz
   omega
  have hi1:=hi.1
  simp only [gY]
  rw [if_pos (bI hk),aO hk,qA,mC hx.aC,qA,cU (by omega),nZ]
  unfold aM9
  by_cases hg:(fJ s.Items[k].aC a).2=true
  ·have hp:=aJJ (aBf a s.Items[k]) out out.length
   rw [if_pos hg,if_pos hg,aKg (by omega) hx hi.2 fuel out.length (by unfold fuel;omega) (Nat.le_refl _)]
   generalize nPl (aBf a s.Items[k]) out out.length=p at hp
   simp only [qH]
   rw [aAh hp,qA,fC (by simp only [qK,qT];omega),qA,zZ _ hzx,qA,fC (by simp only [qJ,qK,qT];omega),qA,fC (by simp only [qE,qJ,qK,qT,qU];omega),qA,qS,List.singleton_append]
  ·rw [if_neg hg,if_neg hg]
 ·simp only [gY]
  rw [if_neg (by rw [aW];simp)]
theorem aJP {s:M.aA} {a:ByteArray} (hs:s.ok) (hz:M.aA.sz s≤1048576):sV s a=some (aDX s a)∧(aDX s a).length≤s.Items.length ∧ ∀y∈aDX s a,M.Item.ok y:=by
 have hl:s.Items.length≤1048576:=by simp only [M.aA.sz] at hz;omega
 unfold sV aDX
 refine aIb (L:=gX s a) (xs:=s.Items) (step:=aM9 a) (I:=fun k out=>out.length≤k ∧ ∀y∈out,M.Item.ok y) (E:=fun out=>some out) hs.Items.1 (fun out k hk hi=>⟨?_,fun y hy => ?_⟩) (fun n out k hk hi => ?_) (fun n out hi => ?_) [] ⟨Nat.le_refl _,by simp⟩
 ·have:=aIZ a out s.Items[k]
  have:=hi.1
  omega
 ·rcases aIW hy with rfl | hy
  ·exact hs.Items.2 _ (qG hk)
  ·exact hi.2 y hy
 ·have hx:=hs.Items.2 _ (qG hk)
  have hzx:M.Item.sz s.Items[k]≤1073741824:=by
   have:=nY (f:=M.Item.sz) (qG hk)
   simp only [M.aA.sz] at hz
   omega
  have hi1:=hi.1
  simp only [gX]
  rw [if_pos (bI hk),aO hk,qA,mL hx.aC,qA,cU (by omega),nZ]
  unfold aM9
  by_cases hg:(fJ s.Items[k].aC a).2=true
  ·have hp:=aJJ (aBf a s.Items[k]) out out.length
   rw [if_pos hg,if_pos hg,aKB (by omega) hx hi.2 fuel out.length (by unfold fuel;omega) (Nat.le_refl _)]
   generalize nPl (aBf a s.Items[k]) out out.length=p at hp
   simp only [qH]
   rw [aAj _ hzx,qA,aMS ⟨by omega,by simpa using hp,by simp,by simp only [qJ,qK];omega⟩,qA,List.singleton_append]
  ·rw [if_neg hg,if_neg hg]
 ·simp only [gX]
  rw [if_neg (by rw [aW];simp)]
theorem aLd {a:ByteArray} {l:List M.Item} (ho : ∀y∈l,M.Item.ok y) : ∀(n:Nat) (v:Int),hP a l n v=dV a l n v
 | 0,v=>rfl
 | n+1,v=>by
  simp only [hP,dV,aLd ho n]
  cases h1:idx l (i64.wrap (v-1)) with
  | none=>rfl
  | some x =>
   have hx:=(ho x (aKo h1)).aC
   simp only [qA,mC hx,mL hx]
   cases h2:idx l v with
   | none=>rfl
   | some y =>
    have hy:=(ho y (aKo h2)).aC
    simp only [qA,mC hy,mL hy]
theorem aKO {a:ByteArray} {l:List M.Item} (ho : ∀y∈l,M.Item.ok y) (hl:l.length≤1048576) : ∀(n k:Nat),l.length-k<n→1≤k → ∃r,dV a l n (k:Int)=some r
 | 0,k,h,_=>by omega
 | n+1,k,h,h1=>by
  simp only [dV]
  by_cases hk:k<l.length
  ·have e:i64.wrap ((k:Int)-1)=((k-1:Nat):Int):=by rw [bO (by omega) (by omega)];omega
   have hk1:k-1<l.length:=by omega
   rw [if_pos (bI hk),e,aO hk1,qA,mL (ho _ (qG hk1)).aC,qA,aO hk,qA,mL (ho _ (qG hk)).aC,qA,cU (by omega)]
   split
   ·exact ⟨_,rfl⟩
   ·exact aKO ho hl n (k+1) (by omega) (by omega)
  ·rw [if_neg (by simp;omega)]
   exact ⟨_,rfl⟩
def aFK (s:M.aA) (a:ByteArray):M.Key×M.Key×Bool:=(fU s a).getD (⟨0,0,⟨#[]⟩⟩,⟨0,0,⟨#[]⟩⟩,false)
theorem yG {s:M.aA} {a:ByteArray} (hs:s.ok) (hz:M.aA.sz s≤1048576):fU s a=some (aFK s a):=by
 obtain ⟨e,hl,ho⟩:=aJP (a:=a) hs hz
 have hl2:s.Items.length≤1048576:=by simp only [M.aA.sz] at hz;omega
 obtain ⟨r,hr⟩:=aKO (a:=a) ho (by omega) fuel 1 (by unfold fuel;omega) (by omega)
 have:fU s a=some r:=by
  unfold fU
  rw [e,qA]
  exact hr
 unfold aFK
 rw [this]
 rfl
theorem aB2 {s:M.aA} {a:ByteArray} (hs:s.ok) (hz:M.aA.sz s≤1048576):nA s a=some (aFK s a):=by
 obtain ⟨e,hl,ho⟩:=aMu (a:=a) hs hz
 obtain ⟨e2,_⟩:=aJP (a:=a) hs hz
 rw [←yG hs hz]
 unfold nA fU
 rw [e,e2,qA,qA]
 exact aLd ho _ _
def zY (l:List M.aA) (k:Nat):Bool:=(l[k]?).any fB&&(decide (k=0)||(l[k-1]?).any fun y=>(l[k]?).any fun x=>Op.bytesLess y.Name.toList x.Name.toList)
def wV (x y:M.aH):Bool:=(x.aA.toList==y.aA.toList)&&(x.Field.toList==y.Field.toList)
def aFR (l:List M.aH) (k:Nat) (x:M.aH):Bool:=(List.range k).all fun j => !((l[j]?).any fun y=>wV y x)
def aAT (d:M.Database) (k:Nat):Bool:=(d.Unique[k]?).any fun u=>decide (0≤rD (wA u.aA) d.Stores)&&(nS u.Field&&(!((d.Stores[(rD (wA u.aA) d.Stores).toNat]?).any fun s=>(aFK s u.Field).2.2)&&aFR d.Unique k u))
def nDb (d:M.Database):Bool:=(List.range d.Stores.length).all (zY d.Stores)&&((List.range d.Unique.length).all (aAT d)&&(nS d.Name&&(inR d.Version 0 1000&&(decide (d.Stores.length≤4)&&decide (d.Unique.length≤4)))))
theorem aMI {l:List M.aH} {k:Nat} {x:M.aH} (hk:k≤l.length):(l.take k).any (wV x) = !(aFR l k x):=by
 have hc : ∀y,wV y x=wV x y:=fun y=>by
  unfold wV
  rw [BEq.comm (a:=y.aA.toList),BEq.comm (a:=y.Field.toList)]
 unfold aFR
 rw [Bool.eq_iff_iff]
 simp only [List.any_eq_true,Bool.not_eq_true',List.all_eq_false,qR,Bool.not_eq_true,Bool.not_eq_false',hc]
 constructor
 ·rintro ⟨y,hy,hs⟩
  obtain ⟨j,hj,rfl⟩:=List.mem_iff_getElem.1 hy
  rw [qT] at hj
  refine ⟨j,by omega,?_⟩
  rw [qF (by omega),Option.any_some]
  rw [List.getElem_take] at hs
  simp [hs]
 ·rintro ⟨j,hj,hs⟩
  rw [qF (by omega),Option.any_some] at hs
  refine ⟨l[j],List.mem_iff_getElem.2 ⟨j,by rw [qT];omega,by rw [List.getElem_take]⟩,by simpa using hs⟩
theorem aE2 {l:List M.aH} {x:M.aH} (hl:l.length≤maxLen):fL l x=some (l.any (wV x)):=by
 have hm:=le_max hl
 have:iL l x=some (rD (wV x) l):=by
  unfold iL
  rw [findAll (L:=cR l x) (f:=wV x) (A:=fun i=>some (i:Int)) (E:=some (-1)) hl (fun m k hk => ?_) (fun m => ?_),vY]
  ·simp only [cR]
   rw [if_pos (bI hk),aO hk,qA,cU (by omega)]
   rfl
  ·simp only [cR]
   rw [if_neg (by rw [aW];simp)]
 unfold fL
 rw [this,qA,aGA]
theorem aJs {d:M.Database} {u:M.aH} {k:Nat} {K:Int→Option Bool} (hm:d.Unique.length≤maxLen) (hk:k≤d.Unique.length):eI d (k:Int) u K fuel 0=if aFR d.Unique k u=true then K (k:Int) else some false:=by
 have hm':=le_max hm
 refine tT (L:=eI d (k:Int) u K) (g:=fun j => !((d.Unique[j]?).any fun y=>wV y u)) (F:=some false) (E:=K (k:Int)) (Nat.le_trans hk hm) (fun n j hj => ?_) (fun n => ?_)
 ·have hj':j<d.Unique.length:=by omega
  simp only [eI]
  rw [if_pos (bI hj),aO hj',qA,cU (by omega),qF hj',Option.any_some,nZ]
  rfl
 ·simp only [eI]
  rw [if_neg (by rw [aW];simp)]
theorem aJN {d:M.Database} (hz:M.Database.sz d≤1048576) : ∀s∈d.Stores,M.aA.sz s≤1048576:=fun s hs=>by
 have:=nY (f:=M.aA.sz) hs
 simp only [M.Database.sz] at hz
 omega
theorem aM8 (a b:List UInt8):(Op.bytesLess a b||a==b) = !(Op.bytesLess b a):=by
 have h:=xB b a
 cases h1:Op.bytesLess b a<;>cases h2:(Op.bytesLess a b||a==b)<;>simp_all
theorem lW {d:M.Database} (hd:d.ok) (hz:M.Database.sz d≤1048576):bJ d=some (nDb d):=by
 have hm:=le_max hd.Stores.1
 have hm2:=le_max hd.Unique.1
 unfold bJ nDb
 rw [tT (L:=dJ d) (g:=zY d.Stores) (F:=some false) (E:=dK d fuel 0) hd.Stores.1 (fun n k hk => ?_) (fun n => ?_),
  tT (L:=dK d) (g:=aAT d) (F:=some false) (E:=some (nS d.Name&&(inR d.Version 0 1000&&(decide (d.Stores.length≤4)&&decide (d.Unique.length≤4))))) hd.Unique.1 (fun n k hk => ?_) (fun n => ?_),bK,bK]
 ·have hf:=hd.Unique.2 _ (qG hk)
  simp only [dK]
  rw [if_pos (bI hk),aO hk,qA,wG hd,qA,cU (by omega)]
  unfold aAT
  rw [qF hk,Option.any_some,fF hf.Field,qA]
  by_cases h:rD (wA d.Unique[k].aA) d.Stores<0
  ·rw [if_pos (by simpa using h),decide_eq_false (by omega)]
   simp
  ·obtain ⟨j,e,hj⟩:=lM h
   have hs:=hd.Stores.2 _ (qG hj)
   rw [if_neg (by simpa using h),e,aO hj,qA,aB2 hs (aJN hz _ (qG hj)),qA,qH,qF hj,Option.any_some,aJs hd.Unique.1 (by omega)]
   have:decide ((0:Int)≤(j:Int))=true:=by simp
   rw [this]
   generalize dK d n ((k+1:Nat):Int)=Z
   cases nS d.Unique[k].Field<;>cases (aFK d.Stores[j] d.Unique[k].Field).2.2<;>cases aFR d.Unique k d.Unique[k]<;>simp
 ·simp only [dK]
  rw [if_neg (by rw [aW];simp),fF hd.Name,qA,dQ,qA,bK,bK,bK]
  congr 3
  have e1:decide ((d.Stores.length:Int)≤4)=decide (d.Stores.length≤4):=by rw [Bool.eq_iff_iff];simp;omega
  have e2:decide ((d.Unique.length:Int)≤4)=decide (d.Unique.length≤4):=by rw [Bool.eq_iff_iff];simp;omega
  rw [e1,e2]
 ·have hf:=hd.Stores.2 _ (qG hk)
  simp only [dJ]
  rw [if_pos (bI hk),aO hk,qA,cU (by omega),rA hf,qA]
  unfold zY
  rw [qF hk]
  generalize dJ d n ((k+1:Nat):Int)=Z
  by_cases h0:k=0
  ·subst h0
   simp only [Option.any_some]
   cases fB d.Stores[0]<;>simp
  ·have e:i64.wrap ((k:Int)-1)=((k-1:Nat):Int):=by rw [bO (by omega) (by omega)];omega
   have hk1:k-1<d.Stores.length:=by omega
   rw [if_pos (c:=(decide ((k:Int)>0))=true) (by simp;omega),e,aO hk1,qA,qF hk1]
   simp only [Option.any_some,h0,decide_false,Bool.false_or]
   cases fB d.Stores[k]<;>cases Op.bytesLess d.Stores[k-1].Name.toList d.Stores[k].Name.toList<;>simp
 ·simp only [dJ]
  rw [if_neg (by rw [aW];simp)]
theorem aCq {d:M.Database} (hd:d.ok) (hz:M.Database.sz d≤1048576):oC d=some (nDb d):=by
 have hm:=le_max hd.Stores.1
 have hm2:=le_max hd.Unique.1
 unfold oC nDb
 rw [tT (L:=dI d) (g:=zY d.Stores) (F:=some false) (E:=dM d fuel 0) hd.Stores.1 (fun n k hk => ?_) (fun n => ?_),
  tT (L:=dM d) (g:=aAT d) (F:=some false) (E:=some true) hd.Unique.1 (fun n k hk => ?_) (fun n => ?_)]
 ·simp only [gG hd.Name,eH,qA]
  have e1:decide ((d.Stores.length:Int)>4) = !decide (d.Stores.length≤4):=by rw [Bool.eq_iff_iff];simp;omega
  have e2:decide ((d.Unique.length:Int)>4) = !decide (d.Unique.length≤4):=by rw [Bool.eq_iff_iff];simp;omega
  rw [e1,e2]
  cases nS d.Name<;>cases inR d.Version 0 1000<;>cases decide (d.Stores.length≤4)<;>cases decide (d.Unique.length≤4)<;>cases (List.range d.Stores.length).all (zY d.Stores)<;>cases (List.range d.Unique.length).all (aAT d)<;>rfl
 ·have hf:=hd.Unique.2 _ (qG hk)
  simp only [dM]
  rw [if_pos (bI hk),aO hk,qA,aDf hd,qA,cU (by omega)]
  unfold aAT
  rw [qF hk,Option.any_some,gG hf.Field,qA,aAh (by omega),qA,qH,aE2 (Nat.le_trans (by rw [qT];exact Nat.min_le_right _ _) hd.Unique.1),qA,aMI (by omega)]
  by_cases h:rD (wA d.Unique[k].aA) d.Stores<0
  ·rw [if_pos (by simpa using h),decide_eq_false (by omega)]
   simp
  ·obtain ⟨j,e,hj⟩:=lM h
   have hs:=hd.Stores.2 _ (qG hj)
   rw [if_neg (by simpa using h),e,aO hj,qA,yG hs (aJN hz _ (qG hj)),qA,qH,qF hj,Option.any_some]
   have:decide ((0:Int)≤(j:Int))=true:=by simp
   rw [this]
   generalize dM d n ((k+1:Nat):Int)=Z
   cases nS d.Unique[k].Field<;>cases (aFK d.Stores[j] d.Unique[k].Field).2.2<;>cases aFR d.Unique k d.Unique[k]<;>simp
 ·simp only [dM]
  rw [if_neg (by rw [aW];simp)]
 ·have hf:=hd.Stores.2 _ (qG hk)
  simp only [dI]
  rw [if_pos (bI hk),aO hk,qA,cU (by omega),aBJ hf,qA]
  unfold zY
  rw [qF hk]
  generalize dI d n ((k+1:Nat):Int)=Z
  by_cases h0:k=0
  ·subst h0
   simp only [Option.any_some]
   cases fB d.Stores[0]<;>simp
  ·have e:i64.wrap ((k:Int)-1)=((k-1:Nat):Int):=by rw [bO (by omega) (by omega)];omega
   have hk1:k-1<d.Stores.length:=by omega
   rw [if_pos (c:=(decide ((k:Int)>0))=true) (by simp;omega),e,aO hk1,qA,qF hk1,aM8]
   simp only [Option.any_some,h0,decide_false,Bool.false_or]
   cases fB d.Stores[k]<;>cases Op.bytesLess d.Stores[k-1].Name.toList d.Stores[k].Name.toList<;>simp
 ·simp only [dI]
  rw [if_neg (by rw [aW];simp)]
def nR (b:M.Bucket):Bool:=nS b.Site&&(nS b.Top&&(aPt b.Registration&&((b.Registration.Site.toList==b.Site.toList)&&(gD b.Caches&&(nDb b.bF.Base&&(vA b.aD&&(inR b.LastUsed 0 1000000000000&&decide (aEc b≤2500))))))))
theorem aG7 {b:M.Bucket} (hz:M.Bucket.sz b≤1048576):M.Database.sz b.bF.Base≤1048576:=by
 simp only [M.Bucket.sz,M.bF.sz] at hz
 omega
theorem wN {b:M.Bucket} (hb:b.ok) (hz:M.Database.sz b.bF.Base≤1048576):iQ b=some (nR b):=by
 unfold iQ nR
 simp only [fF hb.Site,fF hb.Top,vU hb.Registration,jW hb.Caches,lW hb.bF.Base hz,tI hb.aD,dQ,aE9 hb,qA,bK]
theorem aAz {b:M.Bucket} (hb:b.ok) (hz:M.Bucket.sz b≤1048576):iQ b=some (nR b):=wN hb (aG7 hz)
theorem tJ {b:M.Bucket} (hb:b.ok) (hz:M.Database.sz b.bF.Base≤1048576):fZ b=some (nR b):=by
 unfold fZ nR
 simp only [gG hb.Site,gG hb.Top,aAv hb.Registration,aCd hb.Caches,aCq hb.bF.Base hz,aDe hb.aD,eH,vH hb,qA,bK]
theorem aAV {b:M.Bucket} (hb:b.ok) (hz:M.Bucket.sz b≤1048576):fZ b=some (nR b):=tJ hb (aG7 hz)
def aE7 (b o:M.Bucket):M.Bucket×Bool:=if nR b=true then (if nR o=true then (o,true) else (b,false)) else (b,false)
theorem aLW {b o:M.Bucket} (hb:b.ok) (ho:o.ok):M.Bucket.ok (aE7 b o).1:=by
 unfold aE7
 split
 ·split
  ·exact ho
  ·exact hb
 ·exact hb
theorem aAD {b o:M.Bucket} (hb:b.ok) (ho:o.ok) (zb:M.Bucket.sz b≤1048576) (zc:M.Bucket.sz o≤1073741824) (zo:M.Database.sz o.bF.Base≤1048576):jA b o=some (aE7 b o):=by
 unfold jA aE7
 rw [aAz hb zb,qA,yP b (by omega),wN ho zo]
 cases nR b
 ·simp
 ·cases nR o<;>simp
theorem aGj (b o:M.Bucket):((some (aE7 b o)).bind fun x=>(if x.2=true then (some (o,true)) else (some (x.1,false))))=some (aE7 b o):=by
 unfold aE7
 cases nR b<;>cases nR o<;>rfl
theorem wQ {b o:M.Bucket} (hb:b.ok) (ho:o.ok) (zb:M.Bucket.sz b≤1048576) (zc:M.Bucket.sz o≤1073741824) (zo:M.Database.sz o.bF.Base≤1048576):iV b o=some (aE7 b o):=by
 unfold iV aE7
 rw [aAV hb zb,qA,zI b (by omega),tJ ho zo,zI o (by omega)]
 cases nR b
 ·simp
 ·cases nR o<;>simp
def nM (b:M.Bucket) (k:M.bF):M.Bucket:=(⟨b.Site,b.Top,b.Registration,b.Caches,k,b.aD,b.LastUsed,b.Persistent⟩:M.Bucket)
theorem aAe {b:M.Bucket} {k:M.bF} (hb:b.ok) (hk:k.ok):(nM b k).ok:=⟨hb.Site,hb.Top,hb.Registration,hb.Caches,hk,hb.aD,hb.LastUsed⟩
theorem aDL (b:M.Bucket) (k:M.bF):M.Bucket.sz (nM b k)≤M.Bucket.sz b+M.bF.sz k:=by
 simp only [nM,M.Bucket.sz]
 omega
theorem aCE {b:M.Bucket} {k:M.bF} (hb:b.ok) (hk:k.ok) (zb:M.Bucket.sz b≤1048576) (zs:M.bF.sz k≤536870912) (zo:M.Database.sz (nM b k).bF.Base≤1048576):nJ b k=some (aE7 b (nM b k)):=by
 have zr:=aDL b k
 unfold nJ
 rw [yP b (by omega),qA,yN k (by omega),qA]
 have e:=aAD hb (aAe hb hk) zb (show M.Bucket.sz (nM b k)≤1073741824 by omega) zo
 have e2:=aGj b (nM b k)
 unfold nM at e e2 ⊢
 rw [e]
 exact e2
theorem aB1 {b:M.Bucket} {k:M.bF} (hb:b.ok) (hk:k.ok) (zb:M.Bucket.sz b≤1048576) (zs:M.bF.sz k≤536870912) (zo:M.Database.sz (nM b k).bF.Base≤1048576):nC b k=some (aE7 b (nM b k)):=by
 have zr:=aDL b k
 unfold nC
 have e:=wQ hb (aAe hb hk) zb (show M.Bucket.sz (nM b k)≤1073741824 by omega) zo
 unfold nM at e
 rw [e]
 rfl
def gT (b:M.Bucket) (s:M.aE) (r:M.Registration):M.Bucket:=(⟨b.Site,b.Top,r,s,b.bF,b.aD,b.LastUsed,b.Persistent⟩:M.Bucket)
theorem yL {b:M.Bucket} {s:M.aE} {r:M.Registration} (hb:b.ok) (hs:s.ok) (hr:r.ok):(gT b s r).ok:=⟨hb.Site,hb.Top,hr,hs,hb.bF,hb.aD,hb.LastUsed⟩
theorem aBN (b:M.Bucket) (s:M.aE) (r:M.Registration):M.Bucket.sz (gT b s r)≤M.Bucket.sz b+(M.aE.sz s+M.Registration.sz r):=by
 simp only [gT,M.Bucket.sz]
 omega
theorem aBD {b:M.Bucket} {s:M.aE} {r:M.Registration} (hb:b.ok) (hs:s.ok) (hr:r.ok) (zb:M.Bucket.sz b≤1048576) (zs:(M.aE.sz s+M.Registration.sz r)≤536870912) (zo:M.Database.sz (gT b s r).bF.Base≤1048576):lH b s r=some (aE7 b (gT b s r)):=by
 have zr:=aBN b s r
 unfold lH
 rw [yP b (by omega),qA,tG s (by omega),qA]
 have e:=aAD hb (yL hb hs hr) zb (show M.Bucket.sz (gT b s r)≤1073741824 by omega) zo
 have e2:=aGj b (gT b s r)
 unfold gT at e e2 ⊢
 rw [e]
 exact e2
theorem aBG {b:M.Bucket} {s:M.aE} {r:M.Registration} (hb:b.ok) (hs:s.ok) (hr:r.ok) (zb:M.Bucket.sz b≤1048576) (zs:(M.aE.sz s+M.Registration.sz r)≤536870912) (zo:M.Database.sz (gT b s r).bF.Base≤1048576):lG b s r=some (aE7 b (gT b s r)):=by
 have zr:=aBN b s r
 unfold lG
 have e:=wQ hb (yL hb hs hr) zb (show M.Bucket.sz (gT b s r)≤1073741824 by omega) zo
 unfold gT at e
 rw [e]
 rfl
def sK:M.Bucket:=(⟨(⟨#[]⟩:ByteArray),(⟨#[]⟩:ByteArray),(⟨(⟨#[]⟩:ByteArray),0,0,0⟩:M.Registration),(⟨([]:List M.Cache)⟩:M.aE),(⟨(⟨(⟨#[]⟩:ByteArray),0,([]:List M.aA),([]:List M.aH)⟩:M.Database),([]:List Int),0⟩:M.bF),(⟨(⟨(⟨#[]⟩:ByteArray),([]:List M.Item),0⟩:M.aA),0,(⟨(⟨0,0,([]:List M.aT)⟩:M.aG),0,0⟩:M.Sync)⟩:M.aD),0,false⟩:M.Bucket)
def aAM (a b:ByteArray) (d:Int):M.Bucket:=(⟨a,b,(⟨a,0,0,0⟩:M.Registration),(⟨([]:List M.Cache)⟩:M.aE),(⟨(⟨(⟨#[97,112,112]⟩:ByteArray),1,[(⟨(⟨#[110,111,116,101,115]⟩:ByteArray),([]:List M.Item),0⟩:M.aA)],([]:List M.aH)⟩:M.Database),([]:List Int),0⟩:M.bF),(⟨(⟨(⟨#[110,111,116,101,115]⟩:ByteArray),([]:List M.Item),0⟩:M.aA),0,(⟨(⟨d,1,([]:List M.aT)⟩:M.aG),0,0⟩:M.Sync)⟩:M.aD),0,false⟩:M.Bucket)
theorem rG:inI 0:=by unfold inI;omega
theorem aJ4:inI 1:=by unfold inI;omega
theorem aPv (n:Nat) (h:n≤1048576):n≤maxLen:=by unfold maxLen;omega
theorem sz0:((⟨#[]⟩:ByteArray)).size≤maxLen:=aPv _ (by decide)
theorem sz5:((⟨#[110,111,116,101,115]⟩:ByteArray)).size≤maxLen:=aPv _ (by decide)
theorem sz3:((⟨#[97,112,112]⟩:ByteArray)).size≤maxLen:=aPv _ (by decide)
theorem aKA {d:Int} (n:Int) (hd:inI d) (hn:inI n):M.aG.ok (⟨d,n,([]:List M.aT)⟩:M.aG):=⟨hd,hn,⟨by simp,by simp⟩⟩
theorem aEC:sK.ok:=⟨sz0,sz0,⟨sz0,rG,rG,rG⟩,⟨⟨by simp [sK],by simp [sK]⟩⟩,⟨⟨sz0,rG,⟨by simp [sK],by simp [sK]⟩,⟨by simp [sK],by simp [sK]⟩⟩,⟨by simp [sK],by simp [sK]⟩,rG⟩,⟨⟨sz0,⟨by simp [sK],by simp [sK]⟩,rG⟩,rG,⟨⟨rG,rG,⟨by simp [sK],by simp [sK]⟩⟩,rG,rG⟩⟩,rG⟩
theorem aK8:M.aA.ok (⟨(⟨#[110,111,116,101,115]⟩:ByteArray),([]:List M.Item),0⟩:M.aA):=⟨sz5,⟨by simp,by simp⟩,rG⟩
theorem aDy {a b:ByteArray} {d:Int} (ha:a.size≤maxLen) (hb:b.size≤maxLen) (hd:inI d):(aAM a b d).ok:=
 ⟨ha,hb,⟨ha,rG,rG,rG⟩,⟨⟨by simp [aAM],by simp [aAM]⟩⟩,⟨⟨sz3,aJ4,⟨aPv _ (by simp [aAM]),fun y hy=>by
  simp only [aAM,List.mem_cons,qO,or_false] at hy
  subst hy
  exact aK8⟩,⟨by simp [aAM],by simp [aAM]⟩⟩,⟨by simp [aAM],by simp [aAM]⟩,rG⟩,⟨aK8,rG,⟨aKA 1 hd aJ4,rG,rG⟩⟩,rG⟩
theorem aFm (a b:ByteArray) (d:Int):M.Database.sz (aAM a b d).bF.Base≤1048576:=by
 simp only [aAM]
 decide
def aDr (a b:ByteArray) (d:Int):M.Bucket×Bool:=if lL (⟨d,1,([]:List M.aT)⟩:M.aG)=true then (if nR (aAM a b d)=true then (aAM a b d,true) else (sK,false)) else (sK,false)
theorem aDt {a b:ByteArray} {d:Int} (ha:a.size≤maxLen) (hb:b.size≤maxLen) (hd:inI d):mQ a b d=some (aDr a b d):=by
 unfold mQ iX aDr
 rw [kH (aKA 1 hd aJ4),qA]
 cases hn:lL (⟨d,1,([]:List M.aT)⟩:M.aG) with
 | false=>simp [sK]
 | true =>
  have hI:=wN (aDy ha hb hd) (aFm a b d)
  unfold aAM at hI
  simp only [qB,qD,if_false,qA,hI,if_true]
  unfold aAM
  generalize nR _=c
  cases c<;>simp [sK]
theorem aDm {a b:ByteArray} {d:Int} (ha:a.size≤maxLen) (hb:b.size≤maxLen) (hd:inI d):pM a b d=some (aDr a b d):=by
 unfold pM tK aDr
 rw [aAs (aKA 1 hd aJ4),qA]
 cases hn:lL (⟨d,1,([]:List M.aT)⟩:M.aG) with
 | false=>simp [sK]
 | true =>
  have hI:=tJ (aDy ha hb hd) (aFm a b d)
  unfold aAM at hI
  simp only [qB,qD,if_false,qA,hI,if_true]
  unfold aAM
  generalize nR _=c
  cases c<;>simp [sK]
theorem aMs {a b:ByteArray} {d:Int} (ha:a.size≤maxLen) (hb:b.size≤maxLen) (hd:inI d):(aDr a b d).1.ok:=by
 unfold aDr
 split
 ·split
  ·exact aDy ha hb hd
  ·exact aEC
 ·exact aEC
theorem cJ (x:Int):inI (i64.wrap x):=by unfold inI;rw [IntKind.wrap_i64];omega
def uA (x y:Int):Bool:=x==y
theorem aHN {xs ys:List Int} (hx:xs.length≤maxLen):mN xs ys=some (eqL uA xs ys):=by
 have hm:=le_max hx
 unfold mN
 rw [aGu (f:=uA) hx (E:=some true) (fun n k hk hk'=>by
  simp only [fW]
  rw [if_pos (bI hk),aO hk,aO hk',qA,qA,cU (by omega)]
  first | rw [nZ];rfl | rw [yF];rfl) (fun n=>by
  simp only [fW]
  rw [if_neg (by rw [aW];simp)]),bK,Bool.and_true]
def aD3 (x y:M.Field):Bool:=((x.Name.toList==y.Name.toList)&&(x.N==y.N))
theorem aGO {xs ys:List M.Field} (hx:xs.length≤maxLen):lF xs ys=some (eqL aD3 xs ys):=by
 have hm:=le_max hx
 unfold lF
 rw [aGu (f:=aD3) hx (E:=some true) (fun n k hk hk'=>by
  simp only [fI]
  rw [if_pos (bI hk),aO hk,aO hk',qA,qA,cU (by omega)]
  first | rw [nZ];rfl | rw [yF];rfl) (fun n=>by
  simp only [fI]
  rw [if_neg (by rw [aW];simp)]),bK,Bool.and_true]
def xS (x y:M.aH):Bool:=((x.aA.toList==y.aA.toList)&&(x.Field.toList==y.Field.toList))
theorem aDd {xs ys:List M.aH} (hx:xs.length≤maxLen):iP xs ys=some (eqL xS xs ys):=by
 have hm:=le_max hx
 unfold iP
 rw [aGu (f:=xS) hx (E:=some true) (fun n k hk hk'=>by
  simp only [dW]
  rw [if_pos (bI hk),aO hk,aO hk',qA,qA,cU (by omega)]
  first | rw [nZ];rfl | rw [yF];rfl) (fun n=>by
  simp only [dW]
  rw [if_neg (by rw [aW];simp)]),bK,Bool.and_true]
def aCI (x y:M.aT):Bool:=((x.Device==y.Device)&&((x.Seq==y.Seq)&&((x.Key.Kind==y.Key.Kind)&&((x.Key.N==y.Key.N)&&((x.Key.Text.toList==y.Key.Text.toList)&&((x.Field.toList==y.Field.toList)&&(x.N==y.N)))))))
theorem aFx {xs ys:List M.aT} (hx:xs.length≤maxLen):lE xs ys=some (eqL aCI xs ys):=by
 have hm:=le_max hx
 unfold lE
 rw [aGu (f:=aCI) hx (E:=some true) (fun n k hk hk'=>by
  simp only [fE]
  rw [if_pos (bI hk),aO hk,aO hk',qA,qA,cU (by omega)]
  first | rw [nZ];rfl | rw [yF];rfl) (fun n=>by
  simp only [fE]
  rw [if_neg (by rw [aW];simp)]),bK,Bool.and_true]
theorem aB6 {p:M.Cached→M.Cached→Option Bool} {f:M.Cached→M.Cached→Bool} {xs ys:List M.Cached} (hx:xs.length≤maxLen) (hp : ∀x∈xs,∀y∈ys,p x y=some (f x y)):fY xs ys p=some (eqL f xs ys):=by
 have hm:=le_max hx
 unfold fY
 rw [aGu (f:=f) hx (E:=some true) (fun n k hk hk'=>by
  simp only [cF]
  rw [if_pos (bI hk),aO hk,aO hk',qA,qA,cU (by omega)]
  rw [hp _ (qG hk) _ (qG hk'),qA,nZ]) (fun n=>by
  simp only [cF]
  rw [if_neg (by rw [aW];simp)]),bK,Bool.and_true]
theorem aCx {p:M.Cache→M.Cache→Option Bool} {f:M.Cache→M.Cache→Bool} {xs ys:List M.Cache} (hx:xs.length≤maxLen) (hp : ∀x∈xs,∀y∈ys,p x y=some (f x y)):hE xs ys p=some (eqL f xs ys):=by
 have hm:=le_max hx
 unfold hE
 rw [aGu (f:=f) hx (E:=some true) (fun n k hk hk'=>by
  simp only [cN]
  rw [if_pos (bI hk),aO hk,aO hk',qA,qA,cU (by omega)]
  rw [hp _ (qG hk) _ (qG hk'),qA,nZ]) (fun n=>by
  simp only [cN]
  rw [if_neg (by rw [aW];simp)]),bK,Bool.and_true]
theorem aDk {p:M.Item→M.Item→Option Bool} {f:M.Item→M.Item→Bool} {xs ys:List M.Item} (hx:xs.length≤maxLen) (hp : ∀x∈xs,∀y∈ys,p x y=some (f x y)):iH xs ys p=some (eqL f xs ys):=by
 have hm:=le_max hx
 unfold iH
 rw [aGu (f:=f) hx (E:=some true) (fun n k hk hk'=>by
  simp only [cT]
  rw [if_pos (bI hk),aO hk,aO hk',qA,qA,cU (by omega)]
  rw [hp _ (qG hk) _ (qG hk'),qA,nZ]) (fun n=>by
  simp only [cT]
  rw [if_neg (by rw [aW];simp)]),bK,Bool.and_true]
theorem aCj {p:M.aA→M.aA→Option Bool} {f:M.aA→M.aA→Bool} {xs ys:List M.aA} (hx:xs.length≤maxLen) (hp : ∀x∈xs,∀y∈ys,p x y=some (f x y)):hZ xs ys p=some (eqL f xs ys):=by
 have hm:=le_max hx
 unfold hZ
 rw [aGu (f:=f) hx (E:=some true) (fun n k hk hk'=>by
  simp only [cM]
  rw [if_pos (bI hk),aO hk,aO hk',qA,qA,cU (by omega)]
  rw [hp _ (qG hk) _ (qG hk'),qA,nZ]) (fun n=>by
  simp only [cM]
  rw [if_neg (by rw [aW];simp)]),bK,Bool.and_true]
theorem aCa {a b:List Int} (ha:okB a) (hb:okB b):oO a b=some (eqL uA a b):=by
 unfold oO
 rw [zV ha.2,zV hb.2,qA,qA,aHn ha.2 hb.2]
 rfl
theorem yY {a b:List Int} (ha:okB a):lS a b=some (eqL uA a b):=by
 unfold lS
 rw [aHN ha.1,qA]
def aAm (x y:M.Response):Bool:=(x.Type_==y.Type_)&&((x.Status==y.Status)&&((x.Version==y.Version)&&((x.Shares==y.Shares)&&eqL uA x.Body y.Body)))
theorem aAX {a b:M.Response} (ha:a.ok):kG a b=some (aAm a b):=by
 simp only [kG,yY ha.Body,qA,bK,aAB,wK,aAm]
 ac_rfl
def aCX (x y:M.Cached):Bool:=(x.Site.toList==y.Site.toList)&&((x.Path.toList==y.Path.toList)&&aAm x.Response y.Response)
def aG2 (x y:M.Cache):Bool:=(x.Version==y.Version)&&eqL aCX x.Entries y.Entries
def aB8 (x y:M.aE):Bool:=eqL aG2 x.Caches y.Caches
theorem aCV {a b:M.Cached} (ha:a.ok):kJ a b=some (aCX a b):=by
 simp only [kJ,aAX ha.Response,qA,bK,aAB,wK,aCX]
theorem aB9 {a b:M.Cache} (ha:a.ok):kS a b=some (aG2 a b):=by
 simp only [kS,aB6 (f:=aCX) ha.Entries.1 (fun x hx y hy=>aCV (ha.Entries.2 x hx)),qA,bK,aAB,wK,aG2]
theorem aAW {a b:M.aE} (ha:a.ok):kD a b=some (aB8 a b):=by
 simp only [kD,aCx (f:=aG2) ha.Caches.1 (fun x hx y hy=>aB9 (ha.Caches.2 x hx)),qA,bK,aAB,wK,aB8]
def aFu (x y:M.aC):Bool:=eqL aD3 x.Fields y.Fields
theorem aBn {a b:M.aC} (ha:a.ok):mE a b=some (aFu a b):=by
 simp only [mE,aGO ha.Fields.1,qA,aFu]
def aPu (x y:M.Key):Bool:=((x.Kind==y.Kind)&&((x.N==y.N)&&(x.Text.toList==y.Text.toList)))
def aJ1 (x y:M.Item):Bool:=aPu x.Key y.Key&&aFu x.aC y.aC
def aDM (x y:M.aA):Bool:=(x.Name.toList==y.Name.toList)&&((x.Auto==y.Auto)&&eqL aJ1 x.Items y.Items)
theorem aC3 {a b:M.Item} (ha:a.ok):lY a b=some (aJ1 a b):=by
 simp only [lY,aBn ha.aC,qA,bK,aAB,wK,aJ1,aPu]
theorem yC {a b:M.aA} (ha:a.ok):fQ a b=some (aDM a b):=by
 simp only [fQ,aDk (f:=aJ1) ha.Items.1 (fun x hx y hy=>aC3 (ha.Items.2 x hx)),qA,bK,aAB,wK,aDM]
def aAc (x y:M.Database):Bool:=(x.Name.toList==y.Name.toList)&&((x.Version==y.Version)&&(eqL aDM x.Stores y.Stores&&eqL xS x.Unique y.Unique))
theorem aAy {a b:M.Database} (ha:a.ok):kF a b=some (aAc a b):=by
 simp only [kF,aCj (f:=aDM) ha.Stores.1 (fun x hx y hy=>yC (ha.Stores.2 x hx)),aDd ha.Unique.1,qA,bK,aAB,wK,aAc]
def aK5 (x y:M.bF):Bool:=aAc x.Base y.Base&&(eqL uA x.Log y.Log&&(x.Count==y.Count))
theorem aCt {a b:M.bF} (ha:a.ok):oJ a b=some (aK5 a b):=by
 simp only [oJ,aAy ha.Base,yY ha.Log,qA,bK,aAB,wK,aK5]
def aEf (x y:M.aG):Bool:=(x.Device==y.Device)&&((x.Next==y.Next)&&eqL aCI x.Writes y.Writes)
theorem aBE {a b:M.aG} (ha:a.ok):lI a b=some (aEf a b):=by
 simp only [lI,aFx ha.Writes.1,qA,bK,aAB,wK,aEf]
def aM5 (x y:M.Sync):Bool:=aEf x.aG y.aG&&((x.Tries==y.Tries)&&(x.WaitUntil==y.WaitUntil))
theorem aCr {a b:M.Sync} (ha:a.ok):oV a b=some (aM5 a b):=by
 simp only [oV,aBE ha.aG,qA,bK,aAB,wK,aM5]
def aCL (x y:M.aD):Bool:=aDM x.Base y.Base&&((x.Seen==y.Seen)&&aM5 x.Sync y.Sync)
theorem aBF {a b:M.aD} (ha:a.ok):lB a b=some (aCL a b):=by
 simp only [lB,yC ha.Base,aCr ha.Sync,qA,bK,aAB,wK,aCL]
def aQq (x y:M.Registration):Bool:=((x.Site.toList==y.Site.toList)&&((x.Installing==y.Installing)&&((x.Waiting==y.Waiting)&&(x.Active==y.Active))))
def aGP (x y:M.Bucket):Bool:=(x.Site.toList==y.Site.toList)&&((x.Top.toList==y.Top.toList)&&(aQq x.Registration y.Registration&&(aB8 x.Caches y.Caches&&(aK5 x.bF y.bF&&(aCL x.aD y.aD&&((x.LastUsed==y.LastUsed)&&(x.Persistent==y.Persistent)))))))
theorem xO {a b:M.Bucket} (ha:a.ok):gQ a b=some (aGP a b):=by
 simp only [gQ,aAW ha.Caches,aCt ha.bF,aBF ha.aD,qA,bK,aAB,wK,aGP,aQq]
theorem aB4 {l:List Int} (hl:l.length≤1048576):nO l=some ([(List.length l:Int)]++l.map i64.wrap):=by
 unfold nO
 have:=aLY (b:=8) (xs:=l) (f:=i64.wrap) (L:=eT l) (fun n k hk r => ?_) (fun n r => ?_) fuel 0 ([(List.length l:Int)]) (by unfold fuel;omega) (by omega) (by simp;omega)
 ·simpa using this
 ·simp only [eT]
  rw [if_pos (bI hk),aO hk,qA,cU (by omega)]
 ·simp only [eT]
  rw [if_neg (by rw [aW];simp)]
theorem aJX (x:Int):yS x 2147483647=some (aKi x):=by
 have e:bB 2147483647 1 1000000000000=some true:=by decide
 unfold yS
 rw [e,qA,if_neg (by simp),if_neg (by simp),aMR]
theorem aH3 {l:List Int} (hl:l.length≤maxLen):xK l=some (aJv l):=by
 have hm:=le_max hl
 unfold xK aJv
 refine aCS (L:=nT l) (E:=some) hl (fun n v k hk => ?_) (fun n v => ?_) 11
 ·simp only [nT]
  rw [if_pos (bI hk),aO hk,qA,aJX,qA,cU (by omega)]
  rfl
 ·simp only [nT]
  rw [if_neg (by rw [aW];simp)]
theorem aIC {α R:Type} {l:List α} {f:α→Bool} {L:Nat→Int→Option R} {S:Nat→Option R} (hl:l.length≤maxLen)
  (h1 : ∀n (k:Nat) (hk:k<l.length),L (n+1) (k:Int)=if f l[k]=true then L n ((k+1:Nat):Int) else S k) (h2 : ∀n,L (n+1) (l.length:Int)=S l.length):L fuel 0=S (l.takeWhile f).length:=by
 have hm:=le_max hl
 have key : ∀(n k:Nat),l.length-k<n→k≤l.length→L n (k:Int)=S (k+((l.drop k).takeWhile f).length):=by
  intro n
  induction n with
  | zero=>intro k h _;omega
  | succ n ih =>
   intro k hn hk
   rcases Nat.lt_or_ge k l.length with h | h
   ·rw [h1 n k h,qV h,List.takeWhile_cons]
    by_cases hf:f l[k]=true
    ·rw [if_pos hf,if_pos hf,ih (k+1) (by omega) h,qJ]
     congr 1
     omega
    ·rw [if_neg hf,if_neg hf]
     simp
   ·have:k=l.length:=by omega
    subst this
    rw [h2 n]
    simp
 have:=key fuel 0 (by unfold fuel;omega) (by omega)
 simpa using this
theorem aEt {α:Type} {f:α→Nat} {x:α} : ∀ {l:List α} {i:Nat},lV f (l.set i x)≤lV f l+f x
 | [],_=>by simp [lV]
 | y::l,0=>by simp only [List.set_cons_zero,lV];omega
 | y::l,i+1=>by have:=aEt (f:=f) (x:=x) (l:=l) (i:=i);simp only [List.set_cons_succ,lV];omega
theorem yW {α:Type} {f:α→Nat} : ∀(l r:List α),lV f (l++r)=lV f l+lV f r
 | [],r=>by simp [lV]
 | y::l,r=>by simp only [List.cons_append,lV,yW l r];omega
theorem aFn {α:Type} {l:List α} {k:Nat} (h:k≤l.length):wM l (k:Int)=some (l.drop k):=by
 unfold wM
 rw [if_pos ⟨by omega,by simpa using h⟩]
 simp
theorem aFg : ∀ {a b c:List UInt8},Op.bytesLess a b=true→Op.bytesLess b c=true→Op.bytesLess a c=true
 | [],[],_,h,_=>by cases h
 | _::_,[],_,h,_=>by cases h
 | _,_::_,[],_,h=>by cases h
 | [],_::_,_::_,_,_=>rfl
 | x::a,y::b,z::c,h1,h2=>by
  have e1:Op.bytesLess (x::a) (y::b)=(decide (x<y)||((x==y)&&Op.bytesLess a b)):=rfl
  have e2:Op.bytesLess (y::b) (z::c)=(decide (y<z)||((y==z)&&Op.bytesLess b c)):=rfl
  have e3:Op.bytesLess (x::a) (z::c)=(decide (x<z)||((x==z)&&Op.bytesLess a c)):=rfl
  rw [e1,Bool.or_eq_true,qM,qL,UInt8.lt_iff_toNat_lt] at h1
  rw [e2,Bool.or_eq_true,qM,qL,UInt8.lt_iff_toNat_lt] at h2
  rw [e3,Bool.or_eq_true,qM,qL,UInt8.lt_iff_toNat_lt]
  rcases h1 with h1 | ⟨h1,h1'⟩<;>rcases h2 with h2 | ⟨h2,h2'⟩
  ·exact .inl (by omega)
  ·exact .inl (by rw [←eq_of_beq h2];exact h1)
  ·exact .inl (by rw [eq_of_beq h1];exact h2)
  ·exact .inr ⟨by rw [eq_of_beq h1];exact h2,aFg h1' h2'⟩
theorem aCD {α:Type} {f:α→Bool} : ∀ {l:List α} {k:Nat},(∀(j:Nat) (hj:j<l.length),j<k→f l[j]=true)→(∀(hk:k<l.length),f l[k]=false)→k≤l.length→(l.takeWhile f).length=k
 | [],k,_,_,h=>by simp at h;simp [h]
 | x::l,0,_,h,_=>by
  have:=h (by simp)
  simp only [List.getElem_cons_zero] at this
  rw [List.takeWhile_cons,if_neg (by rw [this];simp)]
  rfl
 | x::l,k+1,h1,h2,h3=>by
  have:=h1 0 (by simp) (by omega)
  simp only [List.getElem_cons_zero] at this
  rw [List.takeWhile_cons,if_pos this,qJ,aCD (k:=k) (fun j hj hjk => ?_) (fun hk => ?_) (by simpa using h3)]
  ·have:=h1 (j+1) (by simp;omega) (by omega)
   simpa using this
  ·have:=h2 (by simp;omega)
   simpa using this
theorem aDG {α:Type} {f:α→Bool} : ∀ {l:List α} (j:Nat) (hj:j<l.length),j<(l.takeWhile f).length→f l[j]=true
 | [],j,hj,_=>by simp at hj
 | x::l,j,hj,h=>by
  rw [List.takeWhile_cons] at h
  split at h
  ·rename_i hx
   cases j with
   | zero=>exact hx
   | succ j=>exact aDG j (by simpa using hj) (by simpa using h)
  ·simp at h
theorem aDT {α:Type} {f:α→Bool} : ∀ {l:List α} (hk:(l.takeWhile f).length<l.length),f (l[(l.takeWhile f).length])=false
 | [],hk=>by simp at hk
 | x::l,hk=>by
  cases hx:f x with
  | false=>simp [List.takeWhile_cons,hx]
  | true =>
   have hk':(l.takeWhile f).length<l.length:=by
    rw [List.takeWhile_cons,if_pos hx] at hk
    simpa using hk
   have:=aDT hk'
   simpa [List.takeWhile_cons,hx] using this
end Go.Proofs.YtidhkhdnjonjfaaGreat.gen
