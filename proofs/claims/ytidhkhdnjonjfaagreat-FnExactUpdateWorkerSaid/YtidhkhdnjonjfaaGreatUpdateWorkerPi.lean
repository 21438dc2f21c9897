/-
  Helper text. No conditions.
-/
import Derived.Test.YtidhkhdnjonjfaaGreatUpdateWorkerPh
set_option linter.unusedVariables false
set_option linter.unusedSimpArgs false
namespace Go.Proofs.YtidhkhdnjonjfaaGreat.gen
open Go Go.Sh
open Go.IntKind (i64)
def nPl (f:M.Item→Bool) (l:List M.Item):Nat→Nat
 | 0=>0
 | k+1=>if (l[k]?).any f=true then nPl f l k else k+1
theorem aNG (f:M.Item→Bool) (l:List M.Item) : ∀k,nPl f l k≤k
 | 0=>by simp [nPl]
 | k+1=>by
  unfold nPl
  split
  ·exact Nat.le_succ_of_le (aNG f l k)
  ·exact Nat.le_refl _
theorem aOj {α:Type} {l:List α} {i:Int} {x:α} (h:idx l i=some x):x∈l:=List.mem_of_getElem? (aT h).2.1
theorem aFm {α:Type} {l:List α} {k:Nat} (h:k≤l.length):aEx l (k:Int)=some (l.take k):=by
 unfold aEx
 rw [if_pos ⟨by omega,by simpa using h⟩,qH]
def aQX (a:ByteArray) (out:List M.Item) (x:M.Item):List M.Item:=
 if (pZ x.aU a).2=true then out.take (nPl (aFl a x) out out.length)++(x::out.drop (nPl (aFl a x) out out.length)) else out
def aHs (s:M.aJ) (a:ByteArray):List M.Item:=s.Items.foldl (aQX a) []
theorem aMi (a:ByteArray) (out:List M.Item) (x:M.Item):(aQX a out x).length≤out.length+1:=by
 unfold aQX
 have:=aNG (aFl a x) out out.length
 split
 ·simp only [qE,qT,qJ,qU];omega
 ·omega
theorem aMf {a:ByteArray} {out:List M.Item} {x y:M.Item} (h:y∈aQX a out x):y=x∨y∈out:=by
 unfold aQX at h
 split at h
 ·rcases List.mem_append.1 h with h | h
  ·exact .inr (List.mem_of_mem_take h)
  ·rcases List.mem_cons.1 h with h | h
   ·exact .inl h
   ·exact .inr (List.mem_of_mem_drop h)
 ·exact .inr h
theorem aOc {a:ByteArray} {l:List M.Item} {x:M.Item} {K:Int→Option (List M.Item)} (hl:l.length≤1048576) (hx:x.ok) (ho : ∀y∈l,M.Item.ok y) :
  ∀(n k:Nat),k<n→k≤l.length→kI a l x K n (k:Int)=K ((nPl (aFl a x) l k:Nat):Int)
 | 0,k,h,_=>by omega
 | n+1,0,h,_=>by
  simp only [kI,nPl]
  rw [if_neg (by simp)]
 | n+1,k+1,h,hk=>by
  have hk':k<l.length:=by omega
  have e:i64.wrap (((k+1:Nat):Int)-1)=(k:Int):=by rw [fB (by omega) (by omega)];omega
  simp only [kI]
  rw [if_pos (by simp),e,aM hk',qA,aKj hx (ho _ (qG hk')),qA,nPl,qF hk',Option.any_some]
  cases hc:aFl a x l[k] with
  | true=>rw [if_pos rfl,if_pos rfl];exact aOc hl hx ho n k (by omega) (by omega)
  | false=>rw [if_neg (by simp),if_neg (by simp)]
theorem aOA {a:ByteArray} {l:List M.Item} {x:M.Item} {K:Int→Option (List M.Item)} (hl:l.length≤1048576) (hx:x.ok) (ho : ∀y∈l,M.Item.ok y) :
  ∀(n k:Nat),k<n→k≤l.length→kT a l x K n (k:Int)=K ((nPl (aFl a x) l k:Nat):Int)
 | 0,k,h,_=>by omega
 | n+1,0,h,_=>by
  simp only [kT,nPl]
  rw [if_neg (by simp)]
 | n+1,k+1,h,hk=>by
  have hk':k<l.length:=by omega
  have e:i64.wrap (((k+1:Nat):Int)-1)=(k:Int):=by rw [fB (by omega) (by omega)];omega
  simp only [kT]
  rw [if_pos (by simp),e,aM hk',qA,aGf hx (ho _ (qG hk')),qA,nPl,qF hk',Option.any_some]
  cases hc:aFl a x l[k] with
  | true=>rw [if_pos rfl,if_pos rfl];exact aOA hl hx ho n k (by omega) (by omega)
  | false=>rw [if_neg (by simp),if_neg (by simp)]
theorem aQL {s:M.aJ} {a:ByteArray} (hs:s.ok) (hz:M.aJ.sz s≤1048576):aA4 s a=some (aHs s a)∧(aHs s a).length≤s.Items.length ∧ ∀y∈aHs s a,M.Item.ok y:=by
 have hl:s.Items.length≤1048576:=by simp only [M.aJ.sz] at hz;omega
 unfold aA4 aHs
 refine aOO (L:=jF s a) (xs:=s.Items) (step:=aQX a) (I:=fun k out=>out.length≤k ∧ ∀y∈out,M.Item.ok y) (E:=fun out=>some out) hs.Items.1 (fun out k hk hi=>⟨?_,fun y hy => ?_⟩) (fun n out k hk hi => ?_) (fun n out hi => ?_) [] ⟨Nat.le_refl _,by simp⟩
 ·have:=aMi a out s.Items[k]
  have:=hi.1
  omega
 ·rcases aMf hy with rfl | hy
  ·exact hs.Items.2 _ (qG hk)
  ·exact hi.2 y hy
 ·have hx:=hs.Items.2 _ (qG hk)
  have hzx:M.Item.sz s.Items[k]≤1073741824:=by
   have:=bO (f:=M.Item.sz) (qG hk)
   simp only [M.aJ.sz] at hz
   omega
  have hi1:=hi.1
  simp only [jF]
  rw [if_pos (aY hk),aM hk,qA,zB hx.aU,qA,bC (by omega),aB8]
  unfold aQX
  by_cases hg:(pZ s.Items[k].aU a).2=true
  ·have hp:=aNG (aFl a s.Items[k]) out out.length
   rw [if_pos hg,if_pos hg,aOc (by omega) hx hi.2 fuel out.length (by unfold fuel;omega) (Nat.le_refl _)]
   generalize nPl (aFl a s.Items[k]) out out.length=p at hp
   simp only [qH]
   rw [aFm hp,qA,lM (by simp only [qK,qT];omega),qA,aGl _ hzx,qA,lM (by simp only [qJ,qK,qT];omega),qA,lM (by simp only [qE,qJ,qK,qT,qU];omega),qA,qS,List.singleton_append]
  ·rw [if_neg hg,if_neg hg]
 ·simp only [jF]
  rw [if_neg (by rw [aO];simp)]
theorem aNL {s:M.aJ} {a:ByteArray} (hs:s.ok) (hz:M.aJ.sz s≤1048576):aAo s a=some (aHs s a)∧(aHs s a).length≤s.Items.length ∧ ∀y∈aHs s a,M.Item.ok y:=by
 have hl:s.Items.length≤1048576:=by simp only [M.aJ.sz] at hz;omega
 unfold aAo aHs
 refine aOO (L:=jC s a) (xs:=s.Items) (step:=aQX a) (I:=fun k out=>out.length≤k ∧ ∀y∈out,M.Item.ok y) (E:=fun out=>some out) hs.Items.1 (fun out k hk hi=>⟨?_,fun y hy => ?_⟩) (fun n out k hk hi => ?_) (fun n out hi => ?_) [] ⟨Nat.le_refl _,by simp⟩
 ·have:=aMi a out s.Items[k]
  have:=hi.1
  omega
 ·rcases aMf hy with rfl | hy
  ·exact hs.Items.2 _ (qG hk)
  ·exact hi.2 y hy
 ·have hx:=hs.Items.2 _ (qG hk)
  have hzx:M.Item.sz s.Items[k]≤1073741824:=by
   have:=bO (f:=M.Item.sz) (qG hk)
   simp only [M.aJ.sz] at hz
   omega
  have hi1:=hi.1
  simp only [jC]
  rw [if_pos (aY hk),aM hk,qA,oM hx.aU,qA,bC (by omega),aB8]
  unfold aQX
  by_cases hg:(pZ s.Items[k].aU a).2=true
  ·have hp:=aNG (aFl a s.Items[k]) out out.length
   rw [if_pos hg,if_pos hg,aOA (by omega) hx hi.2 fuel out.length (by unfold fuel;omega) (Nat.le_refl _)]
   generalize nPl (aFl a s.Items[k]) out out.length=p at hp
   simp only [qH]
   rw [aEp _ hzx,qA,aIM ⟨by omega,by simpa using hp,by simp,by simp only [qJ,qK];omega⟩,qA,List.singleton_append]
  ·rw [if_neg hg,if_neg hg]
 ·simp only [jC]
  rw [if_neg (by rw [aO];simp)]
theorem aPR {a:ByteArray} {l:List M.Item} (ho : ∀y∈l,M.Item.ok y) : ∀(n:Nat) (v:Int),jL a l n v=fE a l n v
 | 0,v=>rfl
 | n+1,v=>by
  simp only [jL,fE,aPR ho n]
  cases h1:idx l (i64.wrap (v-1)) with
  | none=>rfl
  | some x =>
   have hx:=(ho x (aOj h1)).aU
   simp only [qA,zB hx,oM hx]
   cases h2:idx l v with
   | none=>rfl
   | some y =>
    have hy:=(ho y (aOj h2)).aU
    simp only [qA,zB hy,oM hy]
theorem aON {a:ByteArray} {l:List M.Item} (ho : ∀y∈l,M.Item.ok y) (hl:l.length≤1048576) : ∀(n k:Nat),l.length-k<n→1≤k → ∃r,fE a l n (k:Int)=some r
 | 0,k,h,_=>by omega
 | n+1,k,h,h1=>by
  simp only [fE]
  by_cases hk:k<l.length
  ·have e:i64.wrap ((k:Int)-1)=((k-1:Nat):Int):=by rw [fB (by omega) (by omega)];omega
   have hk1:k-1<l.length:=by omega
   rw [if_pos (aY hk),e,aM hk1,qA,oM (ho _ (qG hk1)).aU,qA,aM hk,qA,oM (ho _ (qG hk)).aU,qA,bC (by omega)]
   split
   ·exact ⟨_,rfl⟩
   ·exact aON ho hl n (k+1) (by omega) (by omega)
  ·rw [if_neg (by simp;omega)]
   exact ⟨_,rfl⟩
def aJr (s:M.aJ) (a:ByteArray):M.Key×M.Key×Bool:=(iG s a).getD (⟨0,0,⟨#[]⟩⟩,⟨0,0,⟨#[]⟩⟩,false)
theorem aDU {s:M.aJ} {a:ByteArray} (hs:s.ok) (hz:M.aJ.sz s≤1048576):iG s a=some (aJr s a):=by
 obtain ⟨e,hl,ho⟩:=aNL (a:=a) hs hz
 have hl2:s.Items.length≤1048576:=by simp only [M.aJ.sz] at hz;omega
 obtain ⟨r,hr⟩:=aON (a:=a) ho (by omega) fuel 1 (by unfold fuel;omega) (by omega)
 have:iG s a=some r:=by
  unfold iG
  rw [e,qA]
  exact hr
 unfold aJr
 rw [this]
 rfl
theorem aGC {s:M.aJ} {a:ByteArray} (hs:s.ok) (hz:M.aJ.sz s≤1048576):pT s a=some (aJr s a):=by
 obtain ⟨e,hl,ho⟩:=aQL (a:=a) hs hz
 obtain ⟨e2,_⟩:=aNL (a:=a) hs hz
 rw [←aDU hs hz]
 unfold pT iG
 rw [e,e2,qA,qA]
 exact aPR ho _ _
def aFD (l:List M.aJ) (k:Nat):Bool:=(l[k]?).any aDp&&(decide (k=0)||(l[k-1]?).any fun y=>(l[k]?).any fun x=>Op.bytesLess y.Name.toList x.Name.toList)
def aC0 (x y:M.aD):Bool:=(x.aJ.toList==y.aJ.toList)&&(x.Field.toList==y.Field.toList)
def aJ1 (l:List M.aD) (k:Nat) (x:M.aD):Bool:=(List.range k).all fun j => !((l[j]?).any fun y=>aC0 y x)
def aGt (d:M.Database) (k:Nat):Bool:=(d.Unique[k]?).any fun u=>decide (0≤yK (aHl u.aJ) d.Stores)&&(sG u.Field&&(!((d.Stores[(yK (aHl u.aJ) d.Stores).toNat]?).any fun s=>(aJr s u.Field).2.2)&&aJ1 d.Unique k u))
def nDb (d:M.Database):Bool:=(List.range d.Stores.length).all (aFD d.Stores)&&((List.range d.Unique.length).all (aGt d)&&(sG d.Name&&(inR d.Version 0 1000&&(decide (d.Stores.length≤4)&&decide (d.Unique.length≤4)))))
theorem aPu {l:List M.aD} {k:Nat} {x:M.aD} (hk:k≤l.length):(l.take k).any (aC0 x) = !(aJ1 l k x):=by
 have hc : ∀y,aC0 y x=aC0 x y:=fun y=>by
  unfold aC0
  rw [BEq.comm (a:=y.aJ.toList),BEq.comm (a:=y.Field.toList)]
 unfold aJ1
 rw [Bool.eq_iff_iff]
 simp only [List.any_eq_true,Bool.not_eq_true',List.all_eq_false,qR,Bool.not_eq_true,Bool.not_eq_false',hc]
 constructor
 ·rintro ⟨y,hy,hs⟩
  obtain ⟨j,hj,rfl⟩:=List.mem_iff_getElem.1 hy
  rw [qT] at hj
  refine ⟨j,by omega,?_⟩
  rw [qF (by omega),Option.any_some]
  rw [List.getElem_take] at hs
  simp [hs]
 ·rintro ⟨j,hj,hs⟩
  rw [qF (by omega),Option.any_some] at hs
  refine ⟨l[j],List.mem_iff_getElem.2 ⟨j,by rw [qT];omega,by rw [List.getElem_take]⟩,by simpa using hs⟩
theorem aJR {l:List M.aD} {x:M.aD} (hl:l.length≤maxLen):hT l x=some (l.any (aC0 x)):=by
 have hm:=le_max hl
 have:jU l x=some (yK (aC0 x) l):=by
  unfold jU
  rw [findAll (L:=dN l x) (f:=aC0 x) (A:=fun i=>some (i:Int)) (E:=some (-1)) hl (fun m k hk => ?_) (fun m => ?_),uE]
  ·simp only [dN]
   rw [if_pos (aY hk),aM hk,qA,bC (by omega)]
   rfl
  ·simp only [dN]
   rw [if_neg (by rw [aO];simp)]
 unfold hT
 rw [this,qA,aIP]
theorem aNv {d:M.Database} {u:M.aD} {k:Nat} {K:Int→Option Bool} (hm:d.Unique.length≤maxLen) (hk:k≤d.Unique.length):fX d (k:Int) u K fuel 0=if aJ1 d.Unique k u=true then K (k:Int) else some false:=by
 have hm':=le_max hm
 refine lC (L:=fX d (k:Int) u K) (g:=fun j => !((d.Unique[j]?).any fun y=>aC0 y u)) (F:=some false) (E:=K (k:Int)) (Nat.le_trans hk hm) (fun n j hj => ?_) (fun n => ?_)
 ·have hj':j<d.Unique.length:=by omega
  simp only [fX]
  rw [if_pos (aY hj),aM hj',qA,bC (by omega),qF hj',Option.any_some,aB8]
  rfl
 ·simp only [fX]
  rw [if_neg (by rw [aO];simp)]
theorem aNI {d:M.Database} (hz:M.Database.sz d≤1048576) : ∀s∈d.Stores,M.aJ.sz s≤1048576:=fun s hs=>by
 have:=bO (f:=M.aJ.sz) hs
 simp only [M.Database.sz] at hz
 omega
theorem aM5 (a b:List UInt8):(Op.bytesLess a b||a==b) = !(Op.bytesLess b a):=by
 have h:=aEJ b a
 cases h1:Op.bytesLess b a<;>cases h2:(Op.bytesLess a b||a==b)<;>simp_all
theorem aHC {d:M.Database} (hd:d.ok) (hz:M.Database.sz d≤1048576):tE d=some (nDb d):=by
 have hm:=le_max hd.Stores.1
 have hm2:=le_max hd.Unique.1
 unfold tE nDb
 rw [lC (L:=eR d) (g:=aFD d.Stores) (F:=some false) (E:=eS d fuel 0) hd.Stores.1 (fun n k hk => ?_) (fun n => ?_),
  lC (L:=eS d) (g:=aGt d) (F:=some false) (E:=some (sG d.Name&&(inR d.Version 0 1000&&(decide (d.Stores.length≤4)&&decide (d.Unique.length≤4))))) hd.Unique.1 (fun n k hk => ?_) (fun n => ?_),bN,bN]
 ·have hf:=hd.Unique.2 _ (qG hk)
  simp only [eS]
  rw [if_pos (aY hk),aM hk,qA,aH0 hd,qA,bC (by omega)]
  unfold aGt
  rw [qF hk,Option.any_some,eU hf.Field,qA]
  by_cases h:yK (aHl d.Unique[k].aJ) d.Stores<0
  ·rw [if_pos (by simpa using h),decide_eq_false (by omega)]
   simp
  ·obtain ⟨j,e,hj⟩:=vC h
   have hs:=hd.Stores.2 _ (qG hj)
   rw [if_neg (by simpa using h),e,aM hj,qA,aGC hs (aNI hz _ (qG hj)),qA,qH,qF hj,Option.any_some,aNv hd.Unique.1 (by omega)]
   have:decide ((0:Int)≤(j:Int))=true:=by simp
   rw [this]
   generalize eS d n ((k+1:Nat):Int)=Z
   cases sG d.Unique[k].Field<;>cases (aJr d.Stores[j] d.Unique[k].Field).2.2<;>cases aJ1 d.Unique k d.Unique[k]<;>simp
 ·simp only [eS]
  rw [if_neg (by rw [aO];simp),eU hd.Name,qA,dC,qA,bN,bN,bN]
  congr 3
  have e1:decide ((d.Stores.length:Int)≤4)=decide (d.Stores.length≤4):=by rw [Bool.eq_iff_iff];simp;omega
  have e2:decide ((d.Unique.length:Int)≤4)=decide (d.Unique.length≤4):=by rw [Bool.eq_iff_iff];simp;omega
  rw [e1,e2]
 ·have hf:=hd.Stores.2 _ (qG hk)
  simp only [eR]
  rw [if_pos (aY hk),aM hk,qA,bC (by omega),aDd hf,qA]
  unfold aFD
  rw [qF hk]
  generalize eR d n ((k+1:Nat):Int)=Z
  by_cases h0:k=0
  ·subst h0
   simp only [Option.any_some]
   cases aDp d.Stores[0]<;>simp
  ·have e:i64.wrap ((k:Int)-1)=((k-1:Nat):Int):=by rw [fB (by omega) (by omega)];omega
   have hk1:k-1<d.Stores.length:=by omega
   rw [if_pos (c:=(decide ((k:Int)>0))=true) (by simp;omega),e,aM hk1,qA,qF hk1]
   simp only [Option.any_some,h0,decide_false,Bool.false_or]
   cases aDp d.Stores[k]<;>cases Op.bytesLess d.Stores[k-1].Name.toList d.Stores[k].Name.toList<;>simp
 ·simp only [eR]
  rw [if_neg (by rw [aO];simp)]
theorem aG9 {d:M.Database} (hd:d.ok) (hz:M.Database.sz d≤1048576):sX d=some (nDb d):=by
 have hm:=le_max hd.Stores.1
 have hm2:=le_max hd.Unique.1
 unfold sX nDb
 rw [lC (L:=eQ d) (g:=aFD d.Stores) (F:=some false) (E:=eW d fuel 0) hd.Stores.1 (fun n k hk => ?_) (fun n => ?_),
  lC (L:=eW d) (g:=aGt d) (F:=some false) (E:=some true) hd.Unique.1 (fun n k hk => ?_) (fun n => ?_)]
 ·simp only [dV hd.Name,bP,qA]
  have e1:decide ((d.Stores.length:Int)>4) = !decide (d.Stores.length≤4):=by rw [Bool.eq_iff_iff];simp;omega
  have e2:decide ((d.Unique.length:Int)>4) = !decide (d.Unique.length≤4):=by rw [Bool.eq_iff_iff];simp;omega
  rw [e1,e2]
  cases sG d.Name<;>cases inR d.Version 0 1000<;>cases decide (d.Stores.length≤4)<;>cases decide (d.Unique.length≤4)<;>cases (List.range d.Stores.length).all (aFD d.Stores)<;>cases (List.range d.Unique.length).all (aGt d)<;>rfl
 ·have hf:=hd.Unique.2 _ (qG hk)
  simp only [eW]
  rw [if_pos (aY hk),aM hk,qA,aH5 hd,qA,bC (by omega)]
  unfold aGt
  rw [qF hk,Option.any_some,dV hf.Field,qA,aFm (by omega),qA,qH,aJR (Nat.le_trans (by rw [qT];exact Nat.min_le_right _ _) hd.Unique.1),qA,aPu (by omega)]
  by_cases h:yK (aHl d.Unique[k].aJ) d.Stores<0
  ·rw [if_pos (by simpa using h),decide_eq_false (by omega)]
   simp
  ·obtain ⟨j,e,hj⟩:=vC h
   have hs:=hd.Stores.2 _ (qG hj)
   rw [if_neg (by simpa using h),e,aM hj,qA,aDU hs (aNI hz _ (qG hj)),qA,qH,qF hj,Option.any_some]
   have:decide ((0:Int)≤(j:Int))=true:=by simp
   rw [this]
   generalize eW d n ((k+1:Nat):Int)=Z
   cases sG d.Unique[k].Field<;>cases (aJr d.Stores[j] d.Unique[k].Field).2.2<;>cases aJ1 d.Unique k d.Unique[k]<;>simp
 ·simp only [eW]
  rw [if_neg (by rw [aO];simp)]
 ·have hf:=hd.Stores.2 _ (qG hk)
  simp only [eQ]
  rw [if_pos (aY hk),aM hk,qA,bC (by omega),aDY hf,qA]
  unfold aFD
  rw [qF hk]
  generalize eQ d n ((k+1:Nat):Int)=Z
  by_cases h0:k=0
  ·subst h0
   simp only [Option.any_some]
   cases aDp d.Stores[0]<;>simp
  ·have e:i64.wrap ((k:Int)-1)=((k-1:Nat):Int):=by rw [fB (by omega) (by omega)];omega
   have hk1:k-1<d.Stores.length:=by omega
   rw [if_pos (c:=(decide ((k:Int)>0))=true) (by simp;omega),e,aM hk1,qA,qF hk1,aM5]
   simp only [Option.any_some,h0,decide_false,Bool.false_or]
   cases aDp d.Stores[k]<;>cases Op.bytesLess d.Stores[k-1].Name.toList d.Stores[k].Name.toList<;>simp
 ·simp only [eQ]
  rw [if_neg (by rw [aO];simp)]
def sE (b:M.Bucket):Bool:=sG b.Site&&(sG b.Top&&(aMZ b.Registration&&((b.Registration.Site.toList==b.Site.toList)&&(bS b.Caches&&(nDb b.bB.Base&&(aGP b.aE&&(inR b.LastUsed 0 1000000000000&&decide (aLX b≤2500))))))))
theorem aA2 {b:M.Bucket} (hz:M.Bucket.sz b≤1048576):M.Database.sz b.bB.Base≤1048576:=by
 simp only [M.Bucket.sz,M.bB.sz] at hz
 omega
theorem aCs {b:M.Bucket} (hb:b.ok) (hz:M.Database.sz b.bB.Base≤1048576):lK b=some (sE b):=by
 unfold lK sE
 simp only [eU hb.Site,eU hb.Top,lL hb.Registration,kY hb.Caches,aHC hb.bB.Base hz,aHx hb.aE,dC,aJd hb,qA,bN]
theorem aJM {b:M.Bucket} (hb:b.ok) (hz:M.Bucket.sz b≤1048576):lK b=some (sE b):=aCs hb (aA2 hz)
theorem aCt {b:M.Bucket} (hb:b.ok) (hz:M.Database.sz b.bB.Base≤1048576):lI b=some (sE b):=by
 unfold lI sE
 simp only [dV hb.Site,dV hb.Top,rV hb.Registration,kM hb.Caches,aG9 hb.bB.Base hz,aH2 hb.aE,bP,aJm hb,qA,bN]
theorem aIX {b:M.Bucket} (hb:b.ok) (hz:M.Bucket.sz b≤1048576):lI b=some (sE b):=aCt hb (aA2 hz)
def aDa (x y:M.Bucket):Bool:=Op.bytesLess x.Site.toList y.Site.toList||((x.Site.toList==y.Site.toList)&&Op.bytesLess x.Top.toList y.Top.toList)
theorem aFX (x y:M.Bucket):xY x y.Site y.Top=some (aDa x y):=by
 unfold xY aDa
 cases Op.bytesLess x.Site.toList y.Site.toList<;>cases (x.Site.toList==y.Site.toList)<;>simp
theorem aDC (x y:M.Bucket):kZ x y=some (aDa x y):=by
 unfold kZ aDa
 cases Op.bytesLess x.Site.toList y.Site.toList<;>cases (x.Site.toList==y.Site.toList)<;>simp
def aDg (l:List M.Bucket) (k:Nat):Bool:=(l[k]?).any sE&&(decide (k=0)||(l[k-1]?).any fun y=>(l[k]?).any fun x=>aDa y x)
def oP (s:M.aC):Bool:=(List.range s.Buckets.length).all (aDg s.Buckets)&&decide ((s.Buckets.length:Int)≤9)
theorem aCS {s:M.aC} (hs:s.ok) (hz : ∀b∈s.Buckets,M.Database.sz b.bB.Base≤1048576):bZ s=some (oP s):=by
 have hm:=le_max hs.Buckets.1
 unfold bZ oP
 rw [lC (L:=fS s) (g:=aDg s.Buckets) (F:=some false) (E:=some (decide ((s.Buckets.length:Int)≤9))) hs.Buckets.1 (fun n k hk => ?_) (fun n => ?_),bN]
 ·have hf:=hs.Buckets.2 _ (qG hk)
  have hzb:M.Database.sz s.Buckets[k].bB.Base≤1048576:=hz _ (qG hk)
  simp only [fS]
  rw [if_pos (aY hk),aM hk,qA,bC (by omega),aCs hf hzb,qA]
  unfold aDg
  rw [qF hk]
  generalize fS s n ((k+1:Nat):Int)=Z
  by_cases h0:k=0
  ·subst h0
   simp only [Option.any_some]
   cases sE s.Buckets[0]<;>simp
  ·have e:i64.wrap ((k:Int)-1)=((k-1:Nat):Int):=by rw [fB (by omega) (by omega)];omega
   have hk1:k-1<s.Buckets.length:=by omega
   rw [if_pos (c:=(decide ((k:Int)>0))=true) (by simp;omega),e,aM hk1,qA,aFX,qA,qF hk1]
   simp only [Option.any_some,h0,decide_false,Bool.false_or]
   cases sE s.Buckets[k]<;>cases aDa s.Buckets[k-1] s.Buckets[k]<;>simp
 ·simp only [fS]
  rw [if_neg (by rw [aO];simp)]
theorem aII {s:M.aC} (hs:s.ok) (hz:M.aC.sz s≤1048576):bZ s=some (oP s):=aCS hs (fun b hb=>aA2 (by
 have:=bO (f:=M.Bucket.sz) hb
 simp only [M.aC.sz] at hz
 omega))
theorem aCU {s:M.aC} (hs:s.ok) (hz : ∀b∈s.Buckets,M.Database.sz b.bB.Base≤1048576):cA s=some (oP s):=by
 have hm:=le_max hs.Buckets.1
 unfold cA oP
 rw [lC (L:=fO s) (g:=aDg s.Buckets) (F:=some false) (E:=some (decide ((s.Buckets.length:Int)≤9))) hs.Buckets.1 (fun n k hk => ?_) (fun n => ?_),bN]
 ·have hf:=hs.Buckets.2 _ (qG hk)
  have hzb:M.Database.sz s.Buckets[k].bB.Base≤1048576:=hz _ (qG hk)
  simp only [fO]
  rw [if_pos (aY hk),aM hk,qA,bC (by omega),aCt hf hzb,qA]
  unfold aDg
  rw [qF hk]
  generalize fO s n ((k+1:Nat):Int)=Z
  by_cases h0:k=0
  ·subst h0
   simp only [Option.any_some]
   cases sE s.Buckets[0]<;>simp
  ·have e:i64.wrap ((k:Int)-1)=((k-1:Nat):Int):=by rw [fB (by omega) (by omega)];omega
   have hk1:k-1<s.Buckets.length:=by omega
   rw [if_pos (c:=(decide ((k:Int)>0))=true) (by simp;omega),e,aM hk1,qA,aDC,qA,qF hk1]
   simp only [Option.any_some,h0,decide_false,Bool.false_or]
   cases sE s.Buckets[k]<;>cases aDa s.Buckets[k-1] s.Buckets[k]<;>simp
 ·simp only [fO]
  rw [if_neg (by rw [aO];simp)]
theorem aH9 {s:M.aC} (hs:s.ok) (hz:M.aC.sz s≤1048576):cA s=some (oP s):=aCU hs (fun b hb=>aA2 (by
 have:=bO (f:=M.Bucket.sz) hb
 simp only [M.aC.sz] at hz
 omega))
end Go.Proofs.YtidhkhdnjonjfaaGreat.gen
