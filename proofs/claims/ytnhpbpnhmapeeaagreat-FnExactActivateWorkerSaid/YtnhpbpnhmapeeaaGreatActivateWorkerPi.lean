/-
  Helper text. No conditions.
-/
import Derived.Test.YtnhpbpnhmapeeaaGreatActivateWorkerPh
namespace Go.Proofs.YtnhpbpnhmapeeaaGreat.gen
open Go Go.Sh
open Go.IntKind (i64)
set_option linter.unusedVariables false
set_option linter.unusedSimpArgs false
def nPl (f:M.Item→Bool) (l:List M.Item):Nat→Nat
 | 0=>0
 | k+1=>if (l[k]?).any f=true then nPl f l k else k+1
theorem aLY (f:M.Item→Bool) (l:List M.Item) : ∀k,nPl f l k≤k
 | 0=>by simp [nPl]
 | k+1=>by
  unfold nPl
  split
  ·exact Nat.le_succ_of_le (aLY f l k)
  ·exact Nat.le_refl _
theorem aMb {α:Type} {l:List α} {i:Int} {x:α} (h:idx l i=some x):x∈l:=List.mem_of_getElem? (aT h).2.1
theorem aG6 {α:Type} {l:List α} {k:Nat} (h:k≤l.length):aEH l (k:Int)=some (l.take k):=by
 unfold aEH
 rw [if_pos ⟨by omega,by simpa using h⟩,Int.toNat_natCast]
def aNx (a:ByteArray) (out:List M.Item) (x:M.Item):List M.Item:=
 if (oK x.aU a).2=true then out.take (nPl (aEA a x) out out.length)++(x::out.drop (nPl (aEA a x) out out.length)) else out
def aF8 (s:M.aH) (a:ByteArray):List M.Item:=s.Items.foldl (aNx a) []
theorem aKu (a:ByteArray) (out:List M.Item) (x:M.Item):(aNx a out x).length≤out.length+1:=by
 unfold aNx
 have:=aLY (aEA a x) out out.length
 split
 ·simp only [List.length_append,List.length_take,List.length_cons,List.length_drop];omega
 ·omega
theorem aKp {a:ByteArray} {out:List M.Item} {x y:M.Item} (h:y∈aNx a out x):y=x∨y∈out:=by
 unfold aNx at h
 split at h
 ·rcases List.mem_append.1 h with h | h
  ·exact .inr (List.mem_of_mem_take h)
  ·rcases List.mem_cons.1 h with h | h
   ·exact .inl h
   ·exact .inr (List.mem_of_mem_drop h)
 ·exact .inr h
theorem aMU {a:ByteArray} {l:List M.Item} {x:M.Item} {K:Int→Option (List M.Item)} (hl:l.length≤1048576) (hx:x.ok) (ho : ∀y∈l,M.Item.ok y) :
  ∀(n k:Nat),k<n→k≤l.length→gN a l x K n (k:Int)=K ((nPl (aEA a x) l k:Nat):Int)
 | 0,k,h,_=>by omega
 | n+1,0,h,_=>by
  simp only [gN,nPl]
  rw [if_neg (by simp)]
 | n+1,k+1,h,hk=>by
  have hk':k<l.length:=by omega
  have e:i64.wrap (((k+1:Nat):Int)-1)=(k:Int):=by rw [jA (by omega) (by omega)];omega
  simp only [gN]
  rw [if_pos (by simp),e,aO hk',Option.bind_some,aI0 hx (ho _ (List.getElem_mem hk')),Option.bind_some,nPl,List.getElem?_eq_getElem hk',Option.any_some]
  cases hc:aEA a x l[k] with
  | true=>rw [if_pos rfl,if_pos rfl];exact aMU hl hx ho n k (by omega) (by omega)
  | false=>rw [if_neg (by simp),if_neg (by simp)]
theorem aMB {a:ByteArray} {l:List M.Item} {x:M.Item} {K:Int→Option (List M.Item)} (hl:l.length≤1048576) (hx:x.ok) (ho : ∀y∈l,M.Item.ok y) :
  ∀(n k:Nat),k<n→k≤l.length→gV a l x K n (k:Int)=K ((nPl (aEA a x) l k:Nat):Int)
 | 0,k,h,_=>by omega
 | n+1,0,h,_=>by
  simp only [gV,nPl]
  rw [if_neg (by simp)]
 | n+1,k+1,h,hk=>by
  have hk':k<l.length:=by omega
  have e:i64.wrap (((k+1:Nat):Int)-1)=(k:Int):=by rw [jA (by omega) (by omega)];omega
  simp only [gV]
  rw [if_pos (by simp),e,aO hk',Option.bind_some,aE4 hx (ho _ (List.getElem_mem hk')),Option.bind_some,nPl,List.getElem?_eq_getElem hk',Option.any_some]
  cases hc:aEA a x l[k] with
  | true=>rw [if_pos rfl,if_pos rfl];exact aMB hl hx ho n k (by omega) (by omega)
  | false=>rw [if_neg (by simp),if_neg (by simp)]
theorem aNm {s:M.aH} {a:ByteArray} (hs:s.ok) (hz:M.aH.sz s≤1048576):zN s a=some (aF8 s a)∧(aF8 s a).length≤s.Items.length ∧ ∀y∈aF8 s a,M.Item.ok y:=by
 have hl:s.Items.length≤1048576:=by simp only [M.aH.sz] at hz;omega
 unfold zN aF8
 refine aKw (L:=gQ s a) (xs:=s.Items) (step:=aNx a) (I:=fun k out=>out.length≤k ∧ ∀y∈out,M.Item.ok y) (E:=fun out=>some out) hs.Items.1 (fun out k hk hi=>⟨?_,fun y hy => ?_⟩) (fun n out k hk hi => ?_) (fun n out hi => ?_) [] ⟨Nat.le_refl _,by simp⟩
 ·have:=aKu a out s.Items[k]
  have:=hi.1
  omega
 ·rcases aKp hy with rfl | hy
  ·exact hs.Items.2 _ (List.getElem_mem hk)
  ·exact hi.2 y hy
 ·have hx:=hs.Items.2 _ (List.getElem_mem hk)
  have hzx:M.Item.sz s.Items[k]≤1073741824:=by
   have:=cC (f:=M.Item.sz) (List.getElem_mem hk)
   simp only [M.aH.sz] at hz
   omega
  have hi1:=hi.1
  simp only [gQ]
  rw [if_pos (aZ hk),aO hk,Option.bind_some,wI hx.aU,Option.bind_some,bD (by omega),aA2]
  unfold aNx
  by_cases hg:(oK s.Items[k].aU a).2=true
  ·have hp:=aLY (aEA a s.Items[k]) out out.length
   rw [if_pos hg,if_pos hg,aMU (by omega) hx hi.2 fuel out.length (by unfold fuel;omega) (Nat.le_refl _)]
   generalize nPl (aEA a s.Items[k]) out out.length=p at hp
   simp only [Int.toNat_natCast]
   rw [aG6 hp,Option.bind_some,yF (by simp only [List.length_nil,List.length_take];omega),Option.bind_some,aFB _ hzx,Option.bind_some,yF (by simp only [List.length_cons,List.length_nil,List.length_take];omega),Option.bind_some,yF (by simp only [List.length_append,List.length_cons,List.length_nil,List.length_take,List.length_drop];omega),Option.bind_some,List.append_assoc,List.singleton_append]
  ·rw [if_neg hg,if_neg hg]
 ·simp only [gQ]
  rw [if_neg (by rw [aP];simp)]
theorem aLc {s:M.aH} {a:ByteArray} (hs:s.ok) (hz:M.aH.sz s≤1048576):yZ s a=some (aF8 s a)∧(aF8 s a).length≤s.Items.length ∧ ∀y∈aF8 s a,M.Item.ok y:=by
 have hl:s.Items.length≤1048576:=by simp only [M.aH.sz] at hz;omega
 unfold yZ aF8
 refine aKw (L:=gP s a) (xs:=s.Items) (step:=aNx a) (I:=fun k out=>out.length≤k ∧ ∀y∈out,M.Item.ok y) (E:=fun out=>some out) hs.Items.1 (fun out k hk hi=>⟨?_,fun y hy => ?_⟩) (fun n out k hk hi => ?_) (fun n out hi => ?_) [] ⟨Nat.le_refl _,by simp⟩
 ·have:=aKu a out s.Items[k]
  have:=hi.1
  omega
 ·rcases aKp hy with rfl | hy
  ·exact hs.Items.2 _ (List.getElem_mem hk)
  ·exact hi.2 y hy
 ·have hx:=hs.Items.2 _ (List.getElem_mem hk)
  have hzx:M.Item.sz s.Items[k]≤1073741824:=by
   have:=cC (f:=M.Item.sz) (List.getElem_mem hk)
   simp only [M.aH.sz] at hz
   omega
  have hi1:=hi.1
  simp only [gP]
  rw [if_pos (aZ hk),aO hk,Option.bind_some,nD hx.aU,Option.bind_some,bD (by omega),aA2]
  unfold aNx
  by_cases hg:(oK s.Items[k].aU a).2=true
  ·have hp:=aLY (aEA a s.Items[k]) out out.length
   rw [if_pos hg,if_pos hg,aMB (by omega) hx hi.2 fuel out.length (by unfold fuel;omega) (Nat.le_refl _)]
   generalize nPl (aEA a s.Items[k]) out out.length=p at hp
   simp only [Int.toNat_natCast]
   rw [aDG _ hzx,Option.bind_some,aKt ⟨by omega,by simpa using hp,by simp,by simp only [List.length_cons,List.length_nil];omega⟩,Option.bind_some,List.singleton_append]
  ·rw [if_neg hg,if_neg hg]
 ·simp only [gP]
  rw [if_neg (by rw [aP];simp)]
theorem aM8 {a:ByteArray} {l:List M.Item} (ho : ∀y∈l,M.Item.ok y) : ∀(n:Nat) (v:Int),iQ a l n v=eY a l n v
 | 0,v=>rfl
 | n+1,v=>by
  simp only [iQ,eY,aM8 ho n]
  cases h1:idx l (i64.wrap (v-1)) with
  | none=>rfl
  | some x =>
   have hx:=(ho x (aMb h1)).aU
   simp only [Option.bind_some,wI hx,nD hx]
   cases h2:idx l v with
   | none=>rfl
   | some y =>
    have hy:=(ho y (aMb h2)).aU
    simp only [Option.bind_some,wI hy,nD hy]
theorem aMK {a:ByteArray} {l:List M.Item} (ho : ∀y∈l,M.Item.ok y) (hl:l.length≤1048576) : ∀(n k:Nat),l.length-k<n→1≤k → ∃r,eY a l n (k:Int)=some r
 | 0,k,h,_=>by omega
 | n+1,k,h,h1=>by
  simp only [eY]
  by_cases hk:k<l.length
  ·have e:i64.wrap ((k:Int)-1)=((k-1:Nat):Int):=by rw [jA (by omega) (by omega)];omega
   have hk1:k-1<l.length:=by omega
   rw [if_pos (aZ hk),e,aO hk1,Option.bind_some,nD (ho _ (List.getElem_mem hk1)).aU,Option.bind_some,aO hk,Option.bind_some,nD (ho _ (List.getElem_mem hk)).aU,Option.bind_some,bD (by omega)]
   split
   ·exact ⟨_,rfl⟩
   ·exact aMK ho hl n (k+1) (by omega) (by omega)
  ·rw [if_neg (by simp;omega)]
   exact ⟨_,rfl⟩
def aH3 (s:M.aH) (a:ByteArray):M.Key×M.Key×Bool:=(hU s a).getD (⟨0,0,⟨#[]⟩⟩,⟨0,0,⟨#[]⟩⟩,false)
theorem aCK {s:M.aH} {a:ByteArray} (hs:s.ok) (hz:M.aH.sz s≤1048576):hU s a=some (aH3 s a):=by
 obtain ⟨e,hl,ho⟩:=aLc (a:=a) hs hz
 have hl2:s.Items.length≤1048576:=by simp only [M.aH.sz] at hz;omega
 obtain ⟨r,hr⟩:=aMK (a:=a) ho (by omega) fuel 1 (by unfold fuel;omega) (by omega)
 have:hU s a=some r:=by
  unfold hU
  rw [e,Option.bind_some]
  exact hr
 unfold aH3
 rw [this]
 rfl
theorem aEe {s:M.aH} {a:ByteArray} (hs:s.ok) (hz:M.aH.sz s≤1048576):oE s a=some (aH3 s a):=by
 obtain ⟨e,hl,ho⟩:=aNm (a:=a) hs hz
 obtain ⟨e2,_⟩:=aLc (a:=a) hs hz
 rw [←aCK hs hz]
 unfold oE hU
 rw [e,e2,Option.bind_some,Option.bind_some]
 exact aM8 ho _ _
def aDi (l:List M.aH) (k:Nat):Bool:=(l[k]?).any aCb&&(decide (k=0)||(l[k-1]?).any fun y=>(l[k]?).any fun x=>Op.bytesLess y.Name.toList x.Name.toList)
def aBv (x y:M.aD):Bool:=(x.aH.toList==y.aH.toList)&&(x.Field.toList==y.Field.toList)
def aIF (l:List M.aD) (k:Nat) (x:M.aD):Bool:=(List.range k).all fun j => !((l[j]?).any fun y=>aBv y x)
def aFI (d:M.Database) (k:Nat):Bool:=(d.Unique[k]?).any fun u=>decide (0≤aBN (aF1 u.aH) d.Stores)&&(pV u.Field&&(!((d.Stores[(aBN (aF1 u.aH) d.Stores).toNat]?).any fun s=>(aH3 s u.Field).2.2)&&aIF d.Unique k u))
def nDb (d:M.Database):Bool:=(List.range d.Stores.length).all (aDi d.Stores)&&((List.range d.Unique.length).all (aFI d)&&(pV d.Name&&(inR d.Version 0 1000&&(decide (d.Stores.length≤4)&&decide (d.Unique.length≤4)))))
theorem aNY {l:List M.aD} {k:Nat} {x:M.aD} (hk:k≤l.length):(l.take k).any (aBv x) = !(aIF l k x):=by
 have hc : ∀y,aBv y x=aBv x y:=fun y=>by
  unfold aBv
  rw [BEq.comm (a:=y.aH.toList),BEq.comm (a:=y.Field.toList)]
 unfold aIF
 rw [Bool.eq_iff_iff]
 simp only [List.any_eq_true,Bool.not_eq_true',List.all_eq_false,List.mem_range,Bool.not_eq_true,Bool.not_eq_false',hc]
 constructor
 ·rintro ⟨y,hy,hs⟩
  obtain ⟨j,hj,rfl⟩:=List.mem_iff_getElem.1 hy
  rw [List.length_take] at hj
  refine ⟨j,by omega,?_⟩
  rw [List.getElem?_eq_getElem (by omega),Option.any_some]
  rw [List.getElem_take] at hs
  simp [hs]
 ·rintro ⟨j,hj,hs⟩
  rw [List.getElem?_eq_getElem (by omega),Option.any_some] at hs
  refine ⟨l[j],List.mem_iff_getElem.2 ⟨j,by rw [List.length_take];omega,by rw [List.getElem_take]⟩,by simpa using hs⟩
theorem aHg {l:List M.aD} {x:M.aD} (hl:l.length≤maxLen):gZ l x=some (l.any (aBv x)):=by
 have hm:=le_max hl
 have:iY l x=some (aBN (aBv x) l):=by
  unfold iY
  rw [findAll (L:=dF l x) (f:=aBv x) (A:=fun i=>some (i:Int)) (E:=some (-1)) hl (fun m k hk => ?_) (fun m => ?_),xI]
  ·simp only [dF]
   rw [if_pos (aZ hk),aO hk,Option.bind_some,bD (by omega)]
   rfl
  ·simp only [dF]
   rw [if_neg (by rw [aP];simp)]
 unfold gZ
 rw [this,Option.bind_some,aGf]
theorem aL1 {d:M.Database} {u:M.aD} {k:Nat} {K:Int→Option Bool} (hm:d.Unique.length≤maxLen) (hk:k≤d.Unique.length):fM d (k:Int) u K fuel 0=if aIF d.Unique k u=true then K (k:Int) else some false:=by
 have hm':=le_max hm
 refine kB (L:=fM d (k:Int) u K) (g:=fun j => !((d.Unique[j]?).any fun y=>aBv y u)) (F:=some false) (E:=K (k:Int)) (Nat.le_trans hk hm) (fun n j hj => ?_) (fun n => ?_)
 ·have hj':j<d.Unique.length:=by omega
  simp only [fM]
  rw [if_pos (aZ hj),aO hj',Option.bind_some,bD (by omega),List.getElem?_eq_getElem hj',Option.any_some,aA2]
  rfl
 ·simp only [fM]
  rw [if_neg (by rw [aP];simp)]
theorem aLa {d:M.Database} (hz:M.Database.sz d≤1048576) : ∀s∈d.Stores,M.aH.sz s≤1048576:=fun s hs=>by
 have:=cC (f:=M.aH.sz) hs
 simp only [M.Database.sz] at hz
 omega
theorem aLL (a b:List UInt8):(Op.bytesLess a b||a==b) = !(Op.bytesLess b a):=by
 have h:=aCu b a
 cases h1:Op.bytesLess b a<;>cases h2:(Op.bytesLess a b||a==b)<;>simp_all
theorem aFW {d:M.Database} (hd:d.ok) (hz:M.Database.sz d≤1048576):qH d=some (nDb d):=by
 have hm:=le_max hd.Stores.1
 have hm2:=le_max hd.Unique.1
 unfold qH nDb
 rw [kB (L:=eM d) (g:=aDi d.Stores) (F:=some false) (E:=eN d fuel 0) hd.Stores.1 (fun n k hk => ?_) (fun n => ?_),
  kB (L:=eN d) (g:=aFI d) (F:=some false) (E:=some (pV d.Name&&(inR d.Version 0 1000&&(decide (d.Stores.length≤4)&&decide (d.Unique.length≤4))))) hd.Unique.1 (fun n k hk => ?_) (fun n => ?_),bM,bM]
 ·have hf:=hd.Unique.2 _ (List.getElem_mem hk)
  simp only [eN]
  rw [if_pos (aZ hk),aO hk,Option.bind_some,aGD hd,Option.bind_some,bD (by omega)]
  unfold aFI
  rw [List.getElem?_eq_getElem hk,Option.any_some,eO hf.Field,Option.bind_some]
  by_cases h:aBN (aF1 d.Unique[k].aH) d.Stores<0
  ·rw [if_pos (by simpa using h),decide_eq_false (by omega)]
   simp
  ·obtain ⟨j,e,hj⟩:=aBx h
   have hs:=hd.Stores.2 _ (List.getElem_mem hj)
   rw [if_neg (by simpa using h),e,aO hj,Option.bind_some,aEe hs (aLa hz _ (List.getElem_mem hj)),Option.bind_some,Int.toNat_natCast,List.getElem?_eq_getElem hj,Option.any_some,aL1 hd.Unique.1 (by omega)]
   have:decide ((0:Int)≤(j:Int))=true:=by simp
   rw [this]
   generalize eN d n ((k+1:Nat):Int)=Z
   cases pV d.Unique[k].Field<;>cases (aH3 d.Stores[j] d.Unique[k].Field).2.2<;>cases aIF d.Unique k d.Unique[k]<;>simp
 ·simp only [eN]
  rw [if_neg (by rw [aP];simp),eO hd.Name,Option.bind_some,dG,Option.bind_some,bM,bM,bM]
  congr 3
  have e1:decide ((d.Stores.length:Int)≤4)=decide (d.Stores.length≤4):=by rw [Bool.eq_iff_iff];simp;omega
  have e2:decide ((d.Unique.length:Int)≤4)=decide (d.Unique.length≤4):=by rw [Bool.eq_iff_iff];simp;omega
  rw [e1,e2]
 ·have hf:=hd.Stores.2 _ (List.getElem_mem hk)
  simp only [eM]
  rw [if_pos (aZ hk),aO hk,Option.bind_some,bD (by omega),aCS hf,Option.bind_some]
  unfold aDi
  rw [List.getElem?_eq_getElem hk]
  generalize eM d n ((k+1:Nat):Int)=Z
  by_cases h0:k=0
  ·subst h0
   simp only [Option.any_some]
   cases aCb d.Stores[0]<;>simp
  ·have e:i64.wrap ((k:Int)-1)=((k-1:Nat):Int):=by rw [jA (by omega) (by omega)];omega
   have hk1:k-1<d.Stores.length:=by omega
   rw [if_pos (c:=(decide ((k:Int)>0))=true) (by simp;omega),e,aO hk1,Option.bind_some,List.getElem?_eq_getElem hk1]
   simp only [Option.any_some,h0,decide_false,Bool.false_or]
   cases aCb d.Stores[k]<;>cases Op.bytesLess d.Stores[k-1].Name.toList d.Stores[k].Name.toList<;>simp
 ·simp only [eM]
  rw [if_neg (by rw [aP];simp)]
theorem aFU {d:M.Database} (hd:d.ok) (hz:M.Database.sz d≤1048576):qB d=some (nDb d):=by
 have hm:=le_max hd.Stores.1
 have hm2:=le_max hd.Unique.1
 unfold qB nDb
 rw [kB (L:=dC d) (g:=aDi d.Stores) (F:=some false) (E:=dE d fuel 0) hd.Stores.1 (fun n k hk => ?_) (fun n => ?_),
  kB (L:=dE d) (g:=aFI d) (F:=some false) (E:=some true) hd.Unique.1 (fun n k hk => ?_) (fun n => ?_)]
 ·simp only [dO hd.Name,bN,Option.bind_some]
  have e1:decide ((d.Stores.length:Int)>4) = !decide (d.Stores.length≤4):=by rw [Bool.eq_iff_iff];simp;omega
  have e2:decide ((d.Unique.length:Int)>4) = !decide (d.Unique.length≤4):=by rw [Bool.eq_iff_iff];simp;omega
  rw [e1,e2]
  cases pV d.Name<;>cases inR d.Version 0 1000<;>cases decide (d.Stores.length≤4)<;>cases decide (d.Unique.length≤4)<;>cases (List.range d.Stores.length).all (aDi d.Stores)<;>cases (List.range d.Unique.length).all (aFI d)<;>rfl
 ·have hf:=hd.Unique.2 _ (List.getElem_mem hk)
  simp only [dE]
  rw [if_pos (aZ hk),aO hk,Option.bind_some,aGI hd,Option.bind_some,bD (by omega)]
  unfold aFI
  rw [List.getElem?_eq_getElem hk,Option.any_some,dO hf.Field,Option.bind_some,aG6 (by omega),Option.bind_some,Int.toNat_natCast,aHg (Nat.le_trans (by rw [List.length_take];exact Nat.min_le_right _ _) hd.Unique.1),Option.bind_some,aNY (by omega)]
  by_cases h:aBN (aF1 d.Unique[k].aH) d.Stores<0
  ·rw [if_pos (by simpa using h),decide_eq_false (by omega)]
   simp
  ·obtain ⟨j,e,hj⟩:=aBx h
   have hs:=hd.Stores.2 _ (List.getElem_mem hj)
   rw [if_neg (by simpa using h),e,aO hj,Option.bind_some,aCK hs (aLa hz _ (List.getElem_mem hj)),Option.bind_some,Int.toNat_natCast,List.getElem?_eq_getElem hj,Option.any_some]
   have:decide ((0:Int)≤(j:Int))=true:=by simp
   rw [this]
   generalize dE d n ((k+1:Nat):Int)=Z
   cases pV d.Unique[k].Field<;>cases (aH3 d.Stores[j] d.Unique[k].Field).2.2<;>cases aIF d.Unique k d.Unique[k]<;>simp
 ·simp only [dE]
  rw [if_neg (by rw [aP];simp)]
 ·have hf:=hd.Stores.2 _ (List.getElem_mem hk)
  simp only [dC]
  rw [if_pos (aZ hk),aO hk,Option.bind_some,bD (by omega),aCO hf,Option.bind_some]
  unfold aDi
  rw [List.getElem?_eq_getElem hk]
  generalize dC d n ((k+1:Nat):Int)=Z
  by_cases h0:k=0
  ·subst h0
   simp only [Option.any_some]
   cases aCb d.Stores[0]<;>simp
  ·have e:i64.wrap ((k:Int)-1)=((k-1:Nat):Int):=by rw [jA (by omega) (by omega)];omega
   have hk1:k-1<d.Stores.length:=by omega
   rw [if_pos (c:=(decide ((k:Int)>0))=true) (by simp;omega),e,aO hk1,Option.bind_some,List.getElem?_eq_getElem hk1,aLL]
   simp only [Option.any_some,h0,decide_false,Bool.false_or]
   cases aCb d.Stores[k]<;>cases Op.bytesLess d.Stores[k-1].Name.toList d.Stores[k].Name.toList<;>simp
 ·simp only [dC]
  rw [if_neg (by rw [aP];simp)]
def sA (b:M.aA):Bool:=pV b.Site&&(pV b.Top&&(aO2 b.Registration&&((b.Registration.Site.toList==b.Site.toList)&&(aDS b.Caches&&(nDb b.bB.Base&&(aEp b.aE&&(inR b.LastUsed 0 1000000000000&&decide (aJq b≤2500))))))))
theorem zK {b:M.aA} (hz:M.aA.sz b≤1048576):M.Database.sz b.bB.Base≤1048576:=by
 simp only [M.aA.sz,M.bB.sz] at hz
 omega
theorem aBl {b:M.aA} (hb:b.ok) (hz:M.Database.sz b.bB.Base≤1048576):kH b=some (sA b):=by
 unfold kH sA
 simp only [eO hb.Site,eO hb.Top,xH hb.Registration,aFj hb.Caches,aFW hb.bB.Base hz,aGB hb.aE,dG,aHt hb,Option.bind_some,bM]
theorem aHW {b:M.aA} (hb:b.ok) (hz:M.aA.sz b≤1048576):kH b=some (sA b):=aBl hb (zK hz)
theorem aBm {b:M.aA} (hb:b.ok) (hz:M.Database.sz b.bB.Base≤1048576):kF b=some (sA b):=by
 unfold kF sA
 simp only [dO hb.Site,dO hb.Top,aBe hb.Registration,aFJ hb.Caches,aFU hb.bB.Base hz,aGF hb.aE,bN,aH0 hb,Option.bind_some,bM]
theorem aGp {b:M.aA} (hb:b.ok) (hz:M.aA.sz b≤1048576):kF b=some (sA b):=aBm hb (zK hz)
def aCP (x y:M.aA):Bool:=Op.bytesLess x.Site.toList y.Site.toList||((x.Site.toList==y.Site.toList)&&Op.bytesLess x.Top.toList y.Top.toList)
theorem aDx (x y:M.aA):uZ x y.Site y.Top=some (aCP x y):=by
 unfold uZ aCP
 cases Op.bytesLess x.Site.toList y.Site.toList<;>cases (x.Site.toList==y.Site.toList)<;>simp
theorem aB6 (x y:M.aA):jY x y=some (aCP x y):=by
 unfold jY aCP
 cases Op.bytesLess x.Site.toList y.Site.toList<;>cases (x.Site.toList==y.Site.toList)<;>simp
def aDA (l:List M.aA) (k:Nat):Bool:=(l[k]?).any sA&&(decide (k=0)||(l[k-1]?).any fun y=>(l[k]?).any fun x=>aCP y x)
def oT (s:M.aC):Bool:=(List.range s.Buckets.length).all (aDA s.Buckets)&&decide ((s.Buckets.length:Int)≤9)
theorem aBP {s:M.aC} (hs:s.ok) (hz : ∀b∈s.Buckets,M.Database.sz b.bB.Base≤1048576):bS s=some (oT s):=by
 have hm:=le_max hs.Buckets.1
 unfold bS oT
 rw [kB (L:=fI s) (g:=aDA s.Buckets) (F:=some false) (E:=some (decide ((s.Buckets.length:Int)≤9))) hs.Buckets.1 (fun n k hk => ?_) (fun n => ?_),bM]
 ·have hf:=hs.Buckets.2 _ (List.getElem_mem hk)
  have hzb:M.Database.sz s.Buckets[k].bB.Base≤1048576:=hz _ (List.getElem_mem hk)
  simp only [fI]
  rw [if_pos (aZ hk),aO hk,Option.bind_some,bD (by omega),aBl hf hzb,Option.bind_some]
  unfold aDA
  rw [List.getElem?_eq_getElem hk]
  generalize fI s n ((k+1:Nat):Int)=Z
  by_cases h0:k=0
  ·subst h0
   simp only [Option.any_some]
   cases sA s.Buckets[0]<;>simp
  ·have e:i64.wrap ((k:Int)-1)=((k-1:Nat):Int):=by rw [jA (by omega) (by omega)];omega
   have hk1:k-1<s.Buckets.length:=by omega
   rw [if_pos (c:=(decide ((k:Int)>0))=true) (by simp;omega),e,aO hk1,Option.bind_some,aDx,Option.bind_some,List.getElem?_eq_getElem hk1]
   simp only [Option.any_some,h0,decide_false,Bool.false_or]
   cases sA s.Buckets[k]<;>cases aCP s.Buckets[k-1] s.Buckets[k]<;>simp
 ·simp only [fI]
  rw [if_neg (by rw [aP];simp)]
theorem aGX {s:M.aC} (hs:s.ok) (hz:M.aC.sz s≤1048576):bS s=some (oT s):=aBP hs (fun b hb=>zK (by
 have:=cC (f:=M.aA.sz) hb
 simp only [M.aC.sz] at hz
 omega))
theorem aBR {s:M.aC} (hs:s.ok) (hz : ∀b∈s.Buckets,M.Database.sz b.bB.Base≤1048576):bT s=some (oT s):=by
 have hm:=le_max hs.Buckets.1
 unfold bT oT
 rw [kB (L:=fE s) (g:=aDA s.Buckets) (F:=some false) (E:=some (decide ((s.Buckets.length:Int)≤9))) hs.Buckets.1 (fun n k hk => ?_) (fun n => ?_),bM]
 ·have hf:=hs.Buckets.2 _ (List.getElem_mem hk)
  have hzb:M.Database.sz s.Buckets[k].bB.Base≤1048576:=hz _ (List.getElem_mem hk)
  simp only [fE]
  rw [if_pos (aZ hk),aO hk,Option.bind_some,bD (by omega),aBm hf hzb,Option.bind_some]
  unfold aDA
  rw [List.getElem?_eq_getElem hk]
  generalize fE s n ((k+1:Nat):Int)=Z
  by_cases h0:k=0
  ·subst h0
   simp only [Option.any_some]
   cases sA s.Buckets[0]<;>simp
  ·have e:i64.wrap ((k:Int)-1)=((k-1:Nat):Int):=by rw [jA (by omega) (by omega)];omega
   have hk1:k-1<s.Buckets.length:=by omega
   rw [if_pos (c:=(decide ((k:Int)>0))=true) (by simp;omega),e,aO hk1,Option.bind_some,aB6,Option.bind_some,List.getElem?_eq_getElem hk1]
   simp only [Option.any_some,h0,decide_false,Bool.false_or]
   cases sA s.Buckets[k]<;>cases aCP s.Buckets[k-1] s.Buckets[k]<;>simp
 ·simp only [fE]
  rw [if_neg (by rw [aP];simp)]
theorem aGN {s:M.aC} (hs:s.ok) (hz:M.aC.sz s≤1048576):bT s=some (oT s):=aBR hs (fun b hb=>zK (by
 have:=cC (f:=M.aA.sz) hb
 simp only [M.aC.sz] at hz
 omega))
end Go.Proofs.YtnhpbpnhmapeeaaGreat.gen
