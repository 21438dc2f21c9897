/-
  Helper text. No conditions.
-/
import Derived.Test.YtnhpbpnhmapeeaaGreatClosePagePh
namespace Go.Proofs.YtnhpbpnhmapeeaaGreat.gen
open Go Go.Sh
open Go.IntKind (i64)
set_option linter.unusedVariables false
set_option linter.unusedSimpArgs false
def nPl (f:M.Item→Bool) (l:List M.Item):Nat→Nat
 | 0=>0
 | k+1=>if (l[k]?).any f=true then nPl f l k else k+1
theorem aKy (f:M.Item→Bool) (l:List M.Item) : ∀k,nPl f l k≤k
 | 0=>by simp [nPl]
 | k+1=>by
  unfold nPl
  split
  ·exact Nat.le_succ_of_le (aKy f l k)
  ·exact Nat.le_refl _
theorem aL0 {α:Type} {l:List α} {i:Int} {x:α} (h:idx l i=some x):x∈l:=List.mem_of_getElem? (aR h).2.1
theorem aGh {α:Type} {l:List α} {k:Nat} (h:k≤l.length):aEY l (k:Int)=some (l.take k):=by
 unfold aEY
 rw [if_pos ⟨by omega,by simpa using h⟩,Int.toNat_natCast]
def aNK (a:ByteArray) (out:List M.Item) (x:M.Item):List M.Item:=
 if (oD x.aU a).2=true then out.take (nPl (aDh a x) out out.length)++(x::out.drop (nPl (aDh a x) out out.length)) else out
def aFk (s:M.aH) (a:ByteArray):List M.Item:=s.Items.foldl (aNK a) []
theorem aKJ (a:ByteArray) (out:List M.Item) (x:M.Item):(aNK a out x).length≤out.length+1:=by
 unfold aNK
 have:=aKy (aDh a x) out out.length
 split
 ·simp only [List.length_append,List.length_take,List.length_cons,List.length_drop];omega
 ·omega
theorem aKF {a:ByteArray} {out:List M.Item} {x y:M.Item} (h:y∈aNK a out x):y=x∨y∈out:=by
 unfold aNK at h
 split at h
 ·rcases List.mem_append.1 h with h | h
  ·exact .inr (List.mem_of_mem_take h)
  ·rcases List.mem_cons.1 h with h | h
   ·exact .inl h
   ·exact .inr (List.mem_of_mem_drop h)
 ·exact .inr h
theorem aLt {a:ByteArray} {l:List M.Item} {x:M.Item} {K:Int→Option (List M.Item)} (hl:l.length≤1048576) (hx:x.ok) (ho : ∀y∈l,M.Item.ok y) :
  ∀(n k:Nat),k<n→k≤l.length→gH a l x K n (k:Int)=K ((nPl (aDh a x) l k:Nat):Int)
 | 0,k,h,_=>by omega
 | n+1,0,h,_=>by
  simp only [gH,nPl]
  rw [if_neg (by simp)]
 | n+1,k+1,h,hk=>by
  have hk':k<l.length:=by omega
  have e:i64.wrap (((k+1:Nat):Int)-1)=(k:Int):=by rw [iT (by omega) (by omega)];omega
  simp only [gH]
  rw [if_pos (by simp),e,aO hk',Option.bind_some,aIS hx (ho _ (List.getElem_mem hk')),Option.bind_some,nPl,List.getElem?_eq_getElem hk',Option.any_some]
  cases hc:aDh a x l[k] with
  | true=>rw [if_pos rfl,if_pos rfl];exact aLt hl hx ho n k (by omega) (by omega)
  | false=>rw [if_neg (by simp),if_neg (by simp)]
theorem aLY {a:ByteArray} {l:List M.Item} {x:M.Item} {K:Int→Option (List M.Item)} (hl:l.length≤1048576) (hx:x.ok) (ho : ∀y∈l,M.Item.ok y) :
  ∀(n k:Nat),k<n→k≤l.length→gN a l x K n (k:Int)=K ((nPl (aDh a x) l k:Nat):Int)
 | 0,k,h,_=>by omega
 | n+1,0,h,_=>by
  simp only [gN,nPl]
  rw [if_neg (by simp)]
 | n+1,k+1,h,hk=>by
  have hk':k<l.length:=by omega
  have e:i64.wrap (((k+1:Nat):Int)-1)=(k:Int):=by rw [iT (by omega) (by omega)];omega
  simp only [gN]
  rw [if_pos (by simp),e,aO hk',Option.bind_some,aEd hx (ho _ (List.getElem_mem hk')),Option.bind_some,nPl,List.getElem?_eq_getElem hk',Option.any_some]
  cases hc:aDh a x l[k] with
  | true=>rw [if_pos rfl,if_pos rfl];exact aLY hl hx ho n k (by omega) (by omega)
  | false=>rw [if_neg (by simp),if_neg (by simp)]
theorem aNA {s:M.aH} {a:ByteArray} (hs:s.ok) (hz:M.aH.sz s≤1048576):yW s a=some (aFk s a)∧(aFk s a).length≤s.Items.length ∧ ∀y∈aFk s a,M.Item.ok y:=by
 have hl:s.Items.length≤1048576:=by simp only [M.aH.sz] at hz;omega
 unfold yW aFk
 refine aKL (L:=gK s a) (xs:=s.Items) (step:=aNK a) (I:=fun k out=>out.length≤k ∧ ∀y∈out,M.Item.ok y) (E:=fun out=>some out) hs.Items.1 (fun out k hk hi=>⟨?_,fun y hy => ?_⟩) (fun n out k hk hi => ?_) (fun n out hi => ?_) [] ⟨Nat.le_refl _,by simp⟩
 ·have:=aKJ a out s.Items[k]
  have:=hi.1
  omega
 ·rcases aKF hy with rfl | hy
  ·exact hs.Items.2 _ (List.getElem_mem hk)
  ·exact hi.2 y hy
 ·have hx:=hs.Items.2 _ (List.getElem_mem hk)
  have hzx:M.Item.sz s.Items[k]≤1073741824:=by
   have:=dJ (f:=M.Item.sz) (List.getElem_mem hk)
   simp only [M.aH.sz] at hz
   omega
  have hi1:=hi.1
  simp only [gK]
  rw [if_pos (aZ hk),aO hk,Option.bind_some,vQ hx.aU,Option.bind_some,bB (by omega),aAl]
  unfold aNK
  by_cases hg:(oD s.Items[k].aU a).2=true
  ·have hp:=aKy (aDh a s.Items[k]) out out.length
   rw [if_pos hg,if_pos hg,aLt (by omega) hx hi.2 fuel out.length (by unfold fuel;omega) (Nat.le_refl _)]
   generalize nPl (aDh a s.Items[k]) out out.length=p at hp
   simp only [Int.toNat_natCast]
   rw [aGh hp,Option.bind_some,aAs (by simp only [List.length_nil,List.length_take];omega),Option.bind_some,aEk _ hzx,Option.bind_some,aAs (by simp only [List.length_cons,List.length_nil,List.length_take];omega),Option.bind_some,aAs (by simp only [List.length_append,List.length_cons,List.length_nil,List.length_take,List.length_drop];omega),Option.bind_some,List.append_assoc,List.singleton_append]
  ·rw [if_neg hg,if_neg hg]
 ·simp only [gK]
  rw [if_neg (by rw [aP];simp)]
theorem aK2 {s:M.aH} {a:ByteArray} (hs:s.ok) (hz:M.aH.sz s≤1048576):yH s a=some (aFk s a)∧(aFk s a).length≤s.Items.length ∧ ∀y∈aFk s a,M.Item.ok y:=by
 have hl:s.Items.length≤1048576:=by simp only [M.aH.sz] at hz;omega
 unfold yH aFk
 refine aKL (L:=gJ s a) (xs:=s.Items) (step:=aNK a) (I:=fun k out=>out.length≤k ∧ ∀y∈out,M.Item.ok y) (E:=fun out=>some out) hs.Items.1 (fun out k hk hi=>⟨?_,fun y hy => ?_⟩) (fun n out k hk hi => ?_) (fun n out hi => ?_) [] ⟨Nat.le_refl _,by simp⟩
 ·have:=aKJ a out s.Items[k]
  have:=hi.1
  omega
 ·rcases aKF hy with rfl | hy
  ·exact hs.Items.2 _ (List.getElem_mem hk)
  ·exact hi.2 y hy
 ·have hx:=hs.Items.2 _ (List.getElem_mem hk)
  have hzx:M.Item.sz s.Items[k]≤1073741824:=by
   have:=dJ (f:=M.Item.sz) (List.getElem_mem hk)
   simp only [M.aH.sz] at hz
   omega
  have hi1:=hi.1
  simp only [gJ]
  rw [if_pos (aZ hk),aO hk,Option.bind_some,mW hx.aU,Option.bind_some,bB (by omega),aAl]
  unfold aNK
  by_cases hg:(oD s.Items[k].aU a).2=true
  ·have hp:=aKy (aDh a s.Items[k]) out out.length
   rw [if_pos hg,if_pos hg,aLY (by omega) hx hi.2 fuel out.length (by unfold fuel;omega) (Nat.le_refl _)]
   generalize nPl (aDh a s.Items[k]) out out.length=p at hp
   simp only [Int.toNat_natCast]
   rw [aCm _ hzx,Option.bind_some,aMx ⟨by omega,by simpa using hp,by simp,by simp only [List.length_cons,List.length_nil];omega⟩,Option.bind_some,List.singleton_append]
  ·rw [if_neg hg,if_neg hg]
 ·simp only [gJ]
  rw [if_neg (by rw [aP];simp)]
theorem aMT {a:ByteArray} {l:List M.Item} (ho : ∀y∈l,M.Item.ok y) : ∀(n:Nat) (v:Int),iH a l n v=eX a l n v
 | 0,v=>rfl
 | n+1,v=>by
  simp only [iH,eX,aMT ho n]
  cases h1:idx l (i64.wrap (v-1)) with
  | none=>rfl
  | some x =>
   have hx:=(ho x (aL0 h1)).aU
   simp only [Option.bind_some,vQ hx,mW hx]
   cases h2:idx l v with
   | none=>rfl
   | some y =>
    have hy:=(ho y (aL0 h2)).aU
    simp only [Option.bind_some,vQ hy,mW hy]
theorem aLi {a:ByteArray} {l:List M.Item} (ho : ∀y∈l,M.Item.ok y) (hl:l.length≤1048576) : ∀(n k:Nat),l.length-k<n→1≤k → ∃r,eX a l n (k:Int)=some r
 | 0,k,h,_=>by omega
 | n+1,k,h,h1=>by
  simp only [eX]
  by_cases hk:k<l.length
  ·have e:i64.wrap ((k:Int)-1)=((k-1:Nat):Int):=by rw [iT (by omega) (by omega)];omega
   have hk1:k-1<l.length:=by omega
   rw [if_pos (aZ hk),e,aO hk1,Option.bind_some,mW (ho _ (List.getElem_mem hk1)).aU,Option.bind_some,aO hk,Option.bind_some,mW (ho _ (List.getElem_mem hk)).aU,Option.bind_some,bB (by omega)]
   split
   ·exact ⟨_,rfl⟩
   ·exact aLi ho hl n (k+1) (by omega) (by omega)
  ·rw [if_neg (by simp;omega)]
   exact ⟨_,rfl⟩
def aHe (s:M.aH) (a:ByteArray):M.Key×M.Key×Bool:=(hH s a).getD (⟨0,0,⟨#[]⟩⟩,⟨0,0,⟨#[]⟩⟩,false)
theorem aBv {s:M.aH} {a:ByteArray} (hs:s.ok) (hz:M.aH.sz s≤1048576):hH s a=some (aHe s a):=by
 obtain ⟨e,hl,ho⟩:=aK2 (a:=a) hs hz
 have hl2:s.Items.length≤1048576:=by simp only [M.aH.sz] at hz;omega
 obtain ⟨r,hr⟩:=aLi (a:=a) ho (by omega) fuel 1 (by unfold fuel;omega) (by omega)
 have:hH s a=some r:=by
  unfold hH
  rw [e,Option.bind_some]
  exact hr
 unfold aHe
 rw [this]
 rfl
theorem aEB {s:M.aH} {a:ByteArray} (hs:s.ok) (hz:M.aH.sz s≤1048576):nW s a=some (aHe s a):=by
 obtain ⟨e,hl,ho⟩:=aNA (a:=a) hs hz
 obtain ⟨e2,_⟩:=aK2 (a:=a) hs hz
 rw [←aBv hs hz]
 unfold nW hH
 rw [e,e2,Option.bind_some,Option.bind_some]
 exact aMT ho _ _
def aDG (l:List M.aH) (k:Nat):Bool:=(l[k]?).any aB8&&(decide (k=0)||(l[k-1]?).any fun y=>(l[k]?).any fun x=>Op.bytesLess y.Name.toList x.Name.toList)
def aBY (x y:M.aA):Bool:=(x.aH.toList==y.aH.toList)&&(x.Field.toList==y.Field.toList)
def aHp (l:List M.aA) (k:Nat) (x:M.aA):Bool:=(List.range k).all fun j => !((l[j]?).any fun y=>aBY y x)
def aEt (d:M.Database) (k:Nat):Bool:=(d.Unique[k]?).any fun u=>decide (0≤aBj (aFe u.aH) d.Stores)&&(pK u.Field&&(!((d.Stores[(aBj (aFe u.aH) d.Stores).toNat]?).any fun s=>(aHe s u.Field).2.2)&&aHp d.Unique k u))
def nDb (d:M.Database):Bool:=(List.range d.Stores.length).all (aDG d.Stores)&&((List.range d.Unique.length).all (aEt d)&&(pK d.Name&&(inR d.Version 0 1000&&(decide (d.Stores.length≤4)&&decide (d.Unique.length≤4)))))
theorem aMu {l:List M.aA} {k:Nat} {x:M.aA} (hk:k≤l.length):(l.take k).any (aBY x) = !(aHp l k x):=by
 have hc : ∀y,aBY y x=aBY x y:=fun y=>by
  unfold aBY
  rw [BEq.comm (a:=y.aH.toList),BEq.comm (a:=y.Field.toList)]
 unfold aHp
 rw [Bool.eq_iff_iff]
 simp only [List.any_eq_true,Bool.not_eq_true',List.all_eq_false,List.mem_range,Bool.not_eq_true,Bool.not_eq_false',hc]
 constructor
 ·rintro ⟨y,hy,hs⟩
  obtain ⟨j,hj,rfl⟩:=List.mem_iff_getElem.1 hy
  rw [List.length_take] at hj
  refine ⟨j,by omega,?_⟩
  rw [List.getElem?_eq_getElem (by omega),Option.any_some]
  rw [List.getElem_take] at hs
  simp [hs]
 ·rintro ⟨j,hj,hs⟩
  rw [List.getElem?_eq_getElem (by omega),Option.any_some] at hs
  refine ⟨l[j],List.mem_iff_getElem.2 ⟨j,by rw [List.length_take];omega,by rw [List.getElem_take]⟩,by simpa using hs⟩
theorem aHF {l:List M.aA} {x:M.aA} (hl:l.length≤maxLen):gT l x=some (l.any (aBY x)):=by
 have hm:=le_max hl
 have:iP l x=some (aBj (aBY x) l):=by
  unfold iP
  rw [findAll (L:=dF l x) (f:=aBY x) (A:=fun i=>some (i:Int)) (E:=some (-1)) hl (fun m k hk => ?_) (fun m => ?_),tT]
  ·simp only [dF]
   rw [if_pos (aZ hk),aO hk,Option.bind_some,bB (by omega)]
   rfl
  ·simp only [dF]
   rw [if_neg (by rw [aP];simp)]
 unfold gT
 rw [this,Option.bind_some,aIM]
theorem aLO {d:M.Database} {u:M.aA} {k:Nat} {K:Int→Option Bool} (hm:d.Unique.length≤maxLen) (hk:k≤d.Unique.length):fJ d (k:Int) u K fuel 0=if aHp d.Unique k u=true then K (k:Int) else some false:=by
 have hm':=le_max hm
 refine jV (L:=fJ d (k:Int) u K) (g:=fun j => !((d.Unique[j]?).any fun y=>aBY y u)) (F:=some false) (E:=K (k:Int)) (Nat.le_trans hk hm) (fun n j hj => ?_) (fun n => ?_)
 ·have hj':j<d.Unique.length:=by omega
  simp only [fJ]
  rw [if_pos (aZ hj),aO hj',Option.bind_some,bB (by omega),List.getElem?_eq_getElem hj',Option.any_some,aAl]
  rfl
 ·simp only [fJ]
  rw [if_neg (by rw [aP];simp)]
theorem aK0 {d:M.Database} (hz:M.Database.sz d≤1048576) : ∀s∈d.Stores,M.aH.sz s≤1048576:=fun s hs=>by
 have:=dJ (f:=M.aH.sz) hs
 simp only [M.Database.sz] at hz
 omega
theorem aKm (a b:List UInt8):(Op.bytesLess a b||a==b) = !(Op.bytesLess b a):=by
 have h:=aCS b a
 cases h1:Op.bytesLess b a<;>cases h2:(Op.bytesLess a b||a==b)<;>simp_all
theorem aE8 {d:M.Database} (hd:d.ok) (hz:M.Database.sz d≤1048576):pW d=some (nDb d):=by
 have hm:=le_max hd.Stores.1
 have hm2:=le_max hd.Unique.1
 unfold pW nDb
 rw [jV (L:=eM d) (g:=aDG d.Stores) (F:=some false) (E:=eN d fuel 0) hd.Stores.1 (fun n k hk => ?_) (fun n => ?_),
  jV (L:=eN d) (g:=aEt d) (F:=some false) (E:=some (pK d.Name&&(inR d.Version 0 1000&&(decide (d.Stores.length≤4)&&decide (d.Unique.length≤4))))) hd.Unique.1 (fun n k hk => ?_) (fun n => ?_),bP,bP]
 ·have hf:=hd.Unique.2 _ (List.getElem_mem hk)
  simp only [eN]
  rw [if_pos (aZ hk),aO hk,Option.bind_some,aFp hd,Option.bind_some,bB (by omega)]
  unfold aEt
  rw [List.getElem?_eq_getElem hk,Option.any_some,eO hf.Field,Option.bind_some]
  by_cases h:aBj (aFe d.Unique[k].aH) d.Stores<0
  ·rw [if_pos (by simpa using h),decide_eq_false (by omega)]
   simp
  ·obtain ⟨j,e,hj⟩:=aEH h
   have hs:=hd.Stores.2 _ (List.getElem_mem hj)
   rw [if_neg (by simpa using h),e,aO hj,Option.bind_some,aEB hs (aK0 hz _ (List.getElem_mem hj)),Option.bind_some,Int.toNat_natCast,List.getElem?_eq_getElem hj,Option.any_some,aLO hd.Unique.1 (by omega)]
   have:decide ((0:Int)≤(j:Int))=true:=by simp
   rw [this]
   generalize eN d n ((k+1:Nat):Int)=Z
   cases pK d.Unique[k].Field<;>cases (aHe d.Stores[j] d.Unique[k].Field).2.2<;>cases aHp d.Unique k d.Unique[k]<;>simp
 ·simp only [eN]
  rw [if_neg (by rw [aP];simp),eO hd.Name,Option.bind_some,dG,Option.bind_some,bP,bP,bP]
  congr 3
  have e1:decide ((d.Stores.length:Int)≤4)=decide (d.Stores.length≤4):=by rw [Bool.eq_iff_iff];simp;omega
  have e2:decide ((d.Unique.length:Int)≤4)=decide (d.Unique.length≤4):=by rw [Bool.eq_iff_iff];simp;omega
  rw [e1,e2]
 ·have hf:=hd.Stores.2 _ (List.getElem_mem hk)
  simp only [eM]
  rw [if_pos (aZ hk),aO hk,Option.bind_some,bB (by omega),aB0 hf,Option.bind_some]
  unfold aDG
  rw [List.getElem?_eq_getElem hk]
  generalize eM d n ((k+1:Nat):Int)=Z
  by_cases h0:k=0
  ·subst h0
   simp only [Option.any_some]
   cases aB8 d.Stores[0]<;>simp
  ·have e:i64.wrap ((k:Int)-1)=((k-1:Nat):Int):=by rw [iT (by omega) (by omega)];omega
   have hk1:k-1<d.Stores.length:=by omega
   rw [if_pos (c:=(decide ((k:Int)>0))=true) (by simp;omega),e,aO hk1,Option.bind_some,List.getElem?_eq_getElem hk1]
   simp only [Option.any_some,h0,decide_false,Bool.false_or]
   cases aB8 d.Stores[k]<;>cases Op.bytesLess d.Stores[k-1].Name.toList d.Stores[k].Name.toList<;>simp
 ·simp only [eM]
  rw [if_neg (by rw [aP];simp)]
theorem aE6 {d:M.Database} (hd:d.ok) (hz:M.Database.sz d≤1048576):pQ d=some (nDb d):=by
 have hm:=le_max hd.Stores.1
 have hm2:=le_max hd.Unique.1
 unfold pQ nDb
 rw [jV (L:=dC d) (g:=aDG d.Stores) (F:=some false) (E:=dE d fuel 0) hd.Stores.1 (fun n k hk => ?_) (fun n => ?_),
  jV (L:=dE d) (g:=aEt d) (F:=some false) (E:=some true) hd.Unique.1 (fun n k hk => ?_) (fun n => ?_)]
 ·simp only [dO hd.Name,bQ,Option.bind_some]
  have e1:decide ((d.Stores.length:Int)>4) = !decide (d.Stores.length≤4):=by rw [Bool.eq_iff_iff];simp;omega
  have e2:decide ((d.Unique.length:Int)>4) = !decide (d.Unique.length≤4):=by rw [Bool.eq_iff_iff];simp;omega
  rw [e1,e2]
  cases pK d.Name<;>cases inR d.Version 0 1000<;>cases decide (d.Stores.length≤4)<;>cases decide (d.Unique.length≤4)<;>cases (List.range d.Stores.length).all (aDG d.Stores)<;>cases (List.range d.Unique.length).all (aEt d)<;>rfl
 ·have hf:=hd.Unique.2 _ (List.getElem_mem hk)
  simp only [dE]
  rw [if_pos (aZ hk),aO hk,Option.bind_some,aFu hd,Option.bind_some,bB (by omega)]
  unfold aEt
  rw [List.getElem?_eq_getElem hk,Option.any_some,dO hf.Field,Option.bind_some,aGh (by omega),Option.bind_some,Int.toNat_natCast,aHF (Nat.le_trans (by rw [List.length_take];exact Nat.min_le_right _ _) hd.Unique.1),Option.bind_some,aMu (by omega)]
  by_cases h:aBj (aFe d.Unique[k].aH) d.Stores<0
  ·rw [if_pos (by simpa using h),decide_eq_false (by omega)]
   simp
  ·obtain ⟨j,e,hj⟩:=aEH h
   have hs:=hd.Stores.2 _ (List.getElem_mem hj)
   rw [if_neg (by simpa using h),e,aO hj,Option.bind_some,aBv hs (aK0 hz _ (List.getElem_mem hj)),Option.bind_some,Int.toNat_natCast,List.getElem?_eq_getElem hj,Option.any_some]
   have:decide ((0:Int)≤(j:Int))=true:=by simp
   rw [this]
   generalize dE d n ((k+1:Nat):Int)=Z
   cases pK d.Unique[k].Field<;>cases (aHe d.Stores[j] d.Unique[k].Field).2.2<;>cases aHp d.Unique k d.Unique[k]<;>simp
 ·simp only [dE]
  rw [if_neg (by rw [aP];simp)]
 ·have hf:=hd.Stores.2 _ (List.getElem_mem hk)
  simp only [dC]
  rw [if_pos (aZ hk),aO hk,Option.bind_some,bB (by omega),aBz hf,Option.bind_some]
  unfold aDG
  rw [List.getElem?_eq_getElem hk]
  generalize dC d n ((k+1:Nat):Int)=Z
  by_cases h0:k=0
  ·subst h0
   simp only [Option.any_some]
   cases aB8 d.Stores[0]<;>simp
  ·have e:i64.wrap ((k:Int)-1)=((k-1:Nat):Int):=by rw [iT (by omega) (by omega)];omega
   have hk1:k-1<d.Stores.length:=by omega
   rw [if_pos (c:=(decide ((k:Int)>0))=true) (by simp;omega),e,aO hk1,Option.bind_some,List.getElem?_eq_getElem hk1,aKm]
   simp only [Option.any_some,h0,decide_false,Bool.false_or]
   cases aB8 d.Stores[k]<;>cases Op.bytesLess d.Stores[k-1].Name.toList d.Stores[k].Name.toList<;>simp
 ·simp only [dC]
  rw [if_neg (by rw [aP];simp)]
def aCI (b:M.aF):Bool:=pK b.Site&&(pK b.Top&&(aPf b.Registration&&((b.Registration.Site.toList==b.Site.toList)&&(aCz b.Caches&&(nDb b.bE.Base&&(aEM b.aD&&(inR b.LastUsed 0 1000000000000&&decide (aJK b≤2500))))))))
theorem aMD {b:M.aF} (hz:M.aF.sz b≤1048576):M.Database.sz b.bE.Base≤1048576:=by
 simp only [M.aF.sz,M.bE.sz] at hz
 omega
theorem aF4 {b:M.aF} (hb:b.ok) (hz:M.Database.sz b.bE.Base≤1048576):wK b=some (aCI b):=by
 unfold wK aCI
 simp only [eO hb.Site,eO hb.Top,aBF hb.Registration,aFJ hb.Caches,aE8 hb.bE.Base hz,aFm hb.aD,dG,aHQ hb,Option.bind_some,bP]
theorem aF8 {b:M.aF} (hb:b.ok) (hz:M.Database.sz b.bE.Base≤1048576):wG b=some (aCI b):=by
 unfold wG aCI
 simp only [dO hb.Site,dO hb.Top,aCy hb.Registration,aEu hb.Caches,aE6 hb.bE.Base hz,aFr hb.aD,bQ,aHb hb,Option.bind_some,bP]
def aDg (x y:M.aF):Bool:=Op.bytesLess x.Site.toList y.Site.toList||((x.Site.toList==y.Site.toList)&&Op.bytesLess x.Top.toList y.Top.toList)
theorem aHW (x y:M.aF):xZ x y.Site y.Top=some (aDg x y):=by
 unfold xZ aDg
 cases Op.bytesLess x.Site.toList y.Site.toList<;>cases (x.Site.toList==y.Site.toList)<;>simp
theorem aDi (x y:M.aF):mY x y=some (aDg x y):=by
 unfold mY aDg
 cases Op.bytesLess x.Site.toList y.Site.toList<;>cases (x.Site.toList==y.Site.toList)<;>simp
def aCf (l:List M.aF) (k:Nat):Bool:=(l[k]?).any aCI&&(decide (k=0)||(l[k-1]?).any fun y=>(l[k]?).any fun x=>aDg y x)
def aBX (s:M.aM):Bool:=(List.range s.Buckets.length).all (aCf s.Buckets)&&decide ((s.Buckets.length:Int)≤9)
theorem aEp {s:M.aM} (hs:s.ok) (hz : ∀b∈s.Buckets,M.Database.sz b.bE.Base≤1048576):tF s=some (aBX s):=by
 have hm:=le_max hs.Buckets.1
 unfold tF aBX
 rw [jV (L:=fG s) (g:=aCf s.Buckets) (F:=some false) (E:=some (decide ((s.Buckets.length:Int)≤9))) hs.Buckets.1 (fun n k hk => ?_) (fun n => ?_),bP]
 ·have hf:=hs.Buckets.2 _ (List.getElem_mem hk)
  have hzb:M.Database.sz s.Buckets[k].bE.Base≤1048576:=hz _ (List.getElem_mem hk)
  simp only [fG]
  rw [if_pos (aZ hk),aO hk,Option.bind_some,bB (by omega),aF4 hf hzb,Option.bind_some]
  unfold aCf
  rw [List.getElem?_eq_getElem hk]
  generalize fG s n ((k+1:Nat):Int)=Z
  by_cases h0:k=0
  ·subst h0
   simp only [Option.any_some]
   cases aCI s.Buckets[0]<;>simp
  ·have e:i64.wrap ((k:Int)-1)=((k-1:Nat):Int):=by rw [iT (by omega) (by omega)];omega
   have hk1:k-1<s.Buckets.length:=by omega
   rw [if_pos (c:=(decide ((k:Int)>0))=true) (by simp;omega),e,aO hk1,Option.bind_some,aHW,Option.bind_some,List.getElem?_eq_getElem hk1]
   simp only [Option.any_some,h0,decide_false,Bool.false_or]
   cases aCI s.Buckets[k]<;>cases aDg s.Buckets[k-1] s.Buckets[k]<;>simp
 ·simp only [fG]
  rw [if_neg (by rw [aP];simp)]
theorem aE5 {s:M.aM} (hs:s.ok) (hz : ∀b∈s.Buckets,M.Database.sz b.bE.Base≤1048576):tN s=some (aBX s):=by
 have hm:=le_max hs.Buckets.1
 unfold tN aBX
 rw [jV (L:=fC s) (g:=aCf s.Buckets) (F:=some false) (E:=some (decide ((s.Buckets.length:Int)≤9))) hs.Buckets.1 (fun n k hk => ?_) (fun n => ?_),bP]
 ·have hf:=hs.Buckets.2 _ (List.getElem_mem hk)
  have hzb:M.Database.sz s.Buckets[k].bE.Base≤1048576:=hz _ (List.getElem_mem hk)
  simp only [fC]
  rw [if_pos (aZ hk),aO hk,Option.bind_some,bB (by omega),aF8 hf hzb,Option.bind_some]
  unfold aCf
  rw [List.getElem?_eq_getElem hk]
  generalize fC s n ((k+1:Nat):Int)=Z
  by_cases h0:k=0
  ·subst h0
   simp only [Option.any_some]
   cases aCI s.Buckets[0]<;>simp
  ·have e:i64.wrap ((k:Int)-1)=((k-1:Nat):Int):=by rw [iT (by omega) (by omega)];omega
   have hk1:k-1<s.Buckets.length:=by omega
   rw [if_pos (c:=(decide ((k:Int)>0))=true) (by simp;omega),e,aO hk1,Option.bind_some,aDi,Option.bind_some,List.getElem?_eq_getElem hk1]
   simp only [Option.any_some,h0,decide_false,Bool.false_or]
   cases aCI s.Buckets[k]<;>cases aDg s.Buckets[k-1] s.Buckets[k]<;>simp
 ·simp only [fC]
  rw [if_neg (by rw [aP];simp)]
end Go.Proofs.YtnhpbpnhmapeeaaGreat.gen
