/-
  Helper text. No conditions.
-/
import Derived.Test.YtnhpbpnhmapeeaaGreatSendNotePh
namespace Go.Proofs.YtnhpbpnhmapeeaaGreat.gen
open Go Go.Sh
open Go.IntKind (i64)
set_option linter.unusedVariables false
set_option linter.unusedSimpArgs false
def nPl (f:M.Item→Bool) (l:List M.Item):Nat→Nat
 | 0=>0
 | k+1=>if (l[k]?).any f=true then nPl f l k else k+1
theorem aLG (f:M.Item→Bool) (l:List M.Item) : ∀k,nPl f l k≤k
 | 0=>by simp [nPl]
 | k+1=>by
  unfold nPl
  split
  ·exact Nat.le_succ_of_le (aLG f l k)
  ·exact Nat.le_refl _
theorem aMI {α:Type} {l:List α} {i:Int} {x:α} (h:idx l i=some x):x∈l:=List.mem_of_getElem? (aR h).2.1
theorem aGq {α:Type} {l:List α} {k:Nat} (h:k≤l.length):aDO l (k:Int)=some (l.take k):=by
 unfold aDO
 rw [if_pos ⟨by omega,by simpa using h⟩,Int.toNat_natCast]
def aNj (a:ByteArray) (out:List M.Item) (x:M.Item):List M.Item:=
 if (oO x.aH a).2=true then out.take (nPl (aEA a x) out out.length)++(x::out.drop (nPl (aEA a x) out out.length)) else out
def aFt (s:M.aE) (a:ByteArray):List M.Item:=s.Items.foldl (aNj a) []
theorem aKd (a:ByteArray) (out:List M.Item) (x:M.Item):(aNj a out x).length≤out.length+1:=by
 unfold aNj
 have:=aLG (aEA a x) out out.length
 split
 ·simp only [List.length_append,List.length_take,List.length_cons,List.length_drop];omega
 ·omega
theorem aKY {a:ByteArray} {out:List M.Item} {x y:M.Item} (h:y∈aNj a out x):y=x∨y∈out:=by
 unfold aNj at h
 split at h
 ·rcases List.mem_append.1 h with h | h
  ·exact .inr (List.mem_of_mem_take h)
  ·rcases List.mem_cons.1 h with h | h
   ·exact .inl h
   ·exact .inr (List.mem_of_mem_drop h)
 ·exact .inr h
theorem aMB {a:ByteArray} {l:List M.Item} {x:M.Item} {K:Int→Option (List M.Item)} (hl:l.length≤1048576) (hx:x.ok) (ho : ∀y∈l,M.Item.ok y) :
  ∀(n k:Nat),k<n→k≤l.length→gH a l x K n (k:Int)=K ((nPl (aEA a x) l k:Nat):Int)
 | 0,k,h,_=>by omega
 | n+1,0,h,_=>by
  simp only [gH,nPl]
  rw [if_neg (by simp)]
 | n+1,k+1,h,hk=>by
  have hk':k<l.length:=by omega
  have e:i64.wrap (((k+1:Nat):Int)-1)=(k:Int):=by rw [nK (by omega) (by omega)];omega
  simp only [gH]
  rw [if_pos (by simp),e,aQ hk',Option.bind_some,aIX hx (ho _ (List.getElem_mem hk')),Option.bind_some,nPl,List.getElem?_eq_getElem hk',Option.any_some]
  cases hc:aEA a x l[k] with
  | true=>rw [if_pos rfl,if_pos rfl];exact aMB hl hx ho n k (by omega) (by omega)
  | false=>rw [if_neg (by simp),if_neg (by simp)]
theorem aLs {a:ByteArray} {l:List M.Item} {x:M.Item} {K:Int→Option (List M.Item)} (hl:l.length≤1048576) (hx:x.ok) (ho : ∀y∈l,M.Item.ok y) :
  ∀(n k:Nat),k<n→k≤l.length→gM a l x K n (k:Int)=K ((nPl (aEA a x) l k:Nat):Int)
 | 0,k,h,_=>by omega
 | n+1,0,h,_=>by
  simp only [gM,nPl]
  rw [if_neg (by simp)]
 | n+1,k+1,h,hk=>by
  have hk':k<l.length:=by omega
  have e:i64.wrap (((k+1:Nat):Int)-1)=(k:Int):=by rw [nK (by omega) (by omega)];omega
  simp only [gM]
  rw [if_pos (by simp),e,aQ hk',Option.bind_some,aEy hx (ho _ (List.getElem_mem hk')),Option.bind_some,nPl,List.getElem?_eq_getElem hk',Option.any_some]
  cases hc:aEA a x l[k] with
  | true=>rw [if_pos rfl,if_pos rfl];exact aLs hl hx ho n k (by omega) (by omega)
  | false=>rw [if_neg (by simp),if_neg (by simp)]
theorem aNV {s:M.aE} {a:ByteArray} (hs:s.ok) (hz:M.aE.sz s≤1048576):zB s a=some (aFt s a)∧(aFt s a).length≤s.Items.length ∧ ∀y∈aFt s a,M.Item.ok y:=by
 have hl:s.Items.length≤1048576:=by simp only [M.aE.sz] at hz;omega
 unfold zB aFt
 refine aIu (L:=gK s a) (xs:=s.Items) (step:=aNj a) (I:=fun k out=>out.length≤k ∧ ∀y∈out,M.Item.ok y) (E:=fun out=>some out) hs.Items.1 (fun out k hk hi=>⟨?_,fun y hy => ?_⟩) (fun n out k hk hi => ?_) (fun n out hi => ?_) [] ⟨Nat.le_refl _,by simp⟩
 ·have:=aKd a out s.Items[k]
  have:=hi.1
  omega
 ·rcases aKY hy with rfl | hy
  ·exact hs.Items.2 _ (List.getElem_mem hk)
  ·exact hi.2 y hy
 ·have hx:=hs.Items.2 _ (List.getElem_mem hk)
  have hzx:M.Item.sz s.Items[k]≤1073741824:=by
   have:=cH (f:=M.Item.sz) (List.getElem_mem hk)
   simp only [M.aE.sz] at hz
   omega
  have hi1:=hi.1
  simp only [gK]
  rw [if_pos (bF hk),aQ hk,Option.bind_some,wA hx.aH,Option.bind_some,bH (by omega),aCn]
  unfold aNj
  by_cases hg:(oO s.Items[k].aH a).2=true
  ·have hp:=aLG (aEA a s.Items[k]) out out.length
   rw [if_pos hg,if_pos hg,aMB (by omega) hx hi.2 fuel out.length (by unfold fuel;omega) (Nat.le_refl _)]
   generalize nPl (aEA a s.Items[k]) out out.length=p at hp
   simp only [Int.toNat_natCast]
   rw [aGq hp,Option.bind_some,rR (by simp only [List.length_nil,List.length_take];omega),Option.bind_some,aE4 _ hzx,Option.bind_some,rR (by simp only [List.length_cons,List.length_nil,List.length_take];omega),Option.bind_some,rR (by simp only [List.length_append,List.length_cons,List.length_nil,List.length_take,List.length_drop];omega),Option.bind_some,List.append_assoc,List.singleton_append]
  ·rw [if_neg hg,if_neg hg]
 ·simp only [gK]
  rw [if_neg (by rw [aT];simp)]
theorem aLK {s:M.aE} {a:ByteArray} (hs:s.ok) (hz:M.aE.sz s≤1048576):yO s a=some (aFt s a)∧(aFt s a).length≤s.Items.length ∧ ∀y∈aFt s a,M.Item.ok y:=by
 have hl:s.Items.length≤1048576:=by simp only [M.aE.sz] at hz;omega
 unfold yO aFt
 refine aIu (L:=gJ s a) (xs:=s.Items) (step:=aNj a) (I:=fun k out=>out.length≤k ∧ ∀y∈out,M.Item.ok y) (E:=fun out=>some out) hs.Items.1 (fun out k hk hi=>⟨?_,fun y hy => ?_⟩) (fun n out k hk hi => ?_) (fun n out hi => ?_) [] ⟨Nat.le_refl _,by simp⟩
 ·have:=aKd a out s.Items[k]
  have:=hi.1
  omega
 ·rcases aKY hy with rfl | hy
  ·exact hs.Items.2 _ (List.getElem_mem hk)
  ·exact hi.2 y hy
 ·have hx:=hs.Items.2 _ (List.getElem_mem hk)
  have hzx:M.Item.sz s.Items[k]≤1073741824:=by
   have:=cH (f:=M.Item.sz) (List.getElem_mem hk)
   simp only [M.aE.sz] at hz
   omega
  have hi1:=hi.1
  simp only [gJ]
  rw [if_pos (bF hk),aQ hk,Option.bind_some,nH hx.aH,Option.bind_some,bH (by omega),aCn]
  unfold aNj
  by_cases hg:(oO s.Items[k].aH a).2=true
  ·have hp:=aLG (aEA a s.Items[k]) out out.length
   rw [if_pos hg,if_pos hg,aLs (by omega) hx hi.2 fuel out.length (by unfold fuel;omega) (Nat.le_refl _)]
   generalize nPl (aEA a s.Items[k]) out out.length=p at hp
   simp only [Int.toNat_natCast]
   rw [aDB _ hzx,Option.bind_some,aGG ⟨by omega,by simpa using hp,by simp,by simp only [List.length_cons,List.length_nil];omega⟩,Option.bind_some,List.singleton_append]
  ·rw [if_neg hg,if_neg hg]
 ·simp only [gJ]
  rw [if_neg (by rw [aT];simp)]
theorem aMo {a:ByteArray} {l:List M.Item} (ho : ∀y∈l,M.Item.ok y) : ∀(n:Nat) (v:Int),iE a l n v=eS a l n v
 | 0,v=>rfl
 | n+1,v=>by
  simp only [iE,eS,aMo ho n]
  cases h1:idx l (i64.wrap (v-1)) with
  | none=>rfl
  | some x =>
   have hx:=(ho x (aMI h1)).aH
   simp only [Option.bind_some,wA hx,nH hx]
   cases h2:idx l v with
   | none=>rfl
   | some y =>
    have hy:=(ho y (aMI h2)).aH
    simp only [Option.bind_some,wA hy,nH hy]
theorem aL1 {a:ByteArray} {l:List M.Item} (ho : ∀y∈l,M.Item.ok y) (hl:l.length≤1048576) : ∀(n k:Nat),l.length-k<n→1≤k → ∃r,eS a l n (k:Int)=some r
 | 0,k,h,_=>by omega
 | n+1,k,h,h1=>by
  simp only [eS]
  by_cases hk:k<l.length
  ·have e:i64.wrap ((k:Int)-1)=((k-1:Nat):Int):=by rw [nK (by omega) (by omega)];omega
   have hk1:k-1<l.length:=by omega
   rw [if_pos (bF hk),e,aQ hk1,Option.bind_some,nH (ho _ (List.getElem_mem hk1)).aH,Option.bind_some,aQ hk,Option.bind_some,nH (ho _ (List.getElem_mem hk)).aH,Option.bind_some,bH (by omega)]
   split
   ·exact ⟨_,rfl⟩
   ·exact aL1 ho hl n (k+1) (by omega) (by omega)
  ·rw [if_neg (by simp;omega)]
   exact ⟨_,rfl⟩
def aHg (s:M.aE) (a:ByteArray):M.Key×M.Key×Bool:=(gY s a).getD (⟨0,0,⟨#[]⟩⟩,⟨0,0,⟨#[]⟩⟩,false)
theorem aCB {s:M.aE} {a:ByteArray} (hs:s.ok) (hz:M.aE.sz s≤1048576):gY s a=some (aHg s a):=by
 obtain ⟨e,hl,ho⟩:=aLK (a:=a) hs hz
 have hl2:s.Items.length≤1048576:=by simp only [M.aE.sz] at hz;omega
 obtain ⟨r,hr⟩:=aL1 (a:=a) ho (by omega) fuel 1 (by unfold fuel;omega) (by omega)
 have:gY s a=some r:=by
  unfold gY
  rw [e,Option.bind_some]
  exact hr
 unfold aHg
 rw [this]
 rfl
theorem aEa {s:M.aE} {a:ByteArray} (hs:s.ok) (hz:M.aE.sz s≤1048576):oK s a=some (aHg s a):=by
 obtain ⟨e,hl,ho⟩:=aNV (a:=a) hs hz
 obtain ⟨e2,_⟩:=aLK (a:=a) hs hz
 rw [←aCB hs hz]
 unfold oK gY
 rw [e,e2,Option.bind_some,Option.bind_some]
 exact aMo ho _ _
def aDh (l:List M.aE) (k:Nat):Bool:=(l[k]?).any mU&&(decide (k=0)||(l[k-1]?).any fun y=>(l[k]?).any fun x=>Op.bytesLess y.Name.toList x.Name.toList)
def aBf (x y:M.aD):Bool:=(x.aE.toList==y.aE.toList)&&(x.Field.toList==y.Field.toList)
def aHr (l:List M.aD) (k:Nat) (x:M.aD):Bool:=(List.range k).all fun j => !((l[j]?).any fun y=>aBf y x)
def aE9 (d:M.Database) (k:Nat):Bool:=(d.Unique[k]?).any fun u=>decide (0≤aAM (aFl u.aE) d.Stores)&&(aAL u.Field&&(!((d.Stores[(aAM (aFl u.aE) d.Stores).toNat]?).any fun s=>(aHg s u.Field).2.2)&&aHr d.Unique k u))
def nDb (d:M.Database):Bool:=(List.range d.Stores.length).all (aDh d.Stores)&&((List.range d.Unique.length).all (aE9 d)&&(aAL d.Name&&(inR d.Version 0 1000&&(decide (d.Stores.length≤4)&&decide (d.Unique.length≤4)))))
theorem aNH {l:List M.aD} {k:Nat} {x:M.aD} (hk:k≤l.length):(l.take k).any (aBf x) = !(aHr l k x):=by
 have hc : ∀y,aBf y x=aBf x y:=fun y=>by
  unfold aBf
  rw [BEq.comm (a:=y.aE.toList),BEq.comm (a:=y.Field.toList)]
 unfold aHr
 rw [Bool.eq_iff_iff]
 simp only [List.any_eq_true,Bool.not_eq_true',List.all_eq_false,List.mem_range,Bool.not_eq_true,Bool.not_eq_false',hc]
 constructor
 ·rintro ⟨y,hy,hs⟩
  obtain ⟨j,hj,rfl⟩:=List.mem_iff_getElem.1 hy
  rw [List.length_take] at hj
  refine ⟨j,by omega,?_⟩
  rw [List.getElem?_eq_getElem (by omega),Option.any_some]
  rw [List.getElem_take] at hs
  simp [hs]
 ·rintro ⟨j,hj,hs⟩
  rw [List.getElem?_eq_getElem (by omega),Option.any_some] at hs
  refine ⟨l[j],List.mem_iff_getElem.2 ⟨j,by rw [List.length_take];omega,by rw [List.getElem_take]⟩,by simpa using hs⟩
theorem aHM {l:List M.aD} {x:M.aD} (hl:l.length≤maxLen):gQ l x=some (l.any (aBf x)):=by
 have hm:=le_max hl
 have:iM l x=some (aAM (aBf x) l):=by
  unfold iM
  rw [findAll (L:=dD l x) (f:=aBf x) (A:=fun i=>some (i:Int)) (E:=some (-1)) hl (fun m k hk => ?_) (fun m => ?_),aAw]
  ·simp only [dD]
   rw [if_pos (bF hk),aQ hk,Option.bind_some,bH (by omega)]
   rfl
  ·simp only [dD]
   rw [if_neg (by rw [aT];simp)]
 unfold gQ
 rw [this,Option.bind_some,aIR]
theorem aLd {d:M.Database} {u:M.aD} {k:Nat} {K:Int→Option Bool} (hm:d.Unique.length≤maxLen) (hk:k≤d.Unique.length):fH d (k:Int) u K fuel 0=if aHr d.Unique k u=true then K (k:Int) else some false:=by
 have hm':=le_max hm
 refine aAD (L:=fH d (k:Int) u K) (g:=fun j => !((d.Unique[j]?).any fun y=>aBf y u)) (F:=some false) (E:=K (k:Int)) (Nat.le_trans hk hm) (fun n j hj => ?_) (fun n => ?_)
 ·have hj':j<d.Unique.length:=by omega
  simp only [fH]
  rw [if_pos (bF hj),aQ hj',Option.bind_some,bH (by omega),List.getElem?_eq_getElem hj',Option.any_some,aCn]
  rfl
 ·simp only [fH]
  rw [if_neg (by rw [aT];simp)]
theorem aLI {d:M.Database} (hz:M.Database.sz d≤1048576) : ∀s∈d.Stores,M.aE.sz s≤1048576:=fun s hs=>by
 have:=cH (f:=M.aE.sz) hs
 simp only [M.Database.sz] at hz
 omega
theorem aNi (a b:List UInt8):(Op.bytesLess a b||a==b) = !(Op.bytesLess b a):=by
 have h:=aBj b a
 cases h1:Op.bytesLess b a<;>cases h2:(Op.bytesLess a b||a==b)<;>simp_all
theorem aFM {d:M.Database} (hd:d.ok) (hz:M.Database.sz d≤1048576):qE d=some (nDb d):=by
 have hm:=le_max hd.Stores.1
 have hm2:=le_max hd.Unique.1
 unfold qE nDb
 rw [aAD (L:=eF d) (g:=aDh d.Stores) (F:=some false) (E:=eG d fuel 0) hd.Stores.1 (fun n k hk => ?_) (fun n => ?_),
  aAD (L:=eG d) (g:=aE9 d) (F:=some false) (E:=some (aAL d.Name&&(inR d.Version 0 1000&&(decide (d.Stores.length≤4)&&decide (d.Unique.length≤4))))) hd.Unique.1 (fun n k hk => ?_) (fun n => ?_),fX,fX]
 ·have hf:=hd.Unique.2 _ (List.getElem_mem hk)
  simp only [eG]
  rw [if_pos (bF hk),aQ hk,Option.bind_some,aFw hd,Option.bind_some,bH (by omega)]
  unfold aE9
  rw [List.getElem?_eq_getElem hk,Option.any_some,iQ hf.Field,Option.bind_some]
  by_cases h:aAM (aFl d.Unique[k].aE) d.Stores<0
  ·rw [if_pos (by simpa using h),decide_eq_false (by omega)]
   simp
  ·obtain ⟨j,e,hj⟩:=oZ h
   have hs:=hd.Stores.2 _ (List.getElem_mem hj)
   rw [if_neg (by simpa using h),e,aQ hj,Option.bind_some,aEa hs (aLI hz _ (List.getElem_mem hj)),Option.bind_some,Int.toNat_natCast,List.getElem?_eq_getElem hj,Option.any_some,aLd hd.Unique.1 (by omega)]
   have:decide ((0:Int)≤(j:Int))=true:=by simp
   rw [this]
   generalize eG d n ((k+1:Nat):Int)=Z
   cases aAL d.Unique[k].Field<;>cases (aHg d.Stores[j] d.Unique[k].Field).2.2<;>cases aHr d.Unique k d.Unique[k]<;>simp
 ·simp only [eG]
  rw [if_neg (by rw [aT];simp),iQ hd.Name,Option.bind_some,hP,Option.bind_some,fX,fX,fX]
  congr 3
  have e1:decide ((d.Stores.length:Int)≤4)=decide (d.Stores.length≤4):=by rw [Bool.eq_iff_iff];simp;omega
  have e2:decide ((d.Unique.length:Int)≤4)=decide (d.Unique.length≤4):=by rw [Bool.eq_iff_iff];simp;omega
  rw [e1,e2]
 ·have hf:=hd.Stores.2 _ (List.getElem_mem hk)
  simp only [eF]
  rw [if_pos (bF hk),aQ hk,Option.bind_some,bH (by omega),aCI hf,Option.bind_some]
  unfold aDh
  rw [List.getElem?_eq_getElem hk]
  generalize eF d n ((k+1:Nat):Int)=Z
  by_cases h0:k=0
  ·subst h0
   simp only [Option.any_some]
   cases mU d.Stores[0]<;>simp
  ·have e:i64.wrap ((k:Int)-1)=((k-1:Nat):Int):=by rw [nK (by omega) (by omega)];omega
   have hk1:k-1<d.Stores.length:=by omega
   rw [if_pos (c:=(decide ((k:Int)>0))=true) (by simp;omega),e,aQ hk1,Option.bind_some,List.getElem?_eq_getElem hk1]
   simp only [Option.any_some,h0,decide_false,Bool.false_or]
   cases mU d.Stores[k]<;>cases Op.bytesLess d.Stores[k-1].Name.toList d.Stores[k].Name.toList<;>simp
 ·simp only [eF]
  rw [if_neg (by rw [aT];simp)]
theorem aFK {d:M.Database} (hd:d.ok) (hz:M.Database.sz d≤1048576):pY d=some (nDb d):=by
 have hm:=le_max hd.Stores.1
 have hm2:=le_max hd.Unique.1
 unfold pY nDb
 rw [aAD (L:=dA d) (g:=aDh d.Stores) (F:=some false) (E:=dC d fuel 0) hd.Stores.1 (fun n k hk => ?_) (fun n => ?_),
  aAD (L:=dC d) (g:=aE9 d) (F:=some false) (E:=some true) hd.Unique.1 (fun n k hk => ?_) (fun n => ?_)]
 ·simp only [hJ hd.Name,fF,Option.bind_some]
  have e1:decide ((d.Stores.length:Int)>4) = !decide (d.Stores.length≤4):=by rw [Bool.eq_iff_iff];simp;omega
  have e2:decide ((d.Unique.length:Int)>4) = !decide (d.Unique.length≤4):=by rw [Bool.eq_iff_iff];simp;omega
  rw [e1,e2]
  cases aAL d.Name<;>cases inR d.Version 0 1000<;>cases decide (d.Stores.length≤4)<;>cases decide (d.Unique.length≤4)<;>cases (List.range d.Stores.length).all (aDh d.Stores)<;>cases (List.range d.Unique.length).all (aE9 d)<;>rfl
 ·have hf:=hd.Unique.2 _ (List.getElem_mem hk)
  simp only [dC]
  rw [if_pos (bF hk),aQ hk,Option.bind_some,aF0 hd,Option.bind_some,bH (by omega)]
  unfold aE9
  rw [List.getElem?_eq_getElem hk,Option.any_some,hJ hf.Field,Option.bind_some,aGq (by omega),Option.bind_some,Int.toNat_natCast,aHM (Nat.le_trans (by rw [List.length_take];exact Nat.min_le_right _ _) hd.Unique.1),Option.bind_some,aNH (by omega)]
  by_cases h:aAM (aFl d.Unique[k].aE) d.Stores<0
  ·rw [if_pos (by simpa using h),decide_eq_false (by omega)]
   simp
  ·obtain ⟨j,e,hj⟩:=oZ h
   have hs:=hd.Stores.2 _ (List.getElem_mem hj)
   rw [if_neg (by simpa using h),e,aQ hj,Option.bind_some,aCB hs (aLI hz _ (List.getElem_mem hj)),Option.bind_some,Int.toNat_natCast,List.getElem?_eq_getElem hj,Option.any_some]
   have:decide ((0:Int)≤(j:Int))=true:=by simp
   rw [this]
   generalize dC d n ((k+1:Nat):Int)=Z
   cases aAL d.Unique[k].Field<;>cases (aHg d.Stores[j] d.Unique[k].Field).2.2<;>cases aHr d.Unique k d.Unique[k]<;>simp
 ·simp only [dC]
  rw [if_neg (by rw [aT];simp)]
 ·have hf:=hd.Stores.2 _ (List.getElem_mem hk)
  simp only [dA]
  rw [if_pos (bF hk),aQ hk,Option.bind_some,bH (by omega),aBG hf,Option.bind_some]
  unfold aDh
  rw [List.getElem?_eq_getElem hk]
  generalize dA d n ((k+1:Nat):Int)=Z
  by_cases h0:k=0
  ·subst h0
   simp only [Option.any_some]
   cases mU d.Stores[0]<;>simp
  ·have e:i64.wrap ((k:Int)-1)=((k-1:Nat):Int):=by rw [nK (by omega) (by omega)];omega
   have hk1:k-1<d.Stores.length:=by omega
   rw [if_pos (c:=(decide ((k:Int)>0))=true) (by simp;omega),e,aQ hk1,Option.bind_some,List.getElem?_eq_getElem hk1,aNi]
   simp only [Option.any_some,h0,decide_false,Bool.false_or]
   cases mU d.Stores[k]<;>cases Op.bytesLess d.Stores[k-1].Name.toList d.Stores[k].Name.toList<;>simp
 ·simp only [dA]
  rw [if_neg (by rw [aT];simp)]
def rX (b:M.aA):Bool:=aAL b.Site&&(aAL b.Top&&(aQJ b.Registration&&((b.Registration.Site.toList==b.Site.toList)&&(aDQ b.Caches&&(nDb b.bD.Base&&(aCA b.aC&&(inR b.LastUsed 0 1000000000000&&decide (aJT b≤2500))))))))
theorem aBL {b:M.aA} (hz:M.aA.sz b≤1048576):M.Database.sz b.bD.Base≤1048576:=by
 simp only [M.aA.sz,M.bD.sz] at hz
 omega
theorem aBW {b:M.aA} (hb:b.ok) (hz:M.Database.sz b.bD.Base≤1048576):kB b=some (rX b):=by
 unfold kB rX
 simp only [iQ hb.Site,iQ hb.Top,aBP hb.Registration,aFW hb.Caches,aFM hb.bD.Base hz,aCr hb.aC,hP,aHX hb,Option.bind_some,fX]
theorem aHF {b:M.aA} (hb:b.ok) (hz:M.aA.sz b≤1048576):kB b=some (rX b):=aBW hb (aBL hz)
theorem aBY {b:M.aA} (hb:b.ok) (hz:M.Database.sz b.bD.Base≤1048576):jZ b=some (rX b):=by
 unfold jZ rX
 simp only [hJ hb.Site,hJ hb.Top,aDP hb.Registration,aFA hb.Caches,aFK hb.bD.Base hz,aCt hb.aC,fF,aHd hb,Option.bind_some,fX]
theorem aGY {b:M.aA} (hb:b.ok) (hz:M.aA.sz b≤1048576):jZ b=some (rX b):=aBY hb (aBL hz)
def aCF (x y:M.aA):Bool:=Op.bytesLess x.Site.toList y.Site.toList||((x.Site.toList==y.Site.toList)&&Op.bytesLess x.Top.toList y.Top.toList)
theorem aDx (x y:M.aA):uP x y.Site y.Top=some (aCF x y):=by
 unfold uP aCF
 cases Op.bytesLess x.Site.toList y.Site.toList<;>cases (x.Site.toList==y.Site.toList)<;>simp
theorem aBt (x y:M.aA):jS x y=some (aCF x y):=by
 unfold jS aCF
 cases Op.bytesLess x.Site.toList y.Site.toList<;>cases (x.Site.toList==y.Site.toList)<;>simp
def aC3 (l:List M.aA) (k:Nat):Bool:=(l[k]?).any rX&&(decide (k=0)||(l[k-1]?).any fun y=>(l[k]?).any fun x=>aCF y x)
def zW (s:M.aF):Bool:=(List.range s.Buckets.length).all (aC3 s.Buckets)&&decide ((s.Buckets.length:Int)≤9)
theorem aCO {s:M.aF} (hs:s.ok) (hz : ∀b∈s.Buckets,M.Database.sz b.bD.Base≤1048576):cC s=some (zW s):=by
 have hm:=le_max hs.Buckets.1
 unfold cC zW
 rw [aAD (L:=fB s) (g:=aC3 s.Buckets) (F:=some false) (E:=some (decide ((s.Buckets.length:Int)≤9))) hs.Buckets.1 (fun n k hk => ?_) (fun n => ?_),fX]
 ·have hf:=hs.Buckets.2 _ (List.getElem_mem hk)
  have hzb:M.Database.sz s.Buckets[k].bD.Base≤1048576:=hz _ (List.getElem_mem hk)
  simp only [fB]
  rw [if_pos (bF hk),aQ hk,Option.bind_some,bH (by omega),aBW hf hzb,Option.bind_some]
  unfold aC3
  rw [List.getElem?_eq_getElem hk]
  generalize fB s n ((k+1:Nat):Int)=Z
  by_cases h0:k=0
  ·subst h0
   simp only [Option.any_some]
   cases rX s.Buckets[0]<;>simp
  ·have e:i64.wrap ((k:Int)-1)=((k-1:Nat):Int):=by rw [nK (by omega) (by omega)];omega
   have hk1:k-1<s.Buckets.length:=by omega
   rw [if_pos (c:=(decide ((k:Int)>0))=true) (by simp;omega),e,aQ hk1,Option.bind_some,aDx,Option.bind_some,List.getElem?_eq_getElem hk1]
   simp only [Option.any_some,h0,decide_false,Bool.false_or]
   cases rX s.Buckets[k]<;>cases aCF s.Buckets[k-1] s.Buckets[k]<;>simp
 ·simp only [fB]
  rw [if_neg (by rw [aT];simp)]
theorem aGC {s:M.aF} (hs:s.ok) (hz:M.aF.sz s≤1048576):cC s=some (zW s):=aCO hs (fun b hb=>aBL (by
 have:=cH (f:=M.aA.sz) hb
 simp only [M.aF.sz] at hz
 omega))
theorem aCU {s:M.aF} (hs:s.ok) (hz : ∀b∈s.Buckets,M.Database.sz b.bD.Base≤1048576):cD s=some (zW s):=by
 have hm:=le_max hs.Buckets.1
 unfold cD zW
 rw [aAD (L:=eX s) (g:=aC3 s.Buckets) (F:=some false) (E:=some (decide ((s.Buckets.length:Int)≤9))) hs.Buckets.1 (fun n k hk => ?_) (fun n => ?_),fX]
 ·have hf:=hs.Buckets.2 _ (List.getElem_mem hk)
  have hzb:M.Database.sz s.Buckets[k].bD.Base≤1048576:=hz _ (List.getElem_mem hk)
  simp only [eX]
  rw [if_pos (bF hk),aQ hk,Option.bind_some,bH (by omega),aBY hf hzb,Option.bind_some]
  unfold aC3
  rw [List.getElem?_eq_getElem hk]
  generalize eX s n ((k+1:Nat):Int)=Z
  by_cases h0:k=0
  ·subst h0
   simp only [Option.any_some]
   cases rX s.Buckets[0]<;>simp
  ·have e:i64.wrap ((k:Int)-1)=((k-1:Nat):Int):=by rw [nK (by omega) (by omega)];omega
   have hk1:k-1<s.Buckets.length:=by omega
   rw [if_pos (c:=(decide ((k:Int)>0))=true) (by simp;omega),e,aQ hk1,Option.bind_some,aBt,Option.bind_some,List.getElem?_eq_getElem hk1]
   simp only [Option.any_some,h0,decide_false,Bool.false_or]
   cases rX s.Buckets[k]<;>cases aCF s.Buckets[k-1] s.Buckets[k]<;>simp
 ·simp only [eX]
  rw [if_neg (by rw [aT];simp)]
theorem aF4 {s:M.aF} (hs:s.ok) (hz:M.aF.sz s≤1048576):cD s=some (zW s):=aCU hs (fun b hb=>aBL (by
 have:=cH (f:=M.aA.sz) hb
 simp only [M.aF.sz] at hz
 omega))
end Go.Proofs.YtnhpbpnhmapeeaaGreat.gen
