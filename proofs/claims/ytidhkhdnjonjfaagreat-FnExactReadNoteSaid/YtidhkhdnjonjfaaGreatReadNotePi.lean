/-
  Helper text. No conditions.
-/
import Derived.Test.YtidhkhdnjonjfaaGreatReadNotePh
set_option linter.unusedVariables false
set_option linter.unusedSimpArgs false
namespace Go.Proofs.YtidhkhdnjonjfaaGreat.gen
open Go Go.Sh
open Go.IntKind (i64)
def nPl (f:M.Item→Bool) (l:List M.Item):Nat→Nat
 | 0=>0
 | k+1=>if (l[k]?).any f=true then nPl f l k else k+1
theorem aHk (f:M.Item→Bool) (l:List M.Item) : ∀k,nPl f l k≤k
 | 0=>by simp [nPl]
 | k+1=>by
  unfold nPl
  split
  ·exact Nat.le_succ_of_le (aHk f l k)
  ·exact Nat.le_refl _
theorem aIu {α:Type} {l:List α} {i:Int} {x:α} (h:idx l i=some x):x∈l:=List.mem_of_getElem? (mZ h).2.1
theorem aEa {α:Type} {l:List α} {k:Nat} (h:k≤l.length):aAp l (k:Int)=some (l.take k):=by
 unfold aAp
 rw [if_pos ⟨by omega,by simpa using h⟩,qH]
def aKN (a:ByteArray) (out:List M.Item) (x:M.Item):List M.Item:=
 if (cA x.aA a).2=true then out.take (nPl (aBL a x) out out.length)++(x::out.drop (nPl (aBL a x) out out.length)) else out
def aCW (s:M.aC) (a:ByteArray):List M.Item:=s.Items.foldl (aKN a) []
theorem aHB (a:ByteArray) (out:List M.Item) (x:M.Item):(aKN a out x).length≤out.length+1:=by
 unfold aKN
 have:=aHk (aBL a x) out out.length
 split
 ·simp only [qE,qS,qJ,qT];omega
 ·omega
theorem aG8 {a:ByteArray} {out:List M.Item} {x y:M.Item} (h:y∈aKN a out x):y=x∨y∈out:=by
 unfold aKN at h
 split at h
 ·rcases List.mem_append.1 h with h | h
  ·exact .inr (List.mem_of_mem_take h)
  ·rcases List.mem_cons.1 h with h | h
   ·exact .inl h
   ·exact .inr (List.mem_of_mem_drop h)
 ·exact .inr h
theorem aIo {a:ByteArray} {l:List M.Item} {x:M.Item} {K:Int→Option (List M.Item)} (hl:l.length≤1048576) (hx:x.ok) (ho : ∀y∈l,M.Item.ok y) :
  ∀(n k:Nat),k<n→k≤l.length→fZ a l x K n (k:Int)=K ((nPl (aBL a x) l k:Nat):Int)
 | 0,k,h,_=>by omega
 | n+1,0,h,_=>by
  simp only [fZ,nPl]
  rw [if_neg (by simp)]
 | n+1,k+1,h,hk=>by
  have hk':k<l.length:=by omega
  have e:i64.wrap (((k+1:Nat):Int)-1)=(k:Int):=by rw [bS (by omega) (by omega)];omega
  simp only [fZ]
  rw [if_pos (by simp),e,aF hk',qA,aEr hx (ho _ (qG hk')),qA,nPl,qF hk',Option.any_some]
  cases hc:aBL a x l[k] with
  | true=>rw [if_pos rfl,if_pos rfl];exact aIo hl hx ho n k (by omega) (by omega)
  | false=>rw [if_neg (by simp),if_neg (by simp)]
theorem aIM {a:ByteArray} {l:List M.Item} {x:M.Item} {K:Int→Option (List M.Item)} (hl:l.length≤1048576) (hx:x.ok) (ho : ∀y∈l,M.Item.ok y) :
  ∀(n k:Nat),k<n→k≤l.length→gN a l x K n (k:Int)=K ((nPl (aBL a x) l k:Nat):Int)
 | 0,k,h,_=>by omega
 | n+1,0,h,_=>by
  simp only [gN,nPl]
  rw [if_neg (by simp)]
 | n+1,k+1,h,hk=>by
  have hk':k<l.length:=by omega
  have e:i64.wrap (((k+1:Nat):Int)-1)=(k:Int):=by rw [bS (by omega) (by omega)];omega
  simp only [gN]
  rw [if_pos (by simp),e,aF hk',qA,aBu hx (ho _ (qG hk')),qA,nPl,qF hk',Option.any_some]
  cases hc:aBL a x l[k] with
  | true=>rw [if_pos rfl,if_pos rfl];exact aIM hl hx ho n k (by omega) (by omega)
  | false=>rw [if_neg (by simp),if_neg (by simp)]
theorem aKA {s:M.aC} {a:ByteArray} (hs:s.ok) (hz:M.aC.sz s≤1048576):uB s a=some (aCW s a)∧(aCW s a).length≤s.Items.length ∧ ∀y∈aCW s a,M.Item.ok y:=by
 have hl:s.Items.length≤1048576:=by simp only [M.aC.sz] at hz;omega
 unfold uB aCW
 refine aIb (L:=fA s a) (xs:=s.Items) (step:=aKN a) (I:=fun k out=>out.length≤k ∧ ∀y∈out,M.Item.ok y) (E:=fun out=>some out) hs.Items.1 (fun out k hk hi=>⟨?_,fun y hy => ?_⟩) (fun n out k hk hi => ?_) (fun n out hi => ?_) [] ⟨Nat.le_refl _,by simp⟩
 ·have:=aHB a out s.Items[k]
  have:=hi.1
  omega
 ·rcases aG8 hy with rfl | hy
  ·exact hs.Items.2 _ (qG hk)
  ·exact hi.2 y hy
 ·have hx:=hs.Items.2 _ (qG hk)
  have hzx:M.Item.sz s.Items[k]≤1073741824:=by
   have:=eP (f:=M.Item.sz) (qG hk)
   simp only [M.aC.sz] at hz
   omega
  have hi1:=hi.1
  simp only [fA]
  rw [if_pos (bD hk),aF hk,qA,gV hx.aA,qA,bR (by omega),aCp]
  unfold aKN
  by_cases hg:(cA s.Items[k].aA a).2=true
  ·have hp:=aHk (aBL a s.Items[k]) out out.length
   rw [if_pos hg,if_pos hg,aIo (by omega) hx hi.2 fuel out.length (by unfold fuel;omega) (Nat.le_refl _)]
   generalize nPl (aBL a s.Items[k]) out out.length=p at hp
   simp only [qH]
   rw [aEa hp,qA,iH (by simp only [qK,qS];omega),qA,aAQ _ hzx,qA,iH (by simp only [qJ,qK,qS];omega),qA,iH (by simp only [qE,qJ,qK,qS,qT];omega),qA,qR,List.singleton_append]
  ·rw [if_neg hg,if_neg hg]
 ·simp only [fA]
  rw [if_neg (by rw [aJ];simp)]
theorem aHm {s:M.aC} {a:ByteArray} (hs:s.ok) (hz:M.aC.sz s≤1048576):tO s a=some (aCW s a)∧(aCW s a).length≤s.Items.length ∧ ∀y∈aCW s a,M.Item.ok y:=by
 have hl:s.Items.length≤1048576:=by simp only [M.aC.sz] at hz;omega
 unfold tO aCW
 refine aIb (L:=eY s a) (xs:=s.Items) (step:=aKN a) (I:=fun k out=>out.length≤k ∧ ∀y∈out,M.Item.ok y) (E:=fun out=>some out) hs.Items.1 (fun out k hk hi=>⟨?_,fun y hy => ?_⟩) (fun n out k hk hi => ?_) (fun n out hi => ?_) [] ⟨Nat.le_refl _,by simp⟩
 ·have:=aHB a out s.Items[k]
  have:=hi.1
  omega
 ·rcases aG8 hy with rfl | hy
  ·exact hs.Items.2 _ (qG hk)
  ·exact hi.2 y hy
 ·have hx:=hs.Items.2 _ (qG hk)
  have hzx:M.Item.sz s.Items[k]≤1073741824:=by
   have:=eP (f:=M.Item.sz) (qG hk)
   simp only [M.aC.sz] at hz
   omega
  have hi1:=hi.1
  simp only [eY]
  rw [if_pos (bD hk),aF hk,qA,eN hx.aA,qA,bR (by omega),aCp]
  unfold aKN
  by_cases hg:(cA s.Items[k].aA a).2=true
  ·have hp:=aHk (aBL a s.Items[k]) out out.length
   rw [if_pos hg,if_pos hg,aIM (by omega) hx hi.2 fuel out.length (by unfold fuel;omega) (Nat.le_refl _)]
   generalize nPl (aBL a s.Items[k]) out out.length=p at hp
   simp only [qH]
   rw [aAi _ hzx,qA,aEM ⟨by omega,by simpa using hp,by simp,by simp only [qJ,qK];omega⟩,qA,List.singleton_append]
  ·rw [if_neg hg,if_neg hg]
 ·simp only [eY]
  rw [if_neg (by rw [aJ];simp)]
theorem aJT {a:ByteArray} {l:List M.Item} (ho : ∀y∈l,M.Item.ok y) : ∀(n:Nat) (v:Int),fC a l n v=dB a l n v
 | 0,v=>rfl
 | n+1,v=>by
  simp only [fC,dB,aJT ho n]
  cases h1:idx l (i64.wrap (v-1)) with
  | none=>rfl
  | some x =>
   have hx:=(ho x (aIu h1)).aA
   simp only [qA,gV hx,eN hx]
   cases h2:idx l v with
   | none=>rfl
   | some y =>
    have hy:=(ho y (aIu h2)).aA
    simp only [qA,gV hy,eN hy]
theorem aIa {a:ByteArray} {l:List M.Item} (ho : ∀y∈l,M.Item.ok y) (hl:l.length≤1048576) : ∀(n k:Nat),l.length-k<n→1≤k → ∃r,dB a l n (k:Int)=some r
 | 0,k,h,_=>by omega
 | n+1,k,h,h1=>by
  simp only [dB]
  by_cases hk:k<l.length
  ·have e:i64.wrap ((k:Int)-1)=((k-1:Nat):Int):=by rw [bS (by omega) (by omega)];omega
   have hk1:k-1<l.length:=by omega
   rw [if_pos (bD hk),e,aF hk1,qA,eN (ho _ (qG hk1)).aA,qA,aF hk,qA,eN (ho _ (qG hk)).aA,qA,bR (by omega)]
   split
   ·exact ⟨_,rfl⟩
   ·exact aIa ho hl n (k+1) (by omega) (by omega)
  ·rw [if_neg (by simp;omega)]
   exact ⟨_,rfl⟩
def aDv (s:M.aC) (a:ByteArray):M.Key×M.Key×Bool:=(eI s a).getD (⟨0,0,⟨#[]⟩⟩,⟨0,0,⟨#[]⟩⟩,false)
theorem zJ {s:M.aC} {a:ByteArray} (hs:s.ok) (hz:M.aC.sz s≤1048576):eI s a=some (aDv s a):=by
 obtain ⟨e,hl,ho⟩:=aHm (a:=a) hs hz
 have hl2:s.Items.length≤1048576:=by simp only [M.aC.sz] at hz;omega
 obtain ⟨r,hr⟩:=aIa (a:=a) ho (by omega) fuel 1 (by unfold fuel;omega) (by omega)
 have:eI s a=some r:=by
  unfold eI
  rw [e,qA]
  exact hr
 unfold aDv
 rw [this]
 rfl
theorem aBc {s:M.aC} {a:ByteArray} (hs:s.ok) (hz:M.aC.sz s≤1048576):kP s a=some (aDv s a):=by
 obtain ⟨e,hl,ho⟩:=aKA (a:=a) hs hz
 obtain ⟨e2,_⟩:=aHm (a:=a) hs hz
 rw [←zJ hs hz]
 unfold kP eI
 rw [e,e2,qA,qA]
 exact aJT ho _ _
def aAP (l:List M.aC) (k:Nat):Bool:=(l[k]?).any fX&&(decide (k=0)||(l[k-1]?).any fun y=>(l[k]?).any fun x=>Op.bytesLess y.Name.toList x.Name.toList)
def yG (x y:M.aE):Bool:=(x.aC.toList==y.aC.toList)&&(x.Field.toList==y.Field.toList)
def aD2 (l:List M.aE) (k:Nat) (x:M.aE):Bool:=(List.range k).all fun j => !((l[j]?).any fun y=>yG y x)
def aAY (d:M.Database) (k:Nat):Bool:=(d.Unique[k]?).any fun u=>decide (0≤nO (sV u.aC) d.Stores)&&(tN u.Field&&(!((d.Stores[(nO (sV u.aC) d.Stores).toNat]?).any fun s=>(aDv s u.Field).2.2)&&aD2 d.Unique k u))
def nDb (d:M.Database):Bool:=(List.range d.Stores.length).all (aAP d.Stores)&&((List.range d.Unique.length).all (aAY d)&&(tN d.Name&&(inR d.Version 0 1000&&(decide (d.Stores.length≤4)&&decide (d.Unique.length≤4)))))
theorem aJn {l:List M.aE} {k:Nat} {x:M.aE} (hk:k≤l.length):(l.take k).any (yG x) = !(aD2 l k x):=by
 have hc : ∀y,yG y x=yG x y:=fun y=>by
  unfold yG
  rw [BEq.comm (a:=y.aC.toList),BEq.comm (a:=y.Field.toList)]
 unfold aD2
 rw [Bool.eq_iff_iff]
 simp only [List.any_eq_true,Bool.not_eq_true',List.all_eq_false,qQ,Bool.not_eq_true,Bool.not_eq_false',hc]
 constructor
 ·rintro ⟨y,hy,hs⟩
  obtain ⟨j,hj,rfl⟩:=List.mem_iff_getElem.1 hy
  rw [qS] at hj
  refine ⟨j,by omega,?_⟩
  rw [qF (by omega),Option.any_some]
  rw [List.getElem_take] at hs
  simp [hs]
 ·rintro ⟨j,hj,hs⟩
  rw [qF (by omega),Option.any_some] at hs
  refine ⟨l[j],List.mem_iff_getElem.2 ⟨j,by rw [qS];omega,by rw [List.getElem_take]⟩,by simpa using hs⟩
theorem aDi {l:List M.aE} {x:M.aE} (hl:l.length≤maxLen):eF l x=some (l.any (yG x)):=by
 have hm:=le_max hl
 have:fH l x=some (nO (yG x) l):=by
  unfold fH
  rw [findAll (L:=cC l x) (f:=yG x) (A:=fun i=>some (i:Int)) (E:=some (-1)) hl (fun m k hk => ?_) (fun m => ?_),xV]
  ·simp only [cC]
   rw [if_pos (bD hk),aF hk,qA,bR (by omega)]
   rfl
  ·simp only [cC]
   rw [if_neg (by rw [aJ];simp)]
 unfold eF
 rw [this,qA,aEi]
theorem aIB {d:M.Database} {u:M.aE} {k:Nat} {K:Int→Option Bool} (hm:d.Unique.length≤maxLen) (hk:k≤d.Unique.length):dJ d (k:Int) u K fuel 0=if aD2 d.Unique k u=true then K (k:Int) else some false:=by
 have hm':=le_max hm
 refine aA7 (L:=dJ d (k:Int) u K) (g:=fun j => !((d.Unique[j]?).any fun y=>yG y u)) (F:=some false) (E:=K (k:Int)) (Nat.le_trans hk hm) (fun n j hj => ?_) (fun n => ?_)
 ·have hj':j<d.Unique.length:=by omega
  simp only [dJ]
  rw [if_pos (bD hj),aF hj',qA,bR (by omega),qF hj',Option.any_some,aCp]
  rfl
 ·simp only [dJ]
  rw [if_neg (by rw [aJ];simp)]
theorem aFC {d:M.Database} (hz:M.Database.sz d≤1048576) : ∀s∈d.Stores,M.aC.sz s≤1048576:=fun s hs=>by
 have:=eP (f:=M.aC.sz) hs
 simp only [M.Database.sz] at hz
 omega
theorem aKM (a b:List UInt8):(Op.bytesLess a b||a==b) = !(Op.bytesLess b a):=by
 have h:=sR b a
 cases h1:Op.bytesLess b a<;>cases h2:(Op.bytesLess a b||a==b)<;>simp_all
theorem xF {d:M.Database} (hd:d.ok) (hz:M.Database.sz d≤1048576):gD d=some (nDb d):=by
 have hm:=le_max hd.Stores.1
 have hm2:=le_max hd.Unique.1
 unfold gD nDb
 rw [aA7 (L:=cT d) (g:=aAP d.Stores) (F:=some false) (E:=cU d fuel 0) hd.Stores.1 (fun n k hk => ?_) (fun n => ?_),
  aA7 (L:=cU d) (g:=aAY d) (F:=some false) (E:=some (tN d.Name&&(inR d.Version 0 1000&&(decide (d.Stores.length≤4)&&decide (d.Unique.length≤4))))) hd.Unique.1 (fun n k hk => ?_) (fun n => ?_),lM,lM]
 ·have hf:=hd.Unique.2 _ (qG hk)
  simp only [cU]
  rw [if_pos (bD hk),aF hk,qA,xY hd,qA,bR (by omega)]
  unfold aAY
  rw [qF hk,Option.any_some,sP hf.Field,qA]
  by_cases h:nO (sV d.Unique[k].aC) d.Stores<0
  ·rw [if_pos (by simpa using h),decide_eq_false (by omega)]
   simp
  ·obtain ⟨j,e,hj⟩:=fV h
   have hs:=hd.Stores.2 _ (qG hj)
   rw [if_neg (by simpa using h),e,aF hj,qA,aBc hs (aFC hz _ (qG hj)),qA,qH,qF hj,Option.any_some,aIB hd.Unique.1 (by omega)]
   have:decide ((0:Int)≤(j:Int))=true:=by simp
   rw [this]
   generalize cU d n ((k+1:Nat):Int)=Z
   cases tN d.Unique[k].Field<;>cases (aDv d.Stores[j] d.Unique[k].Field).2.2<;>cases aD2 d.Unique k d.Unique[k]<;>simp
 ·simp only [cU]
  rw [if_neg (by rw [aJ];simp),sP hd.Name,qA,pU,qA,lM,lM,lM]
  congr 3
  have e1:decide ((d.Stores.length:Int)≤4)=decide (d.Stores.length≤4):=by rw [Bool.eq_iff_iff];simp;omega
  have e2:decide ((d.Unique.length:Int)≤4)=decide (d.Unique.length≤4):=by rw [Bool.eq_iff_iff];simp;omega
  rw [e1,e2]
 ·have hf:=hd.Stores.2 _ (qG hk)
  simp only [cT]
  rw [if_pos (bD hk),aF hk,qA,bR (by omega),zK hf,qA]
  unfold aAP
  rw [qF hk]
  generalize cT d n ((k+1:Nat):Int)=Z
  by_cases h0:k=0
  ·subst h0
   simp only [Option.any_some]
   cases fX d.Stores[0]<;>simp
  ·have e:i64.wrap ((k:Int)-1)=((k-1:Nat):Int):=by rw [bS (by omega) (by omega)];omega
   have hk1:k-1<d.Stores.length:=by omega
   rw [if_pos (c:=(decide ((k:Int)>0))=true) (by simp;omega),e,aF hk1,qA,qF hk1]
   simp only [Option.any_some,h0,decide_false,Bool.false_or]
   cases fX d.Stores[k]<;>cases Op.bytesLess d.Stores[k-1].Name.toList d.Stores[k].Name.toList<;>simp
 ·simp only [cT]
  rw [if_neg (by rw [aJ];simp)]
theorem xE {d:M.Database} (hd:d.ok) (hz:M.Database.sz d≤1048576):gA d=some (nDb d):=by
 have hm:=le_max hd.Stores.1
 have hm2:=le_max hd.Unique.1
 unfold gA nDb
 rw [aA7 (L:=cR d) (g:=aAP d.Stores) (F:=some false) (E:=cV d fuel 0) hd.Stores.1 (fun n k hk => ?_) (fun n => ?_),
  aA7 (L:=cV d) (g:=aAY d) (F:=some false) (E:=some true) hd.Unique.1 (fun n k hk => ?_) (fun n => ?_)]
 ·simp only [sI hd.Name,lJ,qA]
  have e1:decide ((d.Stores.length:Int)>4) = !decide (d.Stores.length≤4):=by rw [Bool.eq_iff_iff];simp;omega
  have e2:decide ((d.Unique.length:Int)>4) = !decide (d.Unique.length≤4):=by rw [Bool.eq_iff_iff];simp;omega
  rw [e1,e2]
  cases tN d.Name<;>cases inR d.Version 0 1000<;>cases decide (d.Stores.length≤4)<;>cases decide (d.Unique.length≤4)<;>cases (List.range d.Stores.length).all (aAP d.Stores)<;>cases (List.range d.Unique.length).all (aAY d)<;>rfl
 ·have hf:=hd.Unique.2 _ (qG hk)
  simp only [cV]
  rw [if_pos (bD hk),aF hk,qA,xZ hd,qA,bR (by omega)]
  unfold aAY
  rw [qF hk,Option.any_some,sI hf.Field,qA,aEa (by omega),qA,qH,aDi (Nat.le_trans (by rw [qS];exact Nat.min_le_right _ _) hd.Unique.1),qA,aJn (by omega)]
  by_cases h:nO (sV d.Unique[k].aC) d.Stores<0
  ·rw [if_pos (by simpa using h),decide_eq_false (by omega)]
   simp
  ·obtain ⟨j,e,hj⟩:=fV h
   have hs:=hd.Stores.2 _ (qG hj)
   rw [if_neg (by simpa using h),e,aF hj,qA,zJ hs (aFC hz _ (qG hj)),qA,qH,qF hj,Option.any_some]
   have:decide ((0:Int)≤(j:Int))=true:=by simp
   rw [this]
   generalize cV d n ((k+1:Nat):Int)=Z
   cases tN d.Unique[k].Field<;>cases (aDv d.Stores[j] d.Unique[k].Field).2.2<;>cases aD2 d.Unique k d.Unique[k]<;>simp
 ·simp only [cV]
  rw [if_neg (by rw [aJ];simp)]
 ·have hf:=hd.Stores.2 _ (qG hk)
  simp only [cR]
  rw [if_pos (bD hk),aF hk,qA,bR (by omega),xL hf,qA]
  unfold aAP
  rw [qF hk]
  generalize cR d n ((k+1:Nat):Int)=Z
  by_cases h0:k=0
  ·subst h0
   simp only [Option.any_some]
   cases fX d.Stores[0]<;>simp
  ·have e:i64.wrap ((k:Int)-1)=((k-1:Nat):Int):=by rw [bS (by omega) (by omega)];omega
   have hk1:k-1<d.Stores.length:=by omega
   rw [if_pos (c:=(decide ((k:Int)>0))=true) (by simp;omega),e,aF hk1,qA,qF hk1,aKM]
   simp only [Option.any_some,h0,decide_false,Bool.false_or]
   cases fX d.Stores[k]<;>cases Op.bytesLess d.Stores[k-1].Name.toList d.Stores[k].Name.toList<;>simp
 ·simp only [cR]
  rw [if_neg (by rw [aJ];simp)]
end Go.Proofs.YtidhkhdnjonjfaaGreat.gen
