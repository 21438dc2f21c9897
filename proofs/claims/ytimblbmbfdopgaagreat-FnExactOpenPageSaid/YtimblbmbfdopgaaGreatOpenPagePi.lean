/-
  Helper text. No conditions.
-/
import Derived.Test.YtimblbmbfdopgaaGreatOpenPagePh
set_option linter.unusedVariables false
set_option linter.unusedSimpArgs false
namespace Go.Proofs.YtimblbmbfdopgaaGreat.gen
open Go Go.Sh
open Go.IntKind (i64)
def nPl (f:M.Item→Bool) (l:List M.Item):Nat→Nat
 | 0=>0
 | k+1=>if (l[k]?).any f=true then nPl f l k else k+1
theorem aMi (f:M.Item→Bool) (l:List M.Item) : ∀k,nPl f l k≤k
 | 0=>by simp [nPl]
 | k+1=>by
  unfold nPl
  split
  ·exact Nat.le_succ_of_le (aMi f l k)
  ·exact Nat.le_refl _
theorem aOE {α:Type} {l:List α} {i:Int} {x:α} (h:idx l i=some x):x∈l:=List.mem_of_getElem? (aV h).2.1
theorem aJ2 {α:Type} {l:List α} {k:Nat} (h:k≤l.length):aHz l (k:Int)=some (l.take k):=by
 unfold aHz
 rw [if_pos ⟨by omega,by simpa using h⟩,qH]
def aPx (a:ByteArray) (out:List M.Item) (x:M.Item):List M.Item:=
 if (pP x.aW a).2=true then out.take (nPl (aFd a x) out out.length)++(x::out.drop (nPl (aFd a x) out out.length)) else out
def aHb (s:M.aH) (a:ByteArray):List M.Item:=s.Items.foldl (aPx a) []
theorem aMA (a:ByteArray) (out:List M.Item) (x:M.Item):(aPx a out x).length≤out.length+1:=by
 unfold aPx
 have:=aMi (aFd a x) out out.length
 split
 ·simp only [qE,qS,qJ,qT];omega
 ·omega
theorem aL6 {a:ByteArray} {out:List M.Item} {x y:M.Item} (h:y∈aPx a out x):y=x∨y∈out:=by
 unfold aPx at h
 split at h
 ·rcases List.mem_append.1 h with h | h
  ·exact .inr (List.mem_of_mem_take h)
  ·rcases List.mem_cons.1 h with h | h
   ·exact .inl h
   ·exact .inr (List.mem_of_mem_drop h)
 ·exact .inr h
theorem aN5 {a:ByteArray} {l:List M.Item} {x:M.Item} {K:Int→Option (List M.Item)} (hl:l.length≤1048576) (hx:x.ok) (ho : ∀y∈l,M.Item.ok y) :
  ∀(n k:Nat),k<n→k≤l.length→kF a l x K n (k:Int)=K ((nPl (aFd a x) l k:Nat):Int)
 | 0,k,h,_=>by omega
 | n+1,0,h,_=>by
  simp only [kF,nPl]
  rw [if_neg (by simp)]
 | n+1,k+1,h,hk=>by
  have hk':k<l.length:=by omega
  have e:i64.wrap (((k+1:Nat):Int)-1)=(k:Int):=by rw [eX (by omega) (by omega)];omega
  simp only [kF]
  rw [if_pos (by simp),e,aN hk',qA,aKB hx (ho _ (qG hk')),qA,nPl,qF hk',Option.any_some]
  cases hc:aFd a x l[k] with
  | true=>rw [if_pos rfl,if_pos rfl];exact aN5 hl hx ho n k (by omega) (by omega)
  | false=>rw [if_neg (by simp),if_neg (by simp)]
theorem aNb {a:ByteArray} {l:List M.Item} {x:M.Item} {K:Int→Option (List M.Item)} (hl:l.length≤1048576) (hx:x.ok) (ho : ∀y∈l,M.Item.ok y) :
  ∀(n k:Nat),k<n→k≤l.length→kQ a l x K n (k:Int)=K ((nPl (aFd a x) l k:Nat):Int)
 | 0,k,h,_=>by omega
 | n+1,0,h,_=>by
  simp only [kQ,nPl]
  rw [if_neg (by simp)]
 | n+1,k+1,h,hk=>by
  have hk':k<l.length:=by omega
  have e:i64.wrap (((k+1:Nat):Int)-1)=(k:Int):=by rw [eX (by omega) (by omega)];omega
  simp only [kQ]
  rw [if_pos (by simp),e,aN hk',qA,aGV hx (ho _ (qG hk')),qA,nPl,qF hk',Option.any_some]
  cases hc:aFd a x l[k] with
  | true=>rw [if_pos rfl,if_pos rfl];exact aNb hl hx ho n k (by omega) (by omega)
  | false=>rw [if_neg (by simp),if_neg (by simp)]
theorem aPj {s:M.aH} {a:ByteArray} (hs:s.ok) (hz:M.aH.sz s≤1048576):aAw s a=some (aHb s a)∧(aHb s a).length≤s.Items.length ∧ ∀y∈aHb s a,M.Item.ok y:=by
 have hl:s.Items.length≤1048576:=by simp only [M.aH.sz] at hz;omega
 unfold aAw aHb
 refine aNp (L:=iV s a) (xs:=s.Items) (step:=aPx a) (I:=fun k out=>out.length≤k ∧ ∀y∈out,M.Item.ok y) (E:=fun out=>some out) hs.Items.1 (fun out k hk hi=>⟨?_,fun y hy => ?_⟩) (fun n out k hk hi => ?_) (fun n out hi => ?_) [] ⟨Nat.le_refl _,by simp⟩
 ·have:=aMA a out s.Items[k]
  have:=hi.1
  omega
 ·rcases aL6 hy with rfl | hy
  ·exact hs.Items.2 _ (qG hk)
  ·exact hi.2 y hy
 ·have hx:=hs.Items.2 _ (qG hk)
  have hzx:M.Item.sz s.Items[k]≤1073741824:=by
   have:=cF (f:=M.Item.sz) (qG hk)
   simp only [M.aH.sz] at hz
   omega
  have hi1:=hi.1
  simp only [iV]
  rw [if_pos (bB hk),aN hk,qA,yR hx.aW,qA,bF (by omega),aAL]
  unfold aPx
  by_cases hg:(pP s.Items[k].aW a).2=true
  ·have hp:=aMi (aFd a s.Items[k]) out out.length
   rw [if_pos hg,if_pos hg,aN5 (by omega) hx hi.2 fuel out.length (by unfold fuel;omega) (Nat.le_refl _)]
   generalize nPl (aFd a s.Items[k]) out out.length=p at hp
   simp only [qH]
   rw [aJ2 hp,qA,oF (by simp only [qK,qS];omega),qA,aGc _ hzx,qA,oF (by simp only [qJ,qK,qS];omega),qA,oF (by simp only [qE,qJ,qK,qS,qT];omega),qA,qR,List.singleton_append]
  ·rw [if_neg hg,if_neg hg]
 ·simp only [iV]
  rw [if_neg (by rw [aP];simp)]
theorem aMo {s:M.aH} {a:ByteArray} (hs:s.ok) (hz:M.aH.sz s≤1048576):aAj s a=some (aHb s a)∧(aHb s a).length≤s.Items.length ∧ ∀y∈aHb s a,M.Item.ok y:=by
 have hl:s.Items.length≤1048576:=by simp only [M.aH.sz] at hz;omega
 unfold aAj aHb
 refine aNp (L:=iT s a) (xs:=s.Items) (step:=aPx a) (I:=fun k out=>out.length≤k ∧ ∀y∈out,M.Item.ok y) (E:=fun out=>some out) hs.Items.1 (fun out k hk hi=>⟨?_,fun y hy => ?_⟩) (fun n out k hk hi => ?_) (fun n out hi => ?_) [] ⟨Nat.le_refl _,by simp⟩
 ·have:=aMA a out s.Items[k]
  have:=hi.1
  omega
 ·rcases aL6 hy with rfl | hy
  ·exact hs.Items.2 _ (qG hk)
  ·exact hi.2 y hy
 ·have hx:=hs.Items.2 _ (qG hk)
  have hzx:M.Item.sz s.Items[k]≤1073741824:=by
   have:=cF (f:=M.Item.sz) (qG hk)
   simp only [M.aH.sz] at hz
   omega
  have hi1:=hi.1
  simp only [iT]
  rw [if_pos (bB hk),aN hk,qA,oG hx.aW,qA,bF (by omega),aAL]
  unfold aPx
  by_cases hg:(pP s.Items[k].aW a).2=true
  ·have hp:=aMi (aFd a s.Items[k]) out out.length
   rw [if_pos hg,if_pos hg,aNb (by omega) hx hi.2 fuel out.length (by unfold fuel;omega) (Nat.le_refl _)]
   generalize nPl (aFd a s.Items[k]) out out.length=p at hp
   simp only [qH]
   rw [aEi _ hzx,qA,aL9 ⟨by omega,by simpa using hp,by simp,by simp only [qJ,qK];omega⟩,qA,List.singleton_append]
  ·rw [if_neg hg,if_neg hg]
 ·simp only [iT]
  rw [if_neg (by rw [aP];simp)]
theorem aOo {a:ByteArray} {l:List M.Item} (ho : ∀y∈l,M.Item.ok y) : ∀(n:Nat) (v:Int),jC a l n v=eY a l n v
 | 0,v=>rfl
 | n+1,v=>by
  simp only [jC,eY,aOo ho n]
  cases h1:idx l (i64.wrap (v-1)) with
  | none=>rfl
  | some x =>
   have hx:=(ho x (aOE h1)).aW
   simp only [qA,yR hx,oG hx]
   cases h2:idx l v with
   | none=>rfl
   | some y =>
    have hy:=(ho y (aOE h2)).aW
    simp only [qA,yR hy,oG hy]
theorem aNo {a:ByteArray} {l:List M.Item} (ho : ∀y∈l,M.Item.ok y) (hl:l.length≤1048576) : ∀(n k:Nat),l.length-k<n→1≤k → ∃r,eY a l n (k:Int)=some r
 | 0,k,h,_=>by omega
 | n+1,k,h,h1=>by
  simp only [eY]
  by_cases hk:k<l.length
  ·have e:i64.wrap ((k:Int)-1)=((k-1:Nat):Int):=by rw [eX (by omega) (by omega)];omega
   have hk1:k-1<l.length:=by omega
   rw [if_pos (bB hk),e,aN hk1,qA,oG (ho _ (qG hk1)).aW,qA,aN hk,qA,oG (ho _ (qG hk)).aW,qA,bF (by omega)]
   split
   ·exact ⟨_,rfl⟩
   ·exact aNo ho hl n (k+1) (by omega) (by omega)
  ·rw [if_neg (by simp;omega)]
   exact ⟨_,rfl⟩
def aJN (s:M.aH) (a:ByteArray):M.Key×M.Key×Bool:=(hY s a).getD (⟨0,0,⟨#[]⟩⟩,⟨0,0,⟨#[]⟩⟩,false)
theorem aDR {s:M.aH} {a:ByteArray} (hs:s.ok) (hz:M.aH.sz s≤1048576):hY s a=some (aJN s a):=by
 obtain ⟨e,hl,ho⟩:=aMo (a:=a) hs hz
 have hl2:s.Items.length≤1048576:=by simp only [M.aH.sz] at hz;omega
 obtain ⟨r,hr⟩:=aNo (a:=a) ho (by omega) fuel 1 (by unfold fuel;omega) (by omega)
 have:hY s a=some r:=by
  unfold hY
  rw [e,qA]
  exact hr
 unfold aJN
 rw [this]
 rfl
theorem aF5 {s:M.aH} {a:ByteArray} (hs:s.ok) (hz:M.aH.sz s≤1048576):pJ s a=some (aJN s a):=by
 obtain ⟨e,hl,ho⟩:=aPj (a:=a) hs hz
 obtain ⟨e2,_⟩:=aMo (a:=a) hs hz
 rw [←aDR hs hz]
 unfold pJ hY
 rw [e,e2,qA,qA]
 exact aOo ho _ _
def aFB (l:List M.aH) (k:Nat):Bool:=(l[k]?).any aDl&&(decide (k=0)||(l[k-1]?).any fun y=>(l[k]?).any fun x=>Op.bytesLess y.Name.toList x.Name.toList)
def aCw (x y:M.aE):Bool:=(x.aH.toList==y.aH.toList)&&(x.Field.toList==y.Field.toList)
def aJU (l:List M.aE) (k:Nat) (x:M.aE):Bool:=(List.range k).all fun j => !((l[j]?).any fun y=>aCw y x)
def aGi (d:M.Database) (k:Nat):Bool:=(d.Unique[k]?).any fun u=>decide (0≤aAP (aHX u.aH) d.Stores)&&(rR u.Field&&(!((d.Stores[(aAP (aHX u.aH) d.Stores).toNat]?).any fun s=>(aJN s u.Field).2.2)&&aJU d.Unique k u))
def nDb (d:M.Database):Bool:=(List.range d.Stores.length).all (aFB d.Stores)&&((List.range d.Unique.length).all (aGi d)&&(rR d.Name&&(inR d.Version 0 1000&&(decide (d.Stores.length≤4)&&decide (d.Unique.length≤4)))))
theorem aPF {l:List M.aE} {k:Nat} {x:M.aE} (hk:k≤l.length):(l.take k).any (aCw x) = !(aJU l k x):=by
 have hc : ∀y,aCw y x=aCw x y:=fun y=>by
  unfold aCw
  rw [BEq.comm (a:=y.aH.toList),BEq.comm (a:=y.Field.toList)]
 unfold aJU
 rw [Bool.eq_iff_iff]
 simp only [List.any_eq_true,Bool.not_eq_true',List.all_eq_false,qQ,Bool.not_eq_true,Bool.not_eq_false',hc]
 constructor
 ·rintro ⟨y,hy,hs⟩
  obtain ⟨j,hj,rfl⟩:=List.mem_iff_getElem.1 hy
  rw [qS] at hj
  refine ⟨j,by omega,?_⟩
  rw [qF (by omega),Option.any_some]
  rw [List.getElem_take] at hs
  simp [hs]
 ·rintro ⟨j,hj,hs⟩
  rw [qF (by omega),Option.any_some] at hs
  refine ⟨l[j],List.mem_iff_getElem.2 ⟨j,by rw [qS];omega,by rw [List.getElem_take]⟩,by simpa using hs⟩
theorem aIx {l:List M.aE} {x:M.aE} (hl:l.length≤maxLen):gY l x=some (l.any (aCw x)):=by
 have hm:=le_max hl
 have:jN l x=some (aAP (aCw x) l):=by
  unfold jN
  rw [findAll (L:=dJ l x) (f:=aCw x) (A:=fun i=>some (i:Int)) (E:=some (-1)) hl (fun m k hk => ?_) (fun m => ?_),uB]
  ·simp only [dJ]
   rw [if_pos (bB hk),aN hk,qA,bF (by omega)]
   rfl
  ·simp only [dJ]
   rw [if_neg (by rw [aP];simp)]
 unfold gY
 rw [this,qA,aGC]
theorem aNL {d:M.Database} {u:M.aE} {k:Nat} {K:Int→Option Bool} (hm:d.Unique.length≤maxLen) (hk:k≤d.Unique.length):fP d (k:Int) u K fuel 0=if aJU d.Unique k u=true then K (k:Int) else some false:=by
 have hm':=le_max hm
 refine jY (L:=fP d (k:Int) u K) (g:=fun j => !((d.Unique[j]?).any fun y=>aCw y u)) (F:=some false) (E:=K (k:Int)) (Nat.le_trans hk hm) (fun n j hj => ?_) (fun n => ?_)
 ·have hj':j<d.Unique.length:=by omega
  simp only [fP]
  rw [if_pos (bB hj),aN hj',qA,bF (by omega),qF hj',Option.any_some,aAL]
  rfl
 ·simp only [fP]
  rw [if_neg (by rw [aP];simp)]
theorem aMm {d:M.Database} (hz:M.Database.sz d≤1048576) : ∀s∈d.Stores,M.aH.sz s≤1048576:=fun s hs=>by
 have:=cF (f:=M.aH.sz) hs
 simp only [M.Database.sz] at hz
 omega
theorem aMX (a b:List UInt8):(Op.bytesLess a b||a==b) = !(Op.bytesLess b a):=by
 have h:=aEF b a
 cases h1:Op.bytesLess b a<;>cases h2:(Op.bytesLess a b||a==b)<;>simp_all
theorem aG0 {d:M.Database} (hd:d.ok) (hz:M.Database.sz d≤1048576):sQ d=some (nDb d):=by
 have hm:=le_max hd.Stores.1
 have hm2:=le_max hd.Unique.1
 unfold sQ nDb
 rw [jY (L:=eM d) (g:=aFB d.Stores) (F:=some false) (E:=eN d fuel 0) hd.Stores.1 (fun n k hk => ?_) (fun n => ?_),
  jY (L:=eN d) (g:=aGi d) (F:=some false) (E:=some (rR d.Name&&(inR d.Version 0 1000&&(decide (d.Stores.length≤4)&&decide (d.Unique.length≤4))))) hd.Unique.1 (fun n k hk => ?_) (fun n => ?_),bL,bL]
 ·have hf:=hd.Unique.2 _ (qG hk)
  simp only [eN]
  rw [if_pos (bB hk),aN hk,qA,aHg hd,qA,bF (by omega)]
  unfold aGi
  rw [qF hk,Option.any_some,dP hf.Field,qA]
  by_cases h:aAP (aHX d.Unique[k].aH) d.Stores<0
  ·rw [if_pos (by simpa using h),decide_eq_false (by omega)]
   simp
  ·obtain ⟨j,e,hj⟩:=aBx h
   have hs:=hd.Stores.2 _ (qG hj)
   rw [if_neg (by simpa using h),e,aN hj,qA,aF5 hs (aMm hz _ (qG hj)),qA,qH,qF hj,Option.any_some,aNL hd.Unique.1 (by omega)]
   have:decide ((0:Int)≤(j:Int))=true:=by simp
   rw [this]
   generalize eN d n ((k+1:Nat):Int)=Z
   cases rR d.Unique[k].Field<;>cases (aJN d.Stores[j] d.Unique[k].Field).2.2<;>cases aJU d.Unique k d.Unique[k]<;>simp
 ·simp only [eN]
  rw [if_neg (by rw [aP];simp),dP hd.Name,qA,cZ,qA,bL,bL,bL]
  congr 3
  have e1:decide ((d.Stores.length:Int)≤4)=decide (d.Stores.length≤4):=by rw [Bool.eq_iff_iff];simp;omega
  have e2:decide ((d.Unique.length:Int)≤4)=decide (d.Unique.length≤4):=by rw [Bool.eq_iff_iff];simp;omega
  rw [e1,e2]
 ·have hf:=hd.Stores.2 _ (qG hk)
  simp only [eM]
  rw [if_pos (bB hk),aN hk,qA,bF (by omega),aDa hf,qA]
  unfold aFB
  rw [qF hk]
  generalize eM d n ((k+1:Nat):Int)=Z
  by_cases h0:k=0
  ·subst h0
   simp only [Option.any_some]
   cases aDl d.Stores[0]<;>simp
  ·have e:i64.wrap ((k:Int)-1)=((k-1:Nat):Int):=by rw [eX (by omega) (by omega)];omega
   have hk1:k-1<d.Stores.length:=by omega
   rw [if_pos (c:=(decide ((k:Int)>0))=true) (by simp;omega),e,aN hk1,qA,qF hk1]
   simp only [Option.any_some,h0,decide_false,Bool.false_or]
   cases aDl d.Stores[k]<;>cases Op.bytesLess d.Stores[k-1].Name.toList d.Stores[k].Name.toList<;>simp
 ·simp only [eM]
  rw [if_neg (by rw [aP];simp)]
theorem aGy {d:M.Database} (hd:d.ok) (hz:M.Database.sz d≤1048576):sJ d=some (nDb d):=by
 have hm:=le_max hd.Stores.1
 have hm2:=le_max hd.Unique.1
 unfold sJ nDb
 rw [jY (L:=eL d) (g:=aFB d.Stores) (F:=some false) (E:=eP d fuel 0) hd.Stores.1 (fun n k hk => ?_) (fun n => ?_),
  jY (L:=eP d) (g:=aGi d) (F:=some false) (E:=some true) hd.Unique.1 (fun n k hk => ?_) (fun n => ?_)]
 ·simp only [dA hd.Name,bN,qA]
  have e1:decide ((d.Stores.length:Int)>4) = !decide (d.Stores.length≤4):=by rw [Bool.eq_iff_iff];simp;omega
  have e2:decide ((d.Unique.length:Int)>4) = !decide (d.Unique.length≤4):=by rw [Bool.eq_iff_iff];simp;omega
  rw [e1,e2]
  cases rR d.Name<;>cases inR d.Version 0 1000<;>cases decide (d.Stores.length≤4)<;>cases decide (d.Unique.length≤4)<;>cases (List.range d.Stores.length).all (aFB d.Stores)<;>cases (List.range d.Unique.length).all (aGi d)<;>rfl
 ·have hf:=hd.Unique.2 _ (qG hk)
  simp only [eP]
  rw [if_pos (bB hk),aN hk,qA,aHl hd,qA,bF (by omega)]
  unfold aGi
  rw [qF hk,Option.any_some,dA hf.Field,qA,aJ2 (by omega),qA,qH,aIx (Nat.le_trans (by rw [qS];exact Nat.min_le_right _ _) hd.Unique.1),qA,aPF (by omega)]
  by_cases h:aAP (aHX d.Unique[k].aH) d.Stores<0
  ·rw [if_pos (by simpa using h),decide_eq_false (by omega)]
   simp
  ·obtain ⟨j,e,hj⟩:=aBx h
   have hs:=hd.Stores.2 _ (qG hj)
   rw [if_neg (by simpa using h),e,aN hj,qA,aDR hs (aMm hz _ (qG hj)),qA,qH,qF hj,Option.any_some]
   have:decide ((0:Int)≤(j:Int))=true:=by simp
   rw [this]
   generalize eP d n ((k+1:Nat):Int)=Z
   cases rR d.Unique[k].Field<;>cases (aJN d.Stores[j] d.Unique[k].Field).2.2<;>cases aJU d.Unique k d.Unique[k]<;>simp
 ·simp only [eP]
  rw [if_neg (by rw [aP];simp)]
 ·have hf:=hd.Stores.2 _ (qG hk)
  simp only [eL]
  rw [if_pos (bB hk),aN hk,qA,bF (by omega),aDV hf,qA]
  unfold aFB
  rw [qF hk]
  generalize eL d n ((k+1:Nat):Int)=Z
  by_cases h0:k=0
  ·subst h0
   simp only [Option.any_some]
   cases aDl d.Stores[0]<;>simp
  ·have e:i64.wrap ((k:Int)-1)=((k-1:Nat):Int):=by rw [eX (by omega) (by omega)];omega
   have hk1:k-1<d.Stores.length:=by omega
   rw [if_pos (c:=(decide ((k:Int)>0))=true) (by simp;omega),e,aN hk1,qA,qF hk1,aMX]
   simp only [Option.any_some,h0,decide_false,Bool.false_or]
   cases aDl d.Stores[k]<;>cases Op.bytesLess d.Stores[k-1].Name.toList d.Stores[k].Name.toList<;>simp
 ·simp only [eL]
  rw [if_neg (by rw [aP];simp)]
def aBK (b:M.aC):Bool:=rR b.Site&&(rR b.Top&&(aR6 b.Registration&&((b.Registration.Site.toList==b.Site.toList)&&(aEv b.Caches&&(nDb b.bC.Base&&(aGH b.aD&&(inR b.LastUsed 0 1000000000000&&decide (aKx b≤2500))))))))
theorem aDn {b:M.aC} (hz:M.aC.sz b≤1048576):M.Database.sz b.bC.Base≤1048576:=by
 simp only [M.aC.sz,M.bC.sz] at hz
 omega
theorem aEP {b:M.aC} (hb:b.ok) (hz:M.Database.sz b.bC.Base≤1048576):tN b=some (aBK b):=by
 unfold tN aBK
 simp only [dP hb.Site,dP hb.Top,aCb hb.Registration,aHF hb.Caches,aG0 hb.bC.Base hz,aHd hb.aD,cZ,aI7 hb,qA,bL]
theorem aER {b:M.aC} (hb:b.ok) (hz:M.Database.sz b.bC.Base≤1048576):tL b=some (aBK b):=by
 unfold tL aBK
 simp only [dA hb.Site,dA hb.Top,aEu hb.Registration,aGj hb.Caches,aGy hb.bC.Base hz,aHi hb.aD,bN,aJI hb,qA,bL]
def aDW (x y:M.aC):Bool:=Op.bytesLess x.Site.toList y.Site.toList||((x.Site.toList==y.Site.toList)&&Op.bytesLess x.Top.toList y.Top.toList)
theorem aFP (x y:M.aC):xS x y.Site y.Top=some (aDW x y):=by
 unfold xS aDW
 cases Op.bytesLess x.Site.toList y.Site.toList<;>cases (x.Site.toList==y.Site.toList)<;>simp
theorem aC8 (x y:M.aC):kU x y=some (aDW x y):=by
 unfold kU aDW
 cases Op.bytesLess x.Site.toList y.Site.toList<;>cases (x.Site.toList==y.Site.toList)<;>simp
def aDd (l:List M.aC) (k:Nat):Bool:=(l[k]?).any aBK&&(decide (k=0)||(l[k-1]?).any fun y=>(l[k]?).any fun x=>aDW y x)
def kD (s:M.aA):Bool:=(List.range s.Buckets.length).all (aDd s.Buckets)&&decide ((s.Buckets.length:Int)≤9)
theorem aCL {s:M.aA} (hs:s.ok) (hz : ∀b∈s.Buckets,M.Database.sz b.bC.Base≤1048576):bW s=some (kD s):=by
 have hm:=le_max hs.Buckets.1
 unfold bW kD
 rw [jY (L:=fL s) (g:=aDd s.Buckets) (F:=some false) (E:=some (decide ((s.Buckets.length:Int)≤9))) hs.Buckets.1 (fun n k hk => ?_) (fun n => ?_),bL]
 ·have hf:=hs.Buckets.2 _ (qG hk)
  have hzb:M.Database.sz s.Buckets[k].bC.Base≤1048576:=hz _ (qG hk)
  simp only [fL]
  rw [if_pos (bB hk),aN hk,qA,bF (by omega),aEP hf hzb,qA]
  unfold aDd
  rw [qF hk]
  generalize fL s n ((k+1:Nat):Int)=Z
  by_cases h0:k=0
  ·subst h0
   simp only [Option.any_some]
   cases aBK s.Buckets[0]<;>simp
  ·have e:i64.wrap ((k:Int)-1)=((k-1:Nat):Int):=by rw [eX (by omega) (by omega)];omega
   have hk1:k-1<s.Buckets.length:=by omega
   rw [if_pos (c:=(decide ((k:Int)>0))=true) (by simp;omega),e,aN hk1,qA,aFP,qA,qF hk1]
   simp only [Option.any_some,h0,decide_false,Bool.false_or]
   cases aBK s.Buckets[k]<;>cases aDW s.Buckets[k-1] s.Buckets[k]<;>simp
 ·simp only [fL]
  rw [if_neg (by rw [aP];simp)]
theorem aH1 {s:M.aA} (hs:s.ok) (hz:M.aA.sz s≤1048576):bW s=some (kD s):=aCL hs (fun b hb=>aDn (by
 have:=cF (f:=M.aC.sz) hb
 simp only [M.aA.sz] at hz
 omega))
theorem aCN {s:M.aA} (hs:s.ok) (hz : ∀b∈s.Buckets,M.Database.sz b.bC.Base≤1048576):bX s=some (kD s):=by
 have hm:=le_max hs.Buckets.1
 unfold bX kD
 rw [jY (L:=fH s) (g:=aDd s.Buckets) (F:=some false) (E:=some (decide ((s.Buckets.length:Int)≤9))) hs.Buckets.1 (fun n k hk => ?_) (fun n => ?_),bL]
 ·have hf:=hs.Buckets.2 _ (qG hk)
  have hzb:M.Database.sz s.Buckets[k].bC.Base≤1048576:=hz _ (qG hk)
  simp only [fH]
  rw [if_pos (bB hk),aN hk,qA,bF (by omega),aER hf hzb,qA]
  unfold aDd
  rw [qF hk]
  generalize fH s n ((k+1:Nat):Int)=Z
  by_cases h0:k=0
  ·subst h0
   simp only [Option.any_some]
   cases aBK s.Buckets[0]<;>simp
  ·have e:i64.wrap ((k:Int)-1)=((k-1:Nat):Int):=by rw [eX (by omega) (by omega)];omega
   have hk1:k-1<s.Buckets.length:=by omega
   rw [if_pos (c:=(decide ((k:Int)>0))=true) (by simp;omega),e,aN hk1,qA,aC8,qA,qF hk1]
   simp only [Option.any_some,h0,decide_false,Bool.false_or]
   cases aBK s.Buckets[k]<;>cases aDW s.Buckets[k-1] s.Buckets[k]<;>simp
 ·simp only [fH]
  rw [if_neg (by rw [aP];simp)]
theorem aHp {s:M.aA} (hs:s.ok) (hz:M.aA.sz s≤1048576):bX s=some (kD s):=aCN hs (fun b hb=>aDn (by
 have:=cF (f:=M.aC.sz) hb
 simp only [M.aA.sz] at hz
 omega))
end Go.Proofs.YtimblbmbfdopgaaGreat.gen
