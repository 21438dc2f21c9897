/-
  Helper text. No conditions.
-/
import Derived.Test.YtidhkhdnjonjfaaGreatBucketsPd1
set_option linter.unusedVariables false
set_option linter.unusedSimpArgs false
namespace Go.Proofs.YtidhkhdnjonjfaaGreat.gen
open Go Go.Sh
open Go.IntKind (i64)
theorem zF {α:Type} {f:α→Bool} {l:List α} {k:Nat} (h:rD f l=(k:Int)) : ∃hk:k<l.length,f l[k]=true:=by
 unfold rD at h
 cases e:l.findIdx? f with
 | none=>rw [e] at h;simp only at h;omega
 | some i =>
  rw [e] at h
  simp only at h
  have:i=k:=by omega
  subst this
  obtain ⟨h1,h2,_⟩:=List.findIdx?_eq_some_iff_getElem.1 e
  exact ⟨h1,h2⟩
theorem aFS {α:Type} {f:α→Bool} {l:List α} (h:rD f l<0) : ∀x∈l,f x=false:=by
 have h2:=aGA f l
 rw [decide_eq_false (by omega)] at h2
 intro x hx
 cases hf:f x with
 | false=>rfl
 | true =>
  have:l.any f=true:=List.any_eq_true.2 ⟨x,hx,hf⟩
  rw [←h2] at this
  cases this
theorem aK4 {r:M.aC} (h:bL r=true) (k:Nat) (hk:k+1<r.Fields.length):Op.bytesLess r.Fields[k].Name.toList r.Fields[k+1].Name.toList=true:=by
 unfold bL at h
 rw [qM,qQ] at h
 have:=h.1 (k+1) (List.mem_range.2 hk)
 unfold zM at this
 rw [qF hk,Nat.add_sub_cancel,qF (show k<r.Fields.length by omega)] at this
 simp only [Option.any_some,qM] at this
 simpa using this.2
theorem aNq {r:M.aC} (h:bL r=true) : ∀(d i:Nat) (hj:i+d+1<r.Fields.length),Op.bytesLess r.Fields[i].Name.toList r.Fields[i+d+1].Name.toList=true
 | 0,i,hj=>aK4 h i hj
 | d+1,i,hj=>aFg (aNq h d i (by omega)) (aK4 h (i+d+1) hj)
def aI5 (a:ByteArray) (x:M.Field):Bool:=Op.bytesLess x.Name.toList a.toList
def aHO (l:List M.Field) (a:ByteArray):Nat:=(l.takeWhile (aI5 a)).length
theorem aMz (l:List M.Field) (a:ByteArray):aHO l a≤l.length:=(List.takeWhile_prefix _).length_le
theorem aHl {r:M.aC} {a:ByteArray} (h:bL r=true) {k:Nat} (hk:k<r.Fields.length) (hf:kN a r.Fields[k]=true):aHO r.Fields a=k:=by
 have e:r.Fields[k].Name.toList=a.toList:=eq_of_beq hf
 refine aCD (fun j hj hjk => ?_) (fun _ => ?_) (by omega)
 ·unfold aI5
  rw [←e]
  have:=aNq h (k-j-1) j (by omega)
  have e2:j+(k-j-1)+1=k:=by omega
  simp only [e2] at this
  exact this
 ·unfold aI5
  rw [e]
  exact aEb _
def aIA (r:M.aC) (a:ByteArray) (n:Int):List M.Field:=if rD (kN a) r.Fields<0 then r.Fields.take (aHO r.Fields a)++([(⟨a,n⟩:M.Field)]++r.Fields.drop (aHO r.Fields a))
 else (match r.Fields[(rD (kN a) r.Fields).toNat]? with | some x=>r.Fields.set (rD (kN a) r.Fields).toNat (⟨x.Name,n⟩:M.Field) | none=>r.Fields)
def aFt (r:M.aC) (l:List M.Field):M.aC×Bool:=if bL r=true then (if bL (⟨l⟩:M.aC)=true then ((⟨l⟩:M.aC),true) else (r,false)) else (r,false)
def aC9 (r:M.aC) (a:ByteArray) (n:Int):M.aC×Bool:=aFt r (aIA r a n)
theorem aA9 {r:M.aC} (h:bL r=false) (l:List M.Field):aFt r l=(r,false):=by unfold aFt;rw [h,if_neg (by simp)]
theorem aNd {r:M.aC} {a:ByteArray} {n:Int} (k:Nat) (hr:r.ok) (hl:r.Fields.length≤1073741824) (ha:a.size≤maxLen) (hn:inI n):M.aC.ok (⟨r.Fields.take k++([(⟨a,n⟩:M.Field)]++r.Fields.drop k)⟩:M.aC):=
 ⟨⟨by show (r.Fields.take k++([(⟨a,n⟩:M.Field)]++r.Fields.drop k)).length≤maxLen;unfold maxLen;simp only [qE,qT,qU,qJ,qK];omega,fun y hy=>by
  have hy':y∈r.Fields.take k++([(⟨a,n⟩:M.Field)]++r.Fields.drop k):=hy
  simp only [qP,List.mem_cons,qO,or_false] at hy'
  rcases hy' with h | rfl | h
  ·exact hr.Fields.2 y (List.mem_of_mem_take h)
  ·exact ⟨ha,hn⟩
  ·exact hr.Fields.2 y (List.mem_of_mem_drop h)⟩⟩
theorem aK7 {r:M.aC} {n:Int} {k:Nat} (hk:k<r.Fields.length) (hr:r.ok) (hn:inI n):M.aC.ok (⟨r.Fields.set k (⟨r.Fields[k].Name,n⟩:M.Field)⟩:M.aC):=
 ⟨⟨by show (r.Fields.set k _).length≤maxLen;rw [qN];exact hr.Fields.1,fun y hy=>by
  have hy':y∈r.Fields.set k (⟨r.Fields[k].Name,n⟩:M.Field):=hy
  rcases List.mem_or_eq_of_mem_set hy' with h | rfl
  ·exact hr.Fields.2 y h
  ·exact ⟨(hr.Fields.2 _ (qG hk)).Name,hn⟩⟩⟩
theorem aFJ {r:M.aC} {l:List M.Field} (hr:r.ok) (hz:M.aC.sz r≤1073741824) (hl:M.aC.ok (⟨l⟩:M.aC)) :
  ((aY r).bind fun x=>(if (!x)=true then ((bN r).bind fun y=>(some (y,false))) else ((aY (⟨l⟩:M.aC)).bind fun z=>(if (!z)=true then ((bN r).bind fun y=>(some (y,false))) else (some ((⟨l⟩:M.aC),true))))))=some (aFt r l):=by
 rw [kI hr,qA,uI r hz,kI hl]
 unfold aFt
 cases bL r
 ·simp
 ·cases bL (⟨l⟩:M.aC)<;>simp
def tFA (r:M.aC) (a:ByteArray) (n:Int) (k:Nat):Option (M.aC×Bool):=(idx r.Fields (k:Int)).bind fun x22=>((aY r).bind fun x35=>(if (!x35)=true then ((bN r).bind fun x38=>(some (x38,false))) else ((aY (⟨(List.set r.Fields (k:Int).toNat (⟨x22.Name,n⟩:M.Field))⟩:M.aC)).bind fun x40=>(if (!x40)=true then ((bN r).bind fun x43=>(some (x43,false))) else (some ((⟨(List.set r.Fields (k:Int).toNat (⟨x22.Name,n⟩:M.Field))⟩:M.aC),true))))))
def tFB (r:M.aC) (a:ByteArray) (n:Int) (k:Nat):Option (M.aC×Bool):=(xA r.Fields (k:Int)).bind fun _=>((app 24 ([]:List M.Field) (List.take (k:Int).toNat r.Fields)).bind fun _=>((app 24 (List.take (k:Int).toNat r.Fields) ([(⟨a,n⟩:M.Field)])).bind fun _=>((wM r.Fields (k:Int)).bind fun _=>((app 24 ((List.take (k:Int).toNat r.Fields)++[(⟨a,n⟩:M.Field)]) (List.drop (k:Int).toNat r.Fields)).bind fun _=>((aY r).bind fun x63=>(if (!x63)=true then ((bN r).bind fun x66=>(some (x66,false))) else ((aY (⟨(((List.take (k:Int).toNat r.Fields)++[(⟨a,n⟩:M.Field)])++(List.drop (k:Int).toNat r.Fields))⟩:M.aC)).bind fun x68=>(if (!x68)=true then ((bN r).bind fun x71=>(some (x71,false))) else (some ((⟨(((List.take (k:Int).toNat r.Fields)++[(⟨a,n⟩:M.Field)])++(List.drop (k:Int).toNat r.Fields))⟩:M.aC),true))))))))))
def tFS (r:M.aC) (a:ByteArray) (n:Int) (k:Nat):Option (M.aC×Bool):=match r.Fields[k]? with | some x=>if (x.Name.toList==a.toList)=true then tFA r a n k else tFB r a n k | none=>tFB r a n k
theorem aNo {r:M.aC} {a:ByteArray} {n:Int} {k:Nat} (hk:k≤r.Fields.length) (hr:r.ok) (hz:M.aC.sz r≤1073741824) (ha:a.size≤maxLen) (hn:inI n):tFB r a n k=some (aFt r (r.Fields.take k++([(⟨a,n⟩:M.Field)]++r.Fields.drop k))):=by
 have hl:r.Fields.length≤1073741824:=by simp only [M.aC.sz] at hz;omega
 unfold tFB
 rw [aAh hk,qA,qH,aGS (by rw [qT];omega) (by omega),qA,fC (by simp only [qT,qJ,qK];omega),qA,aFn hk,qA,fC (by simp only [qE,qT,qU,qJ,qK];omega),qA,qS]
 exact aFJ hr hz (aNd k hr hl ha hn)
theorem uE {r:M.aC} {a:ByteArray} {n:Int} (hr:r.ok) (hz:M.aC.sz r≤1073741824) (ha:a.size≤maxLen) (hn:inI n):eX r a n=some (aC9 r a n):=by
 have hl:r.Fields.length≤1073741824:=by simp only [M.aC.sz] at hz;omega
 have hp:=aMz r.Fields a
 unfold eX
 rw [uI r hz,qA,aIC (l:=r.Fields) (f:=aI5 a) (L:=iG r a n r) (S:=tFS r a n) hr.Fields.1 (fun m k hk => ?_) (fun m => ?_)]
 ·show tFS r a n (aHO r.Fields a)=_
  unfold tFS aC9
  rcases Nat.lt_or_ge (aHO r.Fields a) r.Fields.length with h | h
  ·rw [qF h]
   simp only
   by_cases hf:(r.Fields[aHO r.Fields a].Name.toList==a.toList)=true
   ·rw [if_pos hf]
    unfold tFA
    rw [aO h,qA,qH,aFJ hr hz (aK7 h hr hn)]
    cases hR:bL r with
    | false=>rw [aA9 hR,aA9 hR]
    | true =>
     have hnot : ¬rD (kN a) r.Fields<0:=fun h0=>by
      have:=aFS h0 _ (qG h)
      rw [show kN a r.Fields[aHO r.Fields a]=true from hf] at this
      cases this
     obtain ⟨k,e,hk⟩:=lM hnot
     obtain ⟨_,hfk⟩:=zF e
     have hpk:=aHl hR hk hfk
     unfold aIA
     rw [if_neg hnot,e,qH,qF hk]
     simp only [hpk]
   ·rw [if_neg hf,aNo hp hr hz ha hn]
    cases hR:bL r with
    | false=>rw [aA9 hR,aA9 hR]
    | true =>
     have hneg:rD (kN a) r.Fields<0:=Classical.byContradiction fun hnot=>by
      obtain ⟨k,e,hk⟩:=lM hnot
      obtain ⟨_,hfk⟩:=zF e
      have hpk:=aHl hR hk hfk
      apply hf
      simp only [hpk]
      exact hfk
     unfold aIA
     rw [if_pos hneg]
  ·rw [qX h]
   simp only
   rw [aNo hp hr hz ha hn]
   cases hR:bL r with
   | false=>rw [aA9 hR,aA9 hR]
   | true =>
    have hneg:rD (kN a) r.Fields<0:=Classical.byContradiction fun hnot=>by
     obtain ⟨k,e,hk⟩:=lM hnot
     obtain ⟨_,hfk⟩:=zF e
     have hpk:=aHl hR hk hfk
     omega
    unfold aIA
    rw [if_pos hneg]
 ·simp only [iG]
  rw [if_pos (bI hk),aO hk,qA,cU (by omega)]
  unfold tFS
  rw [qF hk]
  simp only
  unfold tFA
  rw [aO hk]
  rfl
 ·simp only [iG]
  rw [if_neg (by rw [aW];simp)]
  unfold tFS
  rw [qX (Nat.le_refl _)]
  rfl
def rE (k:M.Key) (x:M.Item):Bool:=(x.Key.Kind==k.Kind)&&((x.Key.N==k.N)&&(x.Key.Text.toList==k.Text.toList))
theorem rY {s:M.aA} {k:M.Key} (hs:s.ok):iN s k=some (rD (rE k) s.Items):=by
 have hm:=le_max hs.Items.1
 unfold iN
 rw [findAll (L:=iS s k) (f:=rE k) (A:=fun i=>some (i:Int)) (E:=some (-1)) hs.Items.1 (fun m j hj => ?_) (fun m => ?_),vY]
 ·simp only [iS]
  rw [if_pos (bI hj),aO hj,qA,cU (by omega)]
  rfl
 ·simp only [iS]
  rw [if_neg (by rw [aW];simp)]
theorem aMZ {x y:M.Key} (hx:wR x=true) (hy:wR y=true) (h : ¬cE x y<0) (hne:((x.Kind==y.Kind)&&((x.N==y.N)&&(x.Text.toList==y.Text.toList)))=false):cE y x<0:=by
 unfold cE at *
 rw [if_pos ⟨hx,hy⟩] at h
 rw [if_pos ⟨hy,hx⟩]
 by_cases hk:x.Kind=y.Kind
 ·rw [if_pos hk] at h
  rw [if_pos hk.symm]
  by_cases hn:x.N=y.N
  ·rw [if_pos hn] at h
   rw [if_pos hn.symm]
   have hb:(x.Text.toList==y.Text.toList)=false:=by simpa [hk,hn] using hne
   have hl:Op.bytesLess x.Text.toList y.Text.toList=false:=by
    cases e:Op.bytesLess x.Text.toList y.Text.toList with
    | false=>rfl
    | true=>rw [e,if_pos rfl] at h;omega
   have ht:=xB x.Text.toList y.Text.toList
   rw [hl,Bool.beq_comm,hb,Bool.or_false] at ht
   have h2:Op.bytesLess y.Text.toList x.Text.toList=true:=by
    cases e:Op.bytesLess y.Text.toList x.Text.toList with
    | true=>rfl
    | false=>rw [e] at ht;cases ht
   rw [if_pos h2]
   omega
  ·rw [if_neg hn] at h
   rw [if_neg (fun e=>hn e.symm)]
   by_cases hlt:x.N<y.N
   ·rw [if_pos hlt] at h;omega
   ·rw [if_pos (by omega)];omega
 ·rw [if_neg hk] at h
  rw [if_neg (fun e=>hk e.symm)]
  by_cases hlt:x.Kind<y.Kind
  ·rw [if_pos hlt] at h;omega
  ·rw [if_pos (by omega)];omega
theorem aGl {l:List M.Item} (h1 : ∀(k:Nat) (x:M.Item),l[k]? = some x→wR x.Key=true∧bL x.aC=true) (h2 : ∀(k:Nat) (x y:M.Item),l[k]? = some x→l[k+1]? = some y→cE x.Key y.Key<0):(List.range l.length).all (uU l)=true:=by
 rw [qQ]
 intro k hk
 have hk:=List.mem_range.1 hk
 unfold uU
 obtain ⟨a1,a2⟩:=h1 k _ (qF hk)
 cases k with
 | zero=>rw [qF hk];simp [a1,a2]
 | succ k =>
  have hk':k<l.length:=by omega
  have b:=h2 k _ _ (qF hk') (qF hk)
  rw [qF hk,Nat.add_sub_cancel,qF hk']
  simp [a1,a2,b]
theorem aCJ {l:List M.Item} (h:(List.range l.length).all (uU l)=true):(∀(k:Nat) (x:M.Item),l[k]? = some x→wR x.Key=true∧bL x.aC=true)∧(∀(k:Nat) (x y:M.Item),l[k]? = some x→l[k+1]? = some y→cE x.Key y.Key<0):=by
 rw [qQ] at h
 refine ⟨fun k x hx => ?_,fun k x y hx hy => ?_⟩
 ·have hk:k<l.length:=(List.getElem?_eq_some_iff.1 hx).1
  have:=h k (List.mem_range.2 hk)
  unfold uU at this
  rw [hx] at this
  simp only [Option.any_some,qM] at this
  exact this.1
 ·have hk:k+1<l.length:=(List.getElem?_eq_some_iff.1 hy).1
  have:=h (k+1) (List.mem_range.2 hk)
  unfold uU at this
  rw [hy,Nat.add_sub_cancel,hx] at this
  simp only [Option.any_some,qM] at this
  simpa using this.2
theorem aLC {α:Type} {l:List α} {p:Nat} {x:α} (hp:p≤l.length) (k:Nat):(l.take p++([x]++l.drop p))[k]? = if k<p then l[k]? else if k=p then some x else l[k-1]? := by
 have hl:(l.take p).length=p:=by rw [qT];omega
 rw [List.getElem?_append,hl]
 by_cases h1:k<p
 ·rw [if_pos h1,if_pos h1,List.getElem?_take_of_lt h1]
 ·rw [if_neg h1,if_neg h1]
  by_cases h2:k=p
  ·subst h2;simp
  ·rw [if_neg h2]
   obtain ⟨d,rfl⟩ : ∃d,k=p+1+d:=⟨k-p-1,by omega⟩
   rw [show p+1+d-p=d+1 by omega,List.singleton_append,List.getElem?_cons_succ,List.getElem?_drop,show p+1+d-1=p+d by omega]
def aDI (k:M.Key) (x:M.Item):Bool:=decide (cE x.Key k<0)
def xU (l:List M.Item) (k:M.Key):Nat:=(l.takeWhile (aDI k)).length
theorem aGC (l:List M.Item) (k:M.Key):xU l k≤l.length:=(List.takeWhile_prefix _).length_le
def aCO (s:M.aA) (k:M.Key):Int:=if ((k.Kind==1)&&(decide (k.N>s.Auto)&&decide (k.N≤1000000)))=true then k.N else s.Auto
def aGt (s:M.aA) (k:M.Key) (r:M.aC):M.aA:=(⟨s.Name,s.Items.take (xU s.Items k)++([(⟨k,r⟩:M.Item)]++s.Items.drop (xU s.Items k)),aCO s k⟩:M.aA)
def aH4 (s:M.aA) (i:Nat) (r:M.aC):M.aA:=(⟨s.Name,(match s.Items[i]? with | some x=>s.Items.set i (⟨x.Key,r⟩:M.Item) | none=>s.Items),s.Auto⟩:M.aA)
def wL (s:M.aA) (k:M.Key) (r:M.aC):M.aA×Bool:=if fB s=true then (if wR k=true then (if rD (rE k) s.Items<0 then (if s.Items.length<16 then (aGt s k r,true) else (s,false)) else (aH4 s (rD (rE k) s.Items).toNat r,true)) else (s,false)) else (s,false)
theorem pB {s:M.aA} (h:fB s=true):(List.range s.Items.length).all (uU s.Items)=true∧nS s.Name=true∧s.Items.length≤16∧0≤s.Auto∧s.Auto≤1000000:=by
 unfold fB inR at h
 simp only [qM,qL] at h
 exact ⟨h.1,h.2.1,h.2.2.1,h.2.2.2.1,h.2.2.2.2⟩
theorem aM4 {s:M.aA} (h1:(List.range s.Items.length).all (uU s.Items)=true) (h2:nS s.Name=true) (h3:s.Items.length≤16) (h4:0≤s.Auto) (h5:s.Auto≤1000000):fB s=true:=by
 unfold fB inR
 simp [h1,h2,h3,h4,h5]
theorem aMQ {s:M.aA} {k:M.Key} (h:fB s=true):0≤aCO s k∧aCO s k≤1000000:=by
 obtain ⟨_,_,_,h4,h5⟩:=pB h
 unfold aCO
 split
 ·rename_i hc
  simp only [qM,qL] at hc
  omega
 ·exact ⟨h4,h5⟩
theorem aLv {s:M.aA} {i:Nat} {r:M.aC} (h:fB s=true) (hi:i<s.Items.length):fB (aH4 s i r)=bL r:=by
 obtain ⟨h1,h2,h3,h4,h5⟩:=pB h
 obtain ⟨a1,a2⟩:=aCJ h1
 have e:aH4 s i r=(⟨s.Name,s.Items.set i (⟨s.Items[i].Key,r⟩:M.Item),s.Auto⟩:M.aA):=by unfold aH4;rw [qF hi]
 rw [e]
 have key : ∀(k:Nat) (x:M.Item),(s.Items.set i (⟨s.Items[i].Key,r⟩:M.Item))[k]? = some x → ∃y,s.Items[k]? = some y∧x.Key=y.Key∧(k≠i→x=y)∧(k=i→x.aC=r):=by
  intro k x hx
  rw [List.getElem?_set] at hx
  by_cases hk:i=k
  ·subst hk
   rw [if_pos rfl,if_pos hi] at hx
   cases hx
   exact ⟨_,qF hi,rfl,fun hh=>absurd rfl hh,fun _=>rfl⟩
  ·rw [if_neg hk] at hx
   exact ⟨x,hx,rfl,fun _=>rfl,fun hh=>absurd hh.symm hk⟩
 cases hr:bL r with
 | true =>
  refine aM4 (aGl (fun k x hx => ?_) (fun k x y hx hy => ?_)) h2 (by show (s.Items.set i _).length≤16;rw [qN];exact h3) h4 h5
  ·obtain ⟨y,hy,e1,e2,e3⟩:=key k x hx
   obtain ⟨b1,b2⟩:=a1 k y hy
   refine ⟨by rw [e1];exact b1,?_⟩
   by_cases hk:k=i
   ·rw [e3 hk];exact hr
   ·rw [e2 hk];exact b2
  ·obtain ⟨x',hx',e1,_⟩:=key k x hx
   obtain ⟨y',hy',e2,_⟩:=key (k+1) y hy
   rw [e1,e2]
   exact a2 k x' y' hx' hy'
 | false =>
  cases hq:fB (⟨s.Name,s.Items.set i (⟨s.Items[i].Key,r⟩:M.Item),s.Auto⟩:M.aA) with
  | false=>rfl
  | true =>
   have:=(aCJ (pB hq).1).1 i _ (by show (s.Items.set i _)[i]? = _;rw [List.getElem?_set,if_pos rfl,if_pos hi])
   simp only at this
   rw [hr] at this
   cases this.2
theorem aKZ {s:M.aA} {k:M.Key} {r:M.aC} (h:fB s=true) (hk:wR k=true) (hr:bL r=true) (hf:rD (rE k) s.Items<0) (au:Int) (hau:0≤au∧au≤1000000) :
  fB (⟨s.Name,s.Items.take (xU s.Items k)++([(⟨k,r⟩:M.Item)]++s.Items.drop (xU s.Items k)),au⟩:M.aA)=decide (s.Items.length<16):=by
 obtain ⟨h1,h2,h3,h4,h5⟩:=pB h
 obtain ⟨a1,a2⟩:=aCJ h1
 have hp:=aGC s.Items k
 have hlen:(s.Items.take (xU s.Items k)++([(⟨k,r⟩:M.Item)]++s.Items.drop (xU s.Items k))).length=s.Items.length+1:=by
  simp only [qE,qT,qU,qJ,qK];omega
 have hall:(List.range (s.Items.take (xU s.Items k)++([(⟨k,r⟩:M.Item)]++s.Items.drop (xU s.Items k))).length).all (uU (s.Items.take (xU s.Items k)++([(⟨k,r⟩:M.Item)]++s.Items.drop (xU s.Items k))))=true:=by
  refine aGl (fun j x hx => ?_) (fun j x y hx hy => ?_)
  ·rw [aLC hp] at hx
   split at hx
   ·exact a1 j x hx
   ·split at hx
    ·cases hx;exact ⟨hk,hr⟩
    ·exact a1 _ x hx
  ·rw [aLC hp] at hx hy
   by_cases c1:j+1<xU s.Items k
   ·rw [if_pos (by omega)] at hx
    rw [if_pos c1] at hy
    exact a2 j x y hx hy
   ·rw [if_neg c1] at hy
    by_cases c2:j+1=xU s.Items k
    ·rw [if_pos c2] at hy
     rw [if_pos (by omega)] at hx
     cases hy
     have hj:j<s.Items.length:=by omega
     have:=aDG (f:=aDI k) (l:=s.Items) j hj (by show j<xU s.Items k;omega)
     rw [qF hj] at hx
     cases hx
     unfold aDI at this
     simpa using this
    ·rw [if_neg c2] at hy
     by_cases c3:j=xU s.Items k
     ·rw [if_neg (by omega),if_pos c3] at hx
      cases hx
      rw [Nat.add_sub_cancel] at hy
      have hj:j<s.Items.length:=(List.getElem?_eq_some_iff.1 hy).1
      have hj':(s.Items.takeWhile (aDI k)).length<s.Items.length:=by show xU s.Items k<_;omega
      have hat:=aDT (f:=aDI k) hj'
      have e1:s.Items[(s.Items.takeWhile (aDI k)).length]=y:=by
       have:s.Items[xU s.Items k]? = some y:=by rw [←c3];exact hy
       exact (List.getElem?_eq_some_iff.1 this).2
      rw [e1] at hat
      unfold aDI at hat
      have hne:=aFS hf y (by rw [←e1];exact qG _)
      unfold rE at hne
      exact aMZ (a1 j y hy).1 hk (by simpa using hat) hne
     ·rw [if_neg (by omega),if_neg c3] at hx
      rw [show j+1-1=(j-1)+1 by omega] at hy
      exact a2 (j-1) x y hx hy
 have e1:decide ((s.Items.take (xU s.Items k)++([(⟨k,r⟩:M.Item)]++s.Items.drop (xU s.Items k))).length≤16)=decide (s.Items.length<16):=decide_eq_decide.2 (by rw [hlen];omega)
 unfold fB inR
 rw [hall,h2,e1,decide_eq_true hau.1,decide_eq_true hau.2]
 simp
theorem aLP {s:M.aA} {k:M.Key} {r:M.aC} {au:Int} (p:Nat) (hs:s.ok) (hl:s.Items.length≤1073741824) (hk:k.ok) (hr:r.ok) (hau:inI au):M.aA.ok (⟨s.Name,s.Items.take p++([(⟨k,r⟩:M.Item)]++s.Items.drop p),au⟩:M.aA):=
 ⟨hs.Name,⟨by show (s.Items.take p++([(⟨k,r⟩:M.Item)]++s.Items.drop p)).length≤maxLen;unfold maxLen;simp only [qE,qT,qU,qJ,qK];omega,fun y hy=>by
  have hy':y∈s.Items.take p++([(⟨k,r⟩:M.Item)]++s.Items.drop p):=hy
  simp only [qP,List.mem_cons,qO,or_false] at hy'
  rcases hy' with h | rfl | h
  ·exact hs.Items.2 y (List.mem_of_mem_take h)
  ·exact ⟨hk,hr⟩
  ·exact hs.Items.2 y (List.mem_of_mem_drop h)⟩,hau⟩
theorem aOX {s:M.aA} {r:M.aC} {i:Nat} (hi:i<s.Items.length) (hs:s.ok) (hr:r.ok):M.aA.ok (⟨s.Name,s.Items.set i (⟨s.Items[i].Key,r⟩:M.Item),s.Auto⟩:M.aA):=
 ⟨hs.Name,⟨by show (s.Items.set i _).length≤maxLen;rw [qN];exact hs.Items.1,fun y hy=>by
  have hy':y∈s.Items.set i (⟨s.Items[i].Key,r⟩:M.Item):=hy
  rcases List.mem_or_eq_of_mem_set hy' with h | rfl
  ·exact hs.Items.2 y h
  ·exact ⟨(hs.Items.2 _ (qG hi)).Key,hr⟩⟩,hs.Auto⟩
theorem aKP {s:M.aA} {k:M.Key} (hs:s.ok) (hk:k.ok):inI (aCO s k):=by
 unfold aCO
 split
 ·exact hk.N
 ·exact hs.Auto
def tPS (s:M.aA) (k:M.Key) (r:M.aC) (j:Nat):Option (M.aA×Bool):=(xA s.Items (j:Int)).bind fun _=>((app 56 ([]:List M.Item) (List.take (j:Int).toNat s.Items)).bind fun _=>((bN r).bind fun x70=>((app 56 (List.take (j:Int).toNat s.Items) ([(⟨k,x70⟩:M.Item)])).bind fun _=>((app 56 ((List.take (j:Int).toNat s.Items)++[(⟨k,x70⟩:M.Item)]) (List.drop (j:Int).toNat s.Items)).bind fun _=>(if (k.Kind==1)=true then ((bB k.N (i64.wrap (s.Auto+1)) 1000000).bind fun x100=>(if x100=true then (some ((⟨s.Name,(((List.take (j:Int).toNat s.Items)++[(⟨k,x70⟩:M.Item)])++(List.drop (j:Int).toNat s.Items)),k.N⟩:M.aA),true)) else (some ((⟨s.Name,(((List.take (j:Int).toNat s.Items)++[(⟨k,x70⟩:M.Item)])++(List.drop (j:Int).toNat s.Items)),s.Auto⟩:M.aA),true)))) else (some ((⟨s.Name,(((List.take (j:Int).toNat s.Items)++[(⟨k,x70⟩:M.Item)])++(List.drop (j:Int).toNat s.Items)),s.Auto⟩:M.aA),true)))))))
theorem pU {s:M.aA} {k:M.Key} {r:M.aC} (hs:s.ok) (hk:k.ok) (hr:r.ok) (hR:bL r=true) (hz:M.aA.sz s≤1073741824) (hzr:M.aC.sz r≤1073741824):cZ s k r=some (wL s k r):=by
 have hl:s.Items.length≤1073741824:=by simp only [M.aA.sz] at hz;omega
 have hp:=aGC s.Items k
 unfold cZ wL
 rw [rA hs,iA hk,kI hr,hR,kC s hz,rY hs,uI r hzr]
 simp only [qA]
 cases hS:fB s with
 | false=>simp
 | true =>
  cases hK:wR k with
  | false=>simp
  | true =>
   simp only [qB,qD,if_false,if_true]
   by_cases h:rD (rE k) s.Items<0
   ·rw [if_neg (by simp;omega),if_pos h]
    by_cases h16:s.Items.length<16
    ·rw [if_neg (by simp;omega),if_pos h16,aIC (l:=s.Items) (f:=aDI k) (L:=jU s k r s) (S:=tPS s k r) hs.Items.1 (fun m j hj => ?_) (fun m => ?_)]
     ·show tPS s k r (xU s.Items k)=_
      obtain ⟨_,_,_,ha4,ha5⟩:=pB hS
      have ew:i64.wrap (s.Auto+1)=s.Auto+1:=bO (by omega) (by omega)
      have ei:inR k.N (s.Auto+1) 1000000=(decide (k.N>s.Auto)&&decide (k.N≤1000000)):=by
       unfold inR
       congr 1
      unfold tPS
      rw [aAh hp,qA,qH,aGS (by rw [qT];omega) (by omega),qA,uI r hzr,qA,fC (by simp only [qT,qJ,qK];omega),qA,fC (by simp only [qE,qT,qU,qJ,qK];omega),qA,qS,dQ,qA,ew,ei]
      unfold aGt aCO
      cases (k.Kind==1)<;>cases (decide (k.N>s.Auto)&&decide (k.N≤1000000))<;>rfl
     ·have hj':=hs.Items.2 _ (qG hj)
      simp only [jU]
      rw [if_pos (bI hj),aO hj,qA,nK hj'.Key hk,qA,cU (by omega)]
      rfl
     ·simp only [jU]
      rw [if_neg (by rw [aW];simp)]
      rfl
    ·rw [if_pos (by simp;omega),if_neg h16]
   ·obtain ⟨i,e,hi⟩:=lM h
    rw [if_pos (by simpa using h),if_neg h,e,aO hi,qA,qH]
    unfold aH4
    rw [qF hi]
def gH (s:M.aA) (k:M.Key):M.aC:=if rD (rE k) s.Items<0 then (⟨([]:List M.Field)⟩:M.aC) else (match s.Items[(rD (rE k) s.Items).toNat]? with | some x=>x.aC | none=>(⟨([]:List M.Field)⟩:M.aC))
def aFV (s:M.aA) (w:M.aT):M.aA×Bool:=if (aC9 (gH s w.Key) w.Field w.N).2=true then wL s w.Key (aC9 (gH s w.Key) w.Field w.N).1 else (s,false)
theorem aB3:M.aC.ok (⟨([]:List M.Field)⟩:M.aC):=⟨⟨by simp [maxLen],by simp⟩⟩
theorem aBw {s:M.aA} {k:M.Key} (hs:s.ok):(gH s k).ok:=by
 unfold gH
 split
 ·exact aB3
 ·split
  ·rename_i x hx
   exact (hs.Items.2 x (List.mem_of_getElem? hx)).aC
  ·exact aB3
theorem aGe (s:M.aA) (k:M.Key):M.aC.sz (gH s k)≤M.aA.sz s:=by
 unfold gH
 split
 ·simp [M.aC.sz,lV]
 ·split
  ·rename_i x hx
   have h1:=nY (f:=M.Item.sz) (List.mem_of_getElem? hx)
   have h2:M.aC.sz x.aC≤M.Item.sz x:=by simp only [M.Item.sz];omega
   simp only [M.aA.sz]
   omega
  ·simp [M.aC.sz,lV]
theorem aMH {r:M.aC} {a:ByteArray} {n:Int} (hr:r.ok) (hl:r.Fields.length≤1073741824) (ha:a.size≤maxLen) (hn:inI n):M.aC.ok (⟨aIA r a n⟩:M.aC):=by
 unfold aIA
 by_cases h:rD (kN a) r.Fields<0
 ·rw [if_pos h]
  exact aNd _ hr hl ha hn
 ·rw [if_neg h]
  obtain ⟨k,e,hk⟩:=lM h
  rw [e,qH,qF hk]
  exact aK7 hk hr hn
theorem aFw {r:M.aC} {a:ByteArray} {n:Int} (hr:r.ok) (hl:r.Fields.length≤1073741824) (ha:a.size≤maxLen) (hn:inI n):(aC9 r a n).1.ok:=by
 unfold aC9 aFt
 split
 ·split
  ·exact aMH hr hl ha hn
  ·exact hr
 ·exact hr
theorem aAo {r:M.aC} {a:ByteArray} {n:Int} (h:(aC9 r a n).2=true):bL (aC9 r a n).1=true:=by
 unfold aC9 aFt at h ⊢
 by_cases h1:bL r=true
 ·rw [if_pos h1] at h ⊢
  by_cases h2:bL (⟨aIA r a n⟩:M.aC)=true
  ·rw [if_pos h2];exact h2
  ·rw [if_neg h2] at h;cases h
 ·rw [if_neg h1] at h;cases h
theorem aBO {r:M.aC} (h:bL r=true):M.aC.sz r≤100:=by
 obtain ⟨h1,h2⟩:=pD h
 have:=kU (w:=M.Field.sz) (b:=8) (xs:=r.Fields) (fun x hx=>by have:=(h2 x hx).1;simp only [M.Field.sz];omega)
 simp only [M.aC.sz]
 omega
theorem lK {s:M.aA} (h:fB s=true):M.aA.sz s≤10000:=by
 obtain ⟨h1,h2,h3,_,_⟩:=pB h
 obtain ⟨a1,_⟩:=aCJ h1
 have hn:s.Name.size≤8:=by
  unfold nS inR at h2
  simp only [qM,qL] at h2
  omega
 have:=kU (w:=M.Item.sz) (b:=112) (xs:=s.Items) (fun x hx=>by
  obtain ⟨k,hk,rfl⟩:=List.mem_iff_getElem.1 hx
  obtain ⟨b1,b2⟩:=a1 k _ (qF hk)
  have c1:=aAl b1
  have c2:=aBO b2
  simp only [M.Item.sz,M.Key.sz]
  omega)
 simp only [M.aA.sz]
 omega
theorem yR {s:M.aA} {k:M.Key} {r:M.aC} (hR:bL r=true) (h:(wL s k r).2=true):fB (wL s k r).1=true:=by
 unfold wL at h ⊢
 by_cases hS:fB s=true
 ·rw [if_pos hS] at h ⊢
  by_cases hK:wR k=true
  ·rw [if_pos hK] at h ⊢
   by_cases hf:rD (rE k) s.Items<0
   ·rw [if_pos hf] at h ⊢
    by_cases h16:s.Items.length<16
    ·rw [if_pos h16]
     have:=aKZ hS hK hR hf _ (aMQ (k:=k) hS)
     simp only [h16,decide_true] at this
     exact this
    ·rw [if_neg h16] at h;cases h
   ·rw [if_neg hf]
    obtain ⟨i,e,hi⟩:=lM hf
    simp only [e,qH]
    rw [aLv hS hi]
    exact hR
  ·rw [if_neg hK] at h;cases h
 ·rw [if_neg hS] at h;cases h
theorem aF2 {s:M.aA} {k:M.Key} {r:M.aC} (hs:s.ok) (hl:s.Items.length≤1073741824) (hk:k.ok) (hr:r.ok):(wL s k r).1.ok:=by
 unfold wL
 by_cases hS:fB s=true
 ·rw [if_pos hS]
  by_cases hK:wR k=true
  ·rw [if_pos hK]
   by_cases hf:rD (rE k) s.Items<0
   ·rw [if_pos hf]
    split
    ·exact aLP _ hs hl hk hr (aKP hs hk)
    ·exact hs
   ·rw [if_neg hf]
    obtain ⟨i,e,hi⟩:=lM hf
    simp only [e,qH]
    unfold aH4
    rw [qF hi]
    exact aOX hi hs hr
  ·rw [if_neg hK];exact hs
 ·rw [if_neg hS];exact hs
theorem aDA {s:M.aA} {k:M.Key} {r:M.aC} (h:(wL s k r).2=false):(wL s k r).1=s:=by
 unfold wL at h ⊢
 by_cases hS:fB s=true
 ·rw [if_pos hS] at h ⊢
  by_cases hK:wR k=true
  ·rw [if_pos hK] at h ⊢
   by_cases hf:rD (rE k) s.Items<0
   ·rw [if_pos hf] at h ⊢
    by_cases h16:s.Items.length<16
    ·rw [if_pos h16] at h;cases h
    ·rw [if_neg h16]
   ·rw [if_neg hf] at h;cases h
  ·rw [if_neg hK]
 ·rw [if_neg hS]
theorem aEq {s:M.aA} {w:M.aT} (h:(aFV s w).2=false):(aFV s w).1=s:=by
 unfold aFV at h ⊢
 by_cases h1:(aC9 (gH s w.Key) w.Field w.N).2=true
 ·rw [if_pos h1] at h ⊢;exact aDA h
 ·rw [if_neg h1]
theorem aDz {s:M.aA} {w:M.aT} (hs:s.ok) (hw:w.ok) (hz:M.aA.sz s≤536870912):(aFV s w).1.ok∧M.aA.sz (aFV s w).1≤536870912:=by
 have hl:s.Items.length≤1073741824:=by simp only [M.aA.sz] at hz;omega
 have hzr:=aGe s w.Key
 have hlr:(gH s w.Key).Fields.length≤1073741824:=by simp only [M.aC.sz] at hzr;omega
 cases h2:(aFV s w).2 with
 | false=>rw [aEq h2];exact ⟨hs,hz⟩
 | true =>
  unfold aFV at h2 ⊢
  by_cases h1:(aC9 (gH s w.Key) w.Field w.N).2=true
  ·rw [if_pos h1] at h2 ⊢
   have:=lK (yR (aAo h1) h2)
   exact ⟨aF2 hs hl hw.Key (aFw (aBw hs) hlr hw.Field hw.N),by omega⟩
  ·rw [if_neg h1] at h2;cases h2
theorem tN {s:M.aA} {w:M.aT} (hs:s.ok) (hw:w.ok) (hz:M.aA.sz s≤1073741824):gI s w=some (aFV s w):=by
 have hzr:=aGe s w.Key
 have hlr:(gH s w.Key).Fields.length≤1073741824:=by simp only [M.aC.sz] at hzr;omega
 have lJ:=uE (r:=gH s w.Key) (a:=w.Field) (n:=w.N) (aBw hs) (by omega) hw.Field hw.N
 have hput:(aC9 (gH s w.Key) w.Field w.N).2=true→cZ s w.Key (aC9 (gH s w.Key) w.Field w.N).1=some (wL s w.Key (aC9 (gH s w.Key) w.Field w.N).1):=fun h1 =>
  pU hs hw.Key (aFw (aBw hs) hlr hw.Field hw.N) (aAo h1) hz (Nat.le_trans (aBO (aAo h1)) (by omega))
 have hfin:((some (aC9 (gH s w.Key) w.Field w.N)).bind fun x9=>(if (!x9.2)=true then ((bH s).bind fun x12=>(some (x12,false))) else ((cZ s w.Key x9.1).bind fun x14=>(some (x14.1,x14.2)))))=some (aFV s w):=by
  rw [qA,kC s hz]
  unfold aFV
  cases h1:(aC9 (gH s w.Key) w.Field w.N).2 with
  | false=>simp
  | true =>
   rw [hput h1]
   simp
 unfold gI
 rw [rY hs,qA]
 by_cases h:rD (rE w.Key) s.Items<0
 ·have e:gH s w.Key=(⟨([]:List M.Field)⟩:M.aC):=by unfold gH;rw [if_pos h]
  rw [if_neg (by simp;omega)]
  rw [e] at lJ hfin
  rw [lJ]
  exact hfin
 ·obtain ⟨i,ei,hi⟩:=lM h
  have e:gH s w.Key=s.Items[i].aC:=by unfold gH;rw [if_neg h,ei,qH,qF hi]
  rw [if_pos (by simpa using h),ei,aO hi,qA]
  rw [e] at lJ hfin
  rw [lJ]
  exact hfin
def yE (s:M.aA) (l:List M.aT):M.aA:=l.foldl (fun t w=>(aFV t w).1) s
theorem aAa {s:M.aA} {l:List M.aT} (hs:s.ok) (hl:l.length≤maxLen) (ho : ∀w∈l,M.aT.ok w) (hz:M.aA.sz s≤536870912):oQ s l=some (yE s l):=by
 have hm:=le_max hl
 unfold oQ yE
 rw [kC s (by omega),qA]
 have:=aIb (xs:=l) (L:=fun n k (t:M.aA)=>fS l n k t.Name t.Auto t.Items) (step:=fun t w=>(aFV t w).1) (I:=fun _ t=>t.ok∧M.aA.sz t≤536870912) (E:=some) hl
  (fun t k hk hi=>aDz hi.1 (ho _ (qG hk)) hi.2) (fun n t k hk hi=>by
   simp only [fS]
   rw [if_pos (bI hk),aO hk,qA,show (⟨t.Name,t.Items,t.Auto⟩:M.aA)=t from rfl,tN hi.1 (ho _ (qG hk)) (by omega),qA,cU (by omega)]
   cases h2:(aFV t l[k]).2 with
   | true=>rfl
   | false=>rw [aEq h2];rfl) (fun n t hi=>by
   simp only [fS]
   rw [if_neg (by rw [aW];simp)]) s ⟨hs,hz⟩
 exact this.1
theorem zK : ∀(j n:Nat),n<2^(7*(j+1))→(uv n).length≤j+1
 | 0,n,h=>by
  rw [aDg (by simpa using h)];simp
 | j+1,n,h=>by
  by_cases h1:n<128
  ·rw [aDg h1];simp
  ·rw [aH1 h1,qJ]
   have e:2^(7*(j+1+1))=2^(7*(j+1))*128:=by rw [show 7*(j+1+1)=7*(j+1)+7 from by omega,Nat.pow_add]
   have:=zK j (n/128) (by rw [e] at h;omega)
   omega
theorem aCe {n:Nat} (h:n≤1000000000000):(uv n).length≤6:=zK 5 n (Nat.lt_of_le_of_lt h (by decide))
theorem aJK (n:Nat):1≤(uv n).length:=by
 by_cases h:n<128
 ·rw [aDg h];simp
 ·rw [aH1 h];simp
theorem aBV : ∀(n:Nat) (x:Int),x∈uv n→0≤x∧x≤255:=by
 intro n
 induction n using Nat.strongRecOn with
 | _ n ih =>
  intro x hx
  by_cases h:n<128
  ·rw [aDg h,List.mem_singleton] at hx;subst hx;omega
  ·rw [aH1 h,List.mem_cons] at hx
   rcases hx with rfl | hx
   ·omega
   ·exact ih (n/128) (by omega) x hx
def aLZ (b:List Int) (a:Nat):Nat→Nat→Nat→Int×Int×Bool
 | 0,_,_=>(0,0,false)
 | j+1,k,n=>match b[a+k]? with
  | none=>(0,0,false)
  | some x=>if x.toNat<128 then (if (decide (x.toNat=0)&&decide (0<k))||decide (1000000000000<n+x.toNat%128*2^(7*k)) then (0,0,false) else (((n+x.toNat%128*2^(7*k):Nat):Int),((a+k+1:Nat):Int),true)) else aLZ b a j (k+1) (n+x.toNat%128*2^(7*k))
def nUv (b:List Int) (p:Int):Int×Int×Bool:=if p<0 then (0,0,false) else aLZ b p.toNat 6 0 0
theorem aHP {k:Nat} (h:k<6):2^(7*k)≤34359738368:=Nat.pow_le_pow_right (n:=2) (by decide) (show 7*k≤35 by omega)
theorem aOt {k n x:Nat} (hn:n<2^(7*k)):n+x%128*2^(7*k)<2^(7*(k+1)):=by
 have e:2^(7*(k+1))=2^(7*k)*128:=by rw [show 7*(k+1)=7*k+7 from by omega,Nat.pow_add]
 have h1:x%128≤127:=by omega
 have h2:x%128*2^(7*k)≤127*2^(7*k):=Nat.mul_le_mul_right _ h1
 rw [e]
 omega
theorem aNh {n x k:Nat} (h:n<2^k):n|||x*2^k=n+x*2^k:=by
 have:=Nat.two_pow_add_eq_or_of_lt h x
 rw [Nat.mul_comm x,Nat.or_comm,←this,Nat.add_comm]
theorem aMF {k x:Nat} (hk:k<6):i64.wrap (((x%128:Nat):Int)*2^(min (i64.wrap (7*(k:Int))).toNat IntKind.i64.bits))=((x%128*2^(7*k):Nat):Int):=by
 have hp:=aHP hk
 have h1:x%128≤127:=by omega
 have h2:x%128*2^(7*k)≤127*2^(7*k):=Nat.mul_le_mul_right _ h1
 have e:min (i64.wrap (7*(k:Int))).toNat IntKind.i64.bits=7*k:=by
  rw [bO (by omega) (by omega),show IntKind.i64.bits=64 from rfl]
  omega
 rw [e,show (((x%128:Nat):Int)*2^(7*k))=((x%128*2^(7*k):Nat):Int) from by rw [Int.natCast_mul,Int.natCast_pow];rfl]
 exact bO (by omega) (by omega)
theorem uvS {n k x:Nat} (hk:k<6) (hx:x≤255) (hn:n<2^(7*k)):(i64.wrap (BitVec.ofInt (IntKind.i64.bits) (n:Int)|||BitVec.ofInt (IntKind.i64.bits) (i64.wrap ((i64.wrap (BitVec.ofInt (IntKind.i64.bits) (i64.wrap (x:Int))&&&BitVec.ofInt (IntKind.i64.bits) 127).toNat)*2^(min (i64.wrap (7*(k:Int))).toNat IntKind.i64.bits)))).toNat)=((n+x%128*2^(7*k):Nat):Int):=by
 have hp:=aHP hk
 have h1:x%128≤127:=by omega
 have h2:x%128*2^(7*k)≤127*2^(7*k):=Nat.mul_le_mul_right _ h1
 have e:=aFr (n:=x) (m:=127) (by omega) (by omega)
 rw [aNe] at e
 rw [bO (n:=(x:Int)) (by omega) (by omega),show ((127:Int))=((127:Nat):Int) from rfl,e,aMF hk,aHp (by omega) (by omega),aNh hn]
theorem aOT {b:List Int} (hb:okB b) {k:Nat} (h:k<b.length) : ∃x:Nat,b[k]=(x:Int)∧x≤255:=by
 have:=hb.2 _ (qG h)
 exact ⟨b[k].toNat,by omega,by omega⟩
theorem rdS {b:List Int} (hb:okB b) (hl:b.length≤1048576) (a:Nat) (ha:(a:Int)≤9223372036854775807) : ∀(j k n m:Nat),j+k=6→n<2^(7*k)→j<m→cW b (a:Int) m (n:Int) (k:Int)=some (aLZ b a j k n)
 | _,_,_,0,_,_,h=>by omega
 | 0,k,n,m+1,hk,_,_=>by
  simp only [cW]
  rw [if_neg (by simp;omega)]
  rfl
 | j+1,k,n,m+1,hk,hn,hm=>by
  have h6:k<6:=by omega
  simp only [cW]
  rw [if_pos (by simp;omega),if_neg (by simp),bO (n:=(b.length:Int)-(k:Int)) (by omega) (by omega)]
  by_cases hlt:a+k<b.length
  ·obtain ⟨x,ex,hx⟩:=aOT hb hlt
   rw [if_neg (by simp;omega),show ((a:Int)+(k:Int))=((a+k:Nat):Int) from by omega,bO (n:=((a+k:Nat):Int)) (by omega) (by omega),aO hlt,qA,ex,cU (by omega),cU (by omega),if_pos (by rw [bO (by omega) (by omega)];simp;omega)]
   rw [uvS h6 hx hn,bO (n:=(x:Int)) (by omega) (by omega)]
   unfold aLZ
   rw [qF hlt,ex]
   dsimp only
   rw [qH]
   have ih:=rdS hb hl a ha j (k+1) (n+x%128*2^(7*k)) m (by omega) (aOt hn) (by omega)
   by_cases h1:x<128
   ·rw [if_pos (by simp;omega),if_pos h1]
    by_cases h2:x=0
    ·rw [if_pos (by simp [h2])]
     by_cases h3:0<k
     ·rw [if_pos (by simp;omega),if_pos (by simp [h2,h3])]
     ·rw [if_neg (by simp;omega)]
      by_cases h4:1000000000000<n+x%128*2^(7*k)
      ·rw [if_pos (by rw [qL];omega),if_pos (by rw [Bool.or_eq_true,qL];exact .inr h4)]
      ·rw [if_neg (by rw [qL];omega),if_neg (by rw [Bool.or_eq_true,qM,qL,qL,qL];omega)]
    ·rw [if_neg (by simp;omega)]
     by_cases h4:1000000000000<n+x%128*2^(7*k)
     ·rw [if_pos (by rw [qL];omega),if_pos (by rw [Bool.or_eq_true,qL];exact .inr h4)]
     ·rw [if_neg (by rw [qL];omega),if_neg (by rw [Bool.or_eq_true,qM,qL,qL,qL];omega)]
   ·rw [if_neg (by simp;omega),if_neg h1]
    exact ih
  ·rw [if_pos (by simp;omega)]
   unfold aLZ
   rw [qX (by omega)]
theorem kR {b:List Int} {p:Int} (hb:okB b) (hl:b.length≤1048576) (hp:inI p):dS b p=some (nUv b p):=by
 unfold dS nUv
 by_cases h:p<0
 ·have e : ∀m,cW b p (m+1) 0 0=some (0,0,false):=fun m=>by
   simp only [cW]
   rw [if_pos (by decide),if_pos (by simpa using h)]
  rw [if_pos h]
  exact e 18446744073709551615
 ·rw [if_neg h]
  obtain ⟨a,rfl⟩:=Int.eq_ofNat_of_zero_le (show 0≤p by omega)
  exact rdS hb hl a hp.2 6 0 0 fuel rfl (by decide) (by unfold fuel;omega)
theorem aJ9 (b:List Int) (a:Nat) : ∀(j k n:Nat),(aLZ b a j k n).2.2=false→aLZ b a j k n=(0,0,false)
 | 0,_,_,_=>rfl
 | j+1,k,n,h=>by
  unfold aLZ at h ⊢
  cases e:b[a+k]? with
  | none=>rfl
  | some x =>
   rw [e] at h
   dsimp only at h ⊢
   split at h
   ·split at h
    ·rename_i h1 h2;rw [if_pos h1,if_pos h2]
    ·cases h
   ·rename_i h1
    rw [if_neg h1]
    exact aJ9 b a j (k+1) _ h
theorem aPP {b:List Int} {p:Int} (h:(nUv b p).2.2=false):nUv b p=(0,0,false):=by
 unfold nUv at h ⊢
 split
 ·rfl
 ·rename_i h1
  rw [if_neg h1] at h
  exact aJ9 b _ 6 0 0 h
theorem aIp {b:List Int} (hb:okB b) (a:Nat) : ∀(j k n:Nat) (v q:Int),aLZ b a j k n=(v,q,true) → ∃m e:Nat,v=((n+m*2^(7*k):Nat):Int)∧q=(e:Int)∧n+m*2^(7*k)≤1000000000000∧e≤b.length∧a+k+(uv m).length=e∧b.drop (a+k)=uv m++b.drop e∧(k=0∨0<m)
 | 0,_,_,_,_,h=>by cases h
 | j+1,k,n,v,q,h=>by
  unfold aLZ at h
  by_cases hlt:a+k<b.length
  ·obtain ⟨x,ex,hx⟩:=aOT hb hlt
   have hd:b.drop (a+k)=(x:Int)::b.drop (a+k+1):=by rw [qV hlt,ex]
   rw [qF hlt,ex] at h
   dsimp only at h
   rw [qH] at h
   by_cases h1:x<128
   ·rw [if_pos h1,Nat.mod_eq_of_lt h1] at h
    split at h
    ·cases h
    ·rename_i h2
     rw [Bool.or_eq_true,qM,qL,qL,qL] at h2
     simp only [qZ] at h
     refine ⟨x,a+k+1,h.1.symm,h.2.1.symm,by omega,by omega,by rw [aDg h1];rfl,by rw [aDg h1];exact hd,by omega⟩
   ·rw [if_neg h1] at h
    obtain ⟨m,e,e1,e2,e3,e4,e5,e6,e7⟩:=aIp hb a j (k+1) _ v q h
    have hm:0<m:=by omega
    have ee:2^(7*(k+1))=128*2^(7*k):=by rw [show 7*(k+1)=7+7*k from by omega,Nat.pow_add]
    have e8:n+x%128*2^(7*k)+m*2^(7*(k+1))=n+(m*128+x%128)*2^(7*k):=by
     rw [ee,←Nat.mul_assoc,Nat.add_assoc,←Nat.add_mul,Nat.add_comm (x%128)]
    have hu:uv (m*128+x%128)=(x:Int)::uv m:=by
     rw [aH1 (by omega),show (m*128+x%128)/128=m from by omega,show (m*128+x%128)%128+128=x from by omega]
    rw [e8] at e1 e3
    refine ⟨m*128+x%128,e,e1,e2,e3,e4,by rw [hu,qJ];omega,by rw [hu,hd,List.cons_append];exact congrArg _ e6,.inr (by omega)⟩
  ·rw [qX (by omega)] at h
   cases h
theorem aHy {b:List Int} {p v q:Int} (hb:okB b) (h:nUv b p=(v,q,true)) : ∃a m e:Nat,p=(a:Int)∧v=(m:Int)∧q=(e:Int)∧m≤1000000000000∧e≤b.length∧a+(uv m).length=e∧b.drop a=uv m++b.drop e:=by
 unfold nUv at h
 split at h
 ·cases h
 ·obtain ⟨m,e,e1,e2,e3,e4,e5,e6,_⟩:=aIp hb p.toNat 6 0 0 v q h
  simp only [Nat.mul_zero,Nat.pow_zero,Nat.mul_one,Nat.zero_add,Nat.add_zero] at e1 e3 e5 e6
  exact ⟨p.toNat,m,e,by omega,e1,e2,e3,e4,e5,e6⟩
def nRb (b:List Int) (p c:Int):List Int×Int×Bool:=if (nUv b p).2.2=true then (if (nUv b p).1>c then (([]:List Int),0,false) else if (nUv b p).1>(b.length:Int)-(nUv b p).2.1 then (([]:List Int),0,false) else ((b.drop (nUv b p).2.1.toNat).take (nUv b p).1.toNat,(nUv b p).2.1+(nUv b p).1,true)) else (([]:List Int),0,false)
theorem aM7 {b:List Int} (h:okB b) (i j:Nat):okB ((b.drop i).take j):=⟨Nat.le_trans (by rw [qT,qU];omega) h.1,fun x hx=>h.2 x (List.mem_of_mem_drop (List.mem_of_mem_take hx))⟩
theorem mP {b:List Int} {p c:Int} (hb:okB b) (hl:b.length≤1048576) (hp:inI p):cV b p c=some (nRb b p c):=by
 unfold cV nRb
 rw [kR hb hl hp,qA]
 cases h:(nUv b p).2.2 with
 | false=>rfl
 | true =>
  obtain ⟨a,m,e,e1,e2,e3,e4,e5,e6,e7⟩:=aHy hb (show nUv b p=((nUv b p).1,(nUv b p).2.1,true) from by rw [←h])
  rw [e2,e3]
  simp only [qB,qD,if_false,if_true]
  by_cases h1:(m:Int)>c
  ·rw [if_pos (by simpa using h1),if_pos h1]
  ·rw [if_neg (by simpa using h1),if_neg h1,bO (n:=(b.length:Int)-(e:Int)) (by omega) (by omega)]
   by_cases h2:(m:Int)>(b.length:Int)-(e:Int)
   ·rw [if_pos (by simpa using h2),if_pos h2]
   ·rw [if_neg (by simpa using h2),if_neg h2,bO (n:=(e:Int)+(m:Int)) (by omega) (by omega)]
    have hs : ∀(α:Type) (xs:List α),xs.length=b.length→aK3 xs (e:Int) ((e:Int)+(m:Int))=some ((xs.take ((e:Int)+(m:Int)).toNat).drop (e:Int).toNat):=fun α xs hx=>by
     unfold aK3
     rw [if_pos ⟨by omega,by omega,by omega⟩]
    have hd:List.drop (e:Int).toNat (List.take ((e:Int)+(m:Int)).toNat b)=List.take m (List.drop e b):=by
     rw [qH,show ((e:Int)+(m:Int)).toNat=e+m from by omega,List.drop_take]
     congr 1
     omega
    rw [hs _ b rfl,qA,hd,qH,qH]
    have hk:(List.take m (List.drop e b)).length≤1048576:=by rw [qT,qU];omega
    rw [aGS (by omega) (by omega),qA]
theorem aPX {b:List Int} {p c:Int} (h:(nRb b p c).2.2=false):nRb b p c=(([]:List Int),0,false):=by
 unfold nRb at h ⊢
 split
 ·rename_i h1
  rw [if_pos h1] at h
  split
  ·rfl
  ·rename_i h2
   rw [if_neg h2] at h
   split
   ·rfl
   ·rename_i h3
    rw [if_neg h3] at h
    cases h
 ·rfl
theorem aOI {b s:List Int} {p c q:Int} (hb:okB b) (h:nRb b p c=(s,q,true)) : ∃a e:Nat,p=(a:Int)∧q=(e:Int)∧(s.length:Int)≤c∧e≤b.length∧s.length≤1000000000000∧a+(uv s.length).length+s.length=e∧b.drop a=uv s.length++(s++b.drop e)∧okB s:=by
 unfold nRb at h
 split at h
 ·rename_i h0
  obtain ⟨a,m,e,e1,e2,e3,e4,e5,e6,e7⟩:=aHy hb (show nUv b p=((nUv b p).1,(nUv b p).2.1,true) from by rw [←h0])
  rw [e2,e3] at h
  split at h
  ·cases h
  ·split at h
   ·cases h
   ·rename_i h1 h2
    simp only [qZ,qH] at h
    have hs:s.length=m:=by rw [←h.1,qT,qU];omega
    refine ⟨a,e+m,e1,by omega,by omega,by omega,by omega,by rw [hs];omega,?_,by rw [←h.1];exact aM7 hb _ _⟩
    rw [hs,e7,←h.1,←List.drop_drop,List.take_append_drop]
 ·cases h
theorem wW (s:ByteArray) : ∀x∈cH s,0≤x∧x≤255:=by
 intro x hx
 unfold cH at hx
 obtain ⟨b,_,rfl⟩:=List.mem_map.1 hx
 have:=b.toNat_lt
 omega
theorem aCo {l:List Int} (h : ∀x∈l,0≤x∧x≤255):cH (cK l)=l:=by
 unfold cH cK
 simp only [List.map_map]
 refine (List.map_congr_left fun x hx => ?_).trans (List.map_id l)
 have:=h x hx
 simp only [Function.comp_apply,UInt8.toNat_ofNat',id_eq]
 omega
theorem wX (l:List Int):(cK l).size=l.length:=by
 unfold cK
 show (l.map _).toArray.size=_
 simp
theorem aLe {L:Nat→Int→List Int→Option (List Int)} {b c:Int→Int}
  (h1 : ∀m (n:Nat) r,¬n<128→n<2^63→L (m+1) (n:Int) r=(app 1 r [b n]).bind fun _=>L m ((n/128:Nat):Int) (r++[b n]))
  (h2 : ∀m (n:Nat) r,n<128→L (m+1) (n:Int) r=(app 1 r [c n]).bind fun _=>some (r++[c n]))
  (hb : ∀n:Nat,n<2^63→b n=((n%128+128:Nat):Int)) (hc : ∀n:Nat,n<128→c n=(n:Int)) :
  ∀(j m n:Nat) (r:List Int),n<2^(7*(j+1))→n<2^63→j<m→r.length+(j+1)≤140737488355328→L m (n:Int) r=some (r++uv n)
 | j,0,n,r,_,_,hm,_=>by omega
 | 0,m+1,n,r,hn,hn2,hm,hr=>by
  have h:n<128:=by simpa using hn
  rw [h2 m n r h,fC (by simp;omega),qA,hc n h,aDg h]
 | j+1,m+1,n,r,hn,hn2,hm,hr=>by
  by_cases h:n<128
  ·rw [h2 m n r h,fC (by simp;omega),qA,hc n h,aDg h]
  ·have hd:n/128<2^(7*(j+1)):=by
    rw [Nat.div_lt_iff_lt_mul (by omega)]
    have e:2^(7*(j+1+1))=2^(7*(j+1))*128:=by rw [show 7*(j+1+1)=7*(j+1)+7 by omega,Nat.pow_add]
    omega
   rw [h1 m n r h hn2,fC (by simp;omega),qA,aLe h1 h2 hb hc j m (n/128) (r++[b n]) hd (by omega) (by omega) (by simp;omega),hb n hn2,aH1 h,qS]
   rfl
theorem u8n {n:Nat} (h:n<128):IntKind.u8.wrap (n:Int)=(n:Int):=by rw [wrap_u8];omega
theorem u8S {n:Nat} (h:n<2^63):IntKind.u8.wrap (i64.wrap (BitVec.ofInt (IntKind.i64.bits) (i64.wrap (BitVec.ofInt (IntKind.i64.bits) (n:Int)&&&BitVec.ofInt (IntKind.i64.bits) 127).toNat)|||BitVec.ofInt (IntKind.i64.bits) 128).toNat)=((n%128+128:Nat):Int):=by
 have h1:n%128≤127:=by omega
 have e:=aFr (n:=n) (m:=127) (by omega) (by omega)
 rw [aNe] at e
 have e2:=aHp (n:=n%128) (m:=128) (by omega) (by omega)
 rw [aQs (by omega)] at e2
 rw [show ((127:Int))=((127:Nat):Int) from rfl,e,show ((128:Int))=((128:Nat):Int) from rfl,e2,wrap_u8]
 omega
theorem iT {r:List Int} {n:Nat} (hr:r.length≤16777216) (hn:n≤1000000000000):bD r (n:Int)=some (r++uv n):=by
 have hi:inR (n:Int) 0 1000000000000=true:=by unfold inR;simp;omega
 unfold bD
 rw [fC (by simp;omega),qA,dQ,qA,hi,if_neg (by simp)]
 refine aLe (L:=bT) (b:=fun v=>IntKind.u8.wrap (i64.wrap (BitVec.ofInt (IntKind.i64.bits) (i64.wrap (BitVec.ofInt (IntKind.i64.bits) v&&&BitVec.ofInt (IntKind.i64.bits) 127).toNat)|||BitVec.ofInt (IntKind.i64.bits) 128).toNat)) (c:=fun v=>IntKind.u8.wrap v) (fun m n r h1 h2 => ?_) (fun m n r h1 => ?_) (fun n h=>u8S h) (fun n h=>u8n h) 8 fuel n r (by omega) (by omega) (by unfold fuel;omega) (by omega)
 ·simp only [bT]
  rw [if_pos (by simp;omega),uvf]
 ·simp only [bT]
  rw [if_neg (by simp;omega)]
def aE5 (b:List Int):List Int:=uv b.length++b
theorem kQ {r b:List Int} (hr:r.length≤8388608) (hb:b.length≤1000000):bC r b=some (r++aE5 b):=by
 have h9:=aCe (n:=b.length) (by omega)
 unfold bC aE5
 rw [iT (by omega) (by omega),qA,fC (by rw [qE];omega),qA,qS]
def aGc {α:Type} (f:α→List Int):List α→List Int
 | []=>[]
 | x::l=>f x++aGc f l
theorem aGN {α:Type} {f:α→List Int} {c:Nat} : ∀ {l:List α},(∀x∈l,(f x).length≤c)→(aGc f l).length≤l.length*c
 | [],_=>by simp [aGc]
 | x::l,h=>by
  have h1:=h x (by simp)
  have h2:=aGN (l:=l) (fun y hy=>h y (by simp [hy]))
  simp only [aGc,qE,qJ,Nat.succ_mul]
  omega
theorem aL0 {α:Type} {R:Type} {xs:List α} {f:α→List Int} {c B:Nat} {L:Nat→Int→List Int→Option R} {E:List Int→Option R} (hc : ∀x∈xs,(f x).length≤c)
  (h1 : ∀n (k:Nat) (hk:k<xs.length) q,q.length≤B→L (n+1) (k:Int) q=L n ((k+1:Nat):Int) (q++f xs[k]))
  (h2 : ∀n q,q.length≤B→L (n+1) (xs.length:Int) q=E q) :
  ∀(n k:Nat) (q:List Int),xs.length-k<n→k≤xs.length→q.length+(xs.length-k)*c≤B→L n (k:Int) q=E (q++aGc f (xs.drop k))
 | 0,_,_,h,_,_=>by omega
 | n+1,k,q,h,hk,hq=>by
  rcases Nat.lt_or_ge k xs.length with hlt | hge
  ·have hx:=hc _ (qG hlt)
   have e:(xs.length-k)*c=(xs.length-(k+1))*c+c:=by rw [←Nat.succ_mul];congr 1;omega
   rw [h1 n k hlt q (by omega),aL0 hc h1 h2 n (k+1) (q++f xs[k]) (by omega) (by omega) (by rw [qE];omega),qV hlt,aGc,qS]
  ·have e:k=xs.length:=by omega
   subst e
   rw [h2 n q (by omega),qY,aGc,qW]
def enF (x:M.Field):List Int:=aE5 (cH x.Name)++uv x.N.toNat
def enR (r:M.aC):List Int:=if bL r=true then uv r.Fields.length++aGc enF r.Fields else []
theorem aKb {x:M.Field} (h:x.Name.size≤8∧0≤x.N∧x.N≤1000000000):(enF x).length≤14:=by
 have h1:=zK 0 x.Name.size (by omega)
 have h2:=zK 4 x.N.toNat (by omega)
 have h3:=aQ x.Name
 unfold enF aE5
 simp only [qE,h3]
 omega
theorem aFz (r:M.aC):(enR r).length≤85:=by
 unfold enR
 split
 ·rename_i h
  obtain ⟨h6,hf⟩:=pD h
  have h1:=zK 0 r.Fields.length (by omega)
  have h2:=aGN (f:=enF) (fun x hx=>aKb (hf x hx))
  rw [qE]
  have:r.Fields.length*14≤6*14:=Nat.mul_le_mul_right _ h6
  omega
 ·simp
theorem aBc {r:M.aC} (hr:r.ok):eB r=some (enR r):=by
 unfold eB enR
 rw [kI hr,qA]
 by_cases h:bL r=true
 ·obtain ⟨h6,hf⟩:=pD h
  have h1:=zK 0 r.Fields.length (by omega)
  rw [if_neg (by simp [h]),if_pos h,iT (by simp) (by omega),qA,List.nil_append]
  have:=aL0 (xs:=r.Fields) (f:=enF) (c:=14) (B:=1000) (L:=bW r) (E:=some) (fun x hx=>aKb (hf x hx)) (fun n k hk q hq => ?_) (fun n q _ => ?_) fuel 0 (uv r.Fields.length) (by unfold fuel;omega) (by omega) (by omega)
  ·rw [List.drop_zero] at this
   exact this
  ·have hx:=hf _ (qG hk)
   simp only [bW]
   have h9:=aCe (n:=r.Fields[k].Name.size) (by omega)
   have hs:=aQ r.Fields[k].Name
   have hb:(aE5 (cH r.Fields[k].Name)).length≤14:=by unfold aE5;rw [qE,hs];omega
   have e:=iT (r:=q++aE5 (cH r.Fields[k].Name)) (n:=r.Fields[k].N.toNat) (by rw [qE];omega) (by omega)
   rw [Int.toNat_of_nonneg hx.2.1] at e
   rw [if_pos (bI hk),aO hk,qA,kQ (by omega) (by omega),qA,e,qA,cU (by omega),qS]
   rfl
  ·simp only [bW]
   rw [if_neg (by rw [aW];simp)]
 ·rw [if_pos (by simp [h]),if_neg h]
end Go.Proofs.YtidhkhdnjonjfaaGreat.gen
