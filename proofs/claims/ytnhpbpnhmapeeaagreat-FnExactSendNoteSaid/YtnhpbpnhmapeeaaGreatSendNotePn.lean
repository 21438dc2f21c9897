/-
  Helper text. No conditions.
-/
import Derived.Test.YtnhpbpnhmapeeaaGreatSendNotePm2
namespace Go.Proofs.YtnhpbpnhmapeeaaGreat.gen
open Go Go.Sh
set_option linter.unusedVariables false
set_option linter.unusedSimpArgs false
theorem aOI {α:Type} {l:List α} {k:Nat} (h:k≤l.length):aKK l (k:Int)=some (l.drop k):=by
 unfold aKK
 rw [if_pos ⟨by omega,by simpa using h⟩]
 simp
theorem aH6 : ∀ {a b c:List UInt8},Op.bytesLess a b=true→Op.bytesLess b c=true→Op.bytesLess a c=true
 | [],[],_,h,_=>by cases h
 | _::_,[],_,h,_=>by cases h
 | _,_::_,[],_,h=>by cases h
 | [],_::_,_::_,_,_=>rfl
 | x::a,y::b,z::c,h1,h2=>by
  have e1:Op.bytesLess (x::a) (y::b)=(decide (x<y)||((x==y)&&Op.bytesLess a b)):=rfl
  have e2:Op.bytesLess (y::b) (z::c)=(decide (y<z)||((y==z)&&Op.bytesLess b c)):=rfl
  have e3:Op.bytesLess (x::a) (z::c)=(decide (x<z)||((x==z)&&Op.bytesLess a c)):=rfl
  rw [e1,Bool.or_eq_true,Bool.and_eq_true,decide_eq_true_eq,UInt8.lt_iff_toNat_lt] at h1
  rw [e2,Bool.or_eq_true,Bool.and_eq_true,decide_eq_true_eq,UInt8.lt_iff_toNat_lt] at h2
  rw [e3,Bool.or_eq_true,Bool.and_eq_true,decide_eq_true_eq,UInt8.lt_iff_toNat_lt]
  rcases h1 with h1 | ⟨h1,h1'⟩<;>rcases h2 with h2 | ⟨h2,h2'⟩
  ·exact .inl (by omega)
  ·exact .inl (by rw [←eq_of_beq h2];exact h1)
  ·exact .inl (by rw [eq_of_beq h1];exact h2)
  ·exact .inr ⟨by rw [eq_of_beq h1];exact h2,aH6 h1' h2'⟩
theorem aEk {α:Type} {f:α→Bool} : ∀ {l:List α} {k:Nat},(∀(j:Nat) (hj:j<l.length),j<k→f l[j]=true)→(∀(hk:k<l.length),f l[k]=false)→k≤l.length→(l.takeWhile f).length=k
 | [],k,_,_,h=>by simp at h;simp [h]
 | x::l,0,_,h,_=>by
  have:=h (by simp)
  simp only [List.getElem_cons_zero] at this
  rw [List.takeWhile_cons,if_neg (by rw [this];simp)]
  rfl
 | x::l,k+1,h1,h2,h3=>by
  have:=h1 0 (by simp) (by omega)
  simp only [List.getElem_cons_zero] at this
  rw [List.takeWhile_cons,if_pos this,List.length_cons,aEk (k:=k) (fun j hj hjk => ?_) (fun hk => ?_) (by simpa using h3)]
  ·have:=h1 (j+1) (by simp;omega) (by omega)
   simpa using this
  ·have:=h2 (by simp;omega)
   simpa using this
theorem aFe {α:Type} {f:α→Bool} : ∀ {l:List α} (j:Nat) (hj:j<l.length),j<(l.takeWhile f).length→f l[j]=true
 | [],j,hj,_=>by simp at hj
 | x::l,j,hj,h=>by
  rw [List.takeWhile_cons] at h
  split at h
  ·rename_i hx
   cases j with
   | zero=>exact hx
   | succ j=>exact aFe j (by simpa using hj) (by simpa using h)
  ·simp at h
theorem aFn {α:Type} {f:α→Bool} : ∀ {l:List α} (hk:(l.takeWhile f).length<l.length),f (l[(l.takeWhile f).length])=false
 | [],hk=>by simp at hk
 | x::l,hk=>by
  cases hx:f x with
  | false=>simp [List.takeWhile_cons,hx]
  | true =>
   have hk':(l.takeWhile f).length<l.length:=by
    rw [List.takeWhile_cons,if_pos hx] at hk
    simpa using hk
   have:=aFn hk'
   simpa [List.takeWhile_cons,hx] using this
theorem aFS {α:Type} {f:α→Bool} {l:List α} {k:Nat} (h:aAM f l=(k:Int)) : ∃hk:k<l.length,f l[k]=true:=by
 unfold aAM at h
 cases e:l.findIdx? f with
 | none=>rw [e] at h;simp only at h;omega
 | some i =>
  rw [e] at h
  simp only at h
  have:i=k:=by omega
  subst this
  obtain ⟨h1,h2,_⟩:=List.findIdx?_eq_some_iff_getElem.1 e
  exact ⟨h1,h2⟩
theorem aHt {α:Type} {f:α→Bool} {l:List α} (h:aAM f l<0) : ∀x∈l,f x=false:=by
 have h2:=aIR f l
 rw [decide_eq_false (by omega)] at h2
 intro x hx
 cases hf:f x with
 | false=>rfl
 | true =>
  have:l.any f=true:=List.any_eq_true.2 ⟨x,hx,hf⟩
  rw [←h2] at this
  cases this
theorem aMW {r:M.aH} (h:eR r=true) (k:Nat) (hk:k+1<r.Fields.length):Op.bytesLess r.Fields[k].Name.toList r.Fields[k+1].Name.toList=true:=by
 unfold eR at h
 rw [Bool.and_eq_true,List.all_eq_true] at h
 have:=h.1 (k+1) (List.mem_range.2 hk)
 unfold aCi at this
 rw [List.getElem?_eq_getElem hk,Nat.add_sub_cancel,List.getElem?_eq_getElem (show k<r.Fields.length by omega)] at this
 simp only [Option.any_some,Bool.and_eq_true] at this
 simpa using this.2
theorem aOF {r:M.aH} (h:eR r=true) : ∀(d i:Nat) (hj:i+d+1<r.Fields.length),Op.bytesLess r.Fields[i].Name.toList r.Fields[i+d+1].Name.toList=true
 | 0,i,hj=>aMW h i hj
 | d+1,i,hj=>aH6 (aOF h d i (by omega)) (aMW h (i+d+1) hj)
def aJU (a:ByteArray) (x:M.Field):Bool:=Op.bytesLess x.Name.toList a.toList
def aIZ (l:List M.Field) (a:ByteArray):Nat:=(l.takeWhile (aJU a)).length
theorem aKz (l:List M.Field) (a:ByteArray):aIZ l a≤l.length:=(List.takeWhile_prefix _).length_le
theorem aJ3 {r:M.aH} {a:ByteArray} (h:eR r=true) {k:Nat} (hk:k<r.Fields.length) (hf:jA a r.Fields[k]=true):aIZ r.Fields a=k:=by
 have e:r.Fields[k].Name.toList=a.toList:=eq_of_beq hf
 refine aEk (fun j hj hjk => ?_) (fun _ => ?_) (by omega)
 ·unfold aJU
  rw [←e]
  have:=aOF h (k-j-1) j (by omega)
  have e2:j+(k-j-1)+1=k:=by omega
  simp only [e2] at this
  exact this
 ·unfold aJU
  rw [e]
  exact aG1 _
def aJb (r:M.aH) (a:ByteArray) (n:Int):List M.Field:=if aAM (jA a) r.Fields<0 then r.Fields.take (aIZ r.Fields a)++([(⟨a,n⟩:M.Field)]++r.Fields.drop (aIZ r.Fields a))
 else (match r.Fields[(aAM (jA a) r.Fields).toNat]? with | some x=>r.Fields.set (aAM (jA a) r.Fields).toNat (⟨x.Name,n⟩:M.Field) | none=>r.Fields)
def aHP (r:M.aH) (l:List M.Field):M.aH×Bool:=if eR r=true then (if eR (⟨l⟩:M.aH)=true then ((⟨l⟩:M.aH),true) else (r,false)) else (r,false)
def aHE (r:M.aH) (a:ByteArray) (n:Int):M.aH×Bool:=aHP r (aJb r a n)
theorem aDg {r:M.aH} (h:eR r=false) (l:List M.Field):aHP r l=(r,false):=by unfold aHP;rw [h,if_neg (by simp)]
theorem aMV {r:M.aH} {a:ByteArray} {n:Int} (k:Nat) (hr:r.ok) (hl:r.Fields.length≤1073741824) (ha:a.size≤maxLen) (hn:inI n):M.aH.ok (⟨r.Fields.take k++([(⟨a,n⟩:M.Field)]++r.Fields.drop k)⟩:M.aH):=
 ⟨⟨by show (r.Fields.take k++([(⟨a,n⟩:M.Field)]++r.Fields.drop k)).length≤maxLen;unfold maxLen;simp only [List.length_append,List.length_take,List.length_drop,List.length_cons,List.length_nil];omega,fun y hy=>by
  have hy':y∈r.Fields.take k++([(⟨a,n⟩:M.Field)]++r.Fields.drop k):=hy
  simp only [List.mem_append,List.mem_cons,List.not_mem_nil,or_false] at hy'
  rcases hy' with h | rfl | h
  ·exact hr.Fields.2 y (List.mem_of_mem_take h)
  ·exact ⟨ha,hn⟩
  ·exact hr.Fields.2 y (List.mem_of_mem_drop h)⟩⟩
theorem aKE {r:M.aH} {n:Int} {k:Nat} (hk:k<r.Fields.length) (hr:r.ok) (hn:inI n):M.aH.ok (⟨r.Fields.set k (⟨r.Fields[k].Name,n⟩:M.Field)⟩:M.aH):=
 ⟨⟨by show (r.Fields.set k _).length≤maxLen;rw [List.length_set];exact hr.Fields.1,fun y hy=>by
  have hy':y∈r.Fields.set k (⟨r.Fields[k].Name,n⟩:M.Field):=hy
  rcases List.mem_or_eq_of_mem_set hy' with h | rfl
  ·exact hr.Fields.2 y h
  ·exact ⟨(hr.Fields.2 _ (List.getElem_mem hk)).Name,hn⟩⟩⟩
theorem aHe {r:M.aH} {l:List M.Field} (hr:r.ok) (hz:M.aH.sz r≤1073741824) (hl:M.aH.ok (⟨l⟩:M.aH)) :
  ((bN r).bind fun x=>(if (!x)=true then ((bQ r).bind fun y=>(some (y,false))) else ((bN (⟨l⟩:M.aH)).bind fun z=>(if (!z)=true then ((bQ r).bind fun y=>(some (y,false))) else (some ((⟨l⟩:M.aH),true))))))=some (aHP r l):=by
 rw [xF hr,Option.bind_some,aAp r hz,xF hl]
 unfold aHP
 cases eR r
 ·simp
 ·cases eR (⟨l⟩:M.aH)<;>simp
theorem aHl {r:M.aH} {l:List M.Field} (hr:r.ok) (hz:M.aH.sz r≤1073741824) (hl:M.aH.ok (⟨l⟩:M.aH)) :
  ((cF r).bind fun x=>(if (!x)=true then ((bI r).bind fun y=>(some (y,false))) else ((cF (⟨l⟩:M.aH)).bind fun z=>(if (!z)=true then ((bI r).bind fun y=>(some (y,false))) else (some ((⟨l⟩:M.aH),true))))))=some (aHP r l):=by
 rw [aAX hr,Option.bind_some,mN r hz,aAX hl]
 unfold aHP
 cases eR r
 ·simp
 ·cases eR (⟨l⟩:M.aH)<;>simp
def tFI (r:M.aH) (a:ByteArray) (n:Int) (k:Nat):Option (M.aH×Bool):=(aEw 24 r.Fields (k:Int) ([(⟨a,n⟩:M.Field)])).bind fun _=>((cF r).bind fun x57=>(if (!x57)=true then ((bI r).bind fun x60=>(some (x60,false))) else ((cF (⟨(List.take (k:Int).toNat r.Fields++([(⟨a,n⟩:M.Field)]++List.drop (k:Int).toNat r.Fields))⟩:M.aH)).bind fun x62=>(if (!x62)=true then ((bI r).bind fun x65=>(some (x65,false))) else (some ((⟨(List.take (k:Int).toNat r.Fields++([(⟨a,n⟩:M.Field)]++List.drop (k:Int).toNat r.Fields))⟩:M.aH),true))))))
theorem aG4 {r:M.aH} {a:ByteArray} {n:Int} (hr:r.ok) (hz:M.aH.sz r≤1073741824) (ha:a.size≤maxLen) (hn:inI n):pW r a n=some (aHE r a n):=by
 have hl:r.Fields.length≤1073741824:=by simp only [M.aH.sz] at hz;omega
 unfold pW uV aHE aJb
 rw [mN r hz,Option.bind_some,aCV (f:=jA a) hr.Fields.1 (fun x _=>by simp only [nS];rfl),Option.bind_some,Option.bind_some]
 by_cases h:aAM (jA a) r.Fields<0
 ·rw [if_neg (by simp;omega),if_pos h,aFV (l:=r.Fields) (f:=aJU a) (L:=gW r a n r) (S:=tFI r a n) hr.Fields.1 (fun m k hk => ?_) (fun m => ?_)]
  ·show tFI r a n (aIZ r.Fields a)=_
   have hp:=aKz r.Fields a
   unfold tFI
   rw [aGG (by simp only [Int.toNat_natCast,List.length_cons,List.length_nil];omega),Option.bind_some,Int.toNat_natCast]
   exact aHl hr hz (aMV _ hr hl ha hn)
  ·simp only [gW]
   rw [if_pos (bF hk),aQ hk,Option.bind_some,bH (by omega)]
   rfl
  ·simp only [gW]
   rw [if_neg (by rw [aT];simp)]
   rfl
 ·obtain ⟨k,e,hk⟩:=oZ h
  rw [if_pos (by simpa using h),if_neg h,e,aQ hk,Option.bind_some,Int.toNat_natCast,List.getElem?_eq_getElem hk]
  have ht:=aHl hr hz (aKE hk hr hn)
  rw [mN r hz] at ht
  exact ht
def tFA (r:M.aH) (a:ByteArray) (n:Int) (k:Nat):Option (M.aH×Bool):=(idx r.Fields (k:Int)).bind fun x22=>((bN r).bind fun x35=>(if (!x35)=true then ((bQ r).bind fun x38=>(some (x38,false))) else ((bN (⟨(List.set r.Fields (k:Int).toNat (⟨x22.Name,n⟩:M.Field))⟩:M.aH)).bind fun x40=>(if (!x40)=true then ((bQ r).bind fun x43=>(some (x43,false))) else (some ((⟨(List.set r.Fields (k:Int).toNat (⟨x22.Name,n⟩:M.Field))⟩:M.aH),true))))))
def tFB (r:M.aH) (a:ByteArray) (n:Int) (k:Nat):Option (M.aH×Bool):=(aDO r.Fields (k:Int)).bind fun _=>((app 24 ([]:List M.Field) (List.take (k:Int).toNat r.Fields)).bind fun _=>((app 24 (List.take (k:Int).toNat r.Fields) ([(⟨a,n⟩:M.Field)])).bind fun _=>((aKK r.Fields (k:Int)).bind fun _=>((app 24 ((List.take (k:Int).toNat r.Fields)++[(⟨a,n⟩:M.Field)]) (List.drop (k:Int).toNat r.Fields)).bind fun _=>((bN r).bind fun x63=>(if (!x63)=true then ((bQ r).bind fun x66=>(some (x66,false))) else ((bN (⟨(((List.take (k:Int).toNat r.Fields)++[(⟨a,n⟩:M.Field)])++(List.drop (k:Int).toNat r.Fields))⟩:M.aH)).bind fun x68=>(if (!x68)=true then ((bQ r).bind fun x71=>(some (x71,false))) else (some ((⟨(((List.take (k:Int).toNat r.Fields)++[(⟨a,n⟩:M.Field)])++(List.drop (k:Int).toNat r.Fields))⟩:M.aH),true))))))))))
def tFS (r:M.aH) (a:ByteArray) (n:Int) (k:Nat):Option (M.aH×Bool):=match r.Fields[k]? with | some x=>if (x.Name.toList==a.toList)=true then tFA r a n k else tFB r a n k | none=>tFB r a n k
theorem aOB {r:M.aH} {a:ByteArray} {n:Int} {k:Nat} (hk:k≤r.Fields.length) (hr:r.ok) (hz:M.aH.sz r≤1073741824) (ha:a.size≤maxLen) (hn:inI n):tFB r a n k=some (aHP r (r.Fields.take k++([(⟨a,n⟩:M.Field)]++r.Fields.drop k))):=by
 have hl:r.Fields.length≤1073741824:=by simp only [M.aH.sz] at hz;omega
 unfold tFB
 rw [aGq hk,Option.bind_some,Int.toNat_natCast,aE6 (by rw [List.length_take];omega) (by omega),Option.bind_some,rR (by simp only [List.length_take,List.length_cons,List.length_nil];omega),Option.bind_some,aOI hk,Option.bind_some,rR (by simp only [List.length_append,List.length_take,List.length_drop,List.length_cons,List.length_nil];omega),Option.bind_some,List.append_assoc]
 exact aHe hr hz (aMV k hr hl ha hn)
theorem aGk {r:M.aH} {a:ByteArray} {n:Int} (hr:r.ok) (hz:M.aH.sz r≤1073741824) (ha:a.size≤maxLen) (hn:inI n):rJ r a n=some (aHE r a n):=by
 have hl:r.Fields.length≤1073741824:=by simp only [M.aH.sz] at hz;omega
 have hp:=aKz r.Fields a
 unfold rJ
 rw [aAp r hz,Option.bind_some,aFV (l:=r.Fields) (f:=aJU a) (L:=gV r a n r) (S:=tFS r a n) hr.Fields.1 (fun m k hk => ?_) (fun m => ?_)]
 ·show tFS r a n (aIZ r.Fields a)=_
  unfold tFS aHE
  rcases Nat.lt_or_ge (aIZ r.Fields a) r.Fields.length with h | h
  ·rw [List.getElem?_eq_getElem h]
   simp only
   by_cases hf:(r.Fields[aIZ r.Fields a].Name.toList==a.toList)=true
   ·rw [if_pos hf]
    unfold tFA
    rw [aQ h,Option.bind_some,Int.toNat_natCast,aHe hr hz (aKE h hr hn)]
    cases hR:eR r with
    | false=>rw [aDg hR,aDg hR]
    | true =>
     have hnot : ¬aAM (jA a) r.Fields<0:=fun h0=>by
      have:=aHt h0 _ (List.getElem_mem h)
      rw [show jA a r.Fields[aIZ r.Fields a]=true from hf] at this
      cases this
     obtain ⟨k,e,hk⟩:=oZ hnot
     obtain ⟨_,hfk⟩:=aFS e
     have hpk:=aJ3 hR hk hfk
     unfold aJb
     rw [if_neg hnot,e,Int.toNat_natCast,List.getElem?_eq_getElem hk]
     simp only [hpk]
   ·rw [if_neg hf,aOB hp hr hz ha hn]
    cases hR:eR r with
    | false=>rw [aDg hR,aDg hR]
    | true =>
     have hneg:aAM (jA a) r.Fields<0:=Classical.byContradiction fun hnot=>by
      obtain ⟨k,e,hk⟩:=oZ hnot
      obtain ⟨_,hfk⟩:=aFS e
      have hpk:=aJ3 hR hk hfk
      apply hf
      simp only [hpk]
      exact hfk
     unfold aJb
     rw [if_pos hneg]
  ·rw [List.getElem?_eq_none h]
   simp only
   rw [aOB hp hr hz ha hn]
   cases hR:eR r with
   | false=>rw [aDg hR,aDg hR]
   | true =>
    have hneg:aAM (jA a) r.Fields<0:=Classical.byContradiction fun hnot=>by
     obtain ⟨k,e,hk⟩:=oZ hnot
     obtain ⟨_,hfk⟩:=aFS e
     have hpk:=aJ3 hR hk hfk
     omega
    unfold aJb
    rw [if_pos hneg]
 ·simp only [gV]
  rw [if_pos (bF hk),aQ hk,Option.bind_some,bH (by omega)]
  unfold tFS
  rw [List.getElem?_eq_getElem hk]
  simp only
  unfold tFA
  rw [aQ hk]
  rfl
 ·simp only [gV]
  rw [if_neg (by rw [aT];simp)]
  unfold tFS
  rw [List.getElem?_eq_none (Nat.le_refl _)]
  rfl
def aBN (k:M.Key) (x:M.Item):Bool:=(x.Key.Kind==k.Kind)&&((x.Key.N==k.N)&&(x.Key.Text.toList==k.Text.toList))
theorem aDU {s:M.aE} {k:M.Key} (hs:s.ok):qH s k=some (aAM (aBN k) s.Items):=by
 have hm:=le_max hs.Items.1
 unfold qH
 rw [findAll (L:=iS s k) (f:=aBN k) (A:=fun i=>some (i:Int)) (E:=some (-1)) hs.Items.1 (fun m j hj => ?_) (fun m => ?_),aAw]
 ·simp only [iS]
  rw [if_pos (bF hj),aQ hj,Option.bind_some,bH (by omega)]
  rfl
 ·simp only [iS]
  rw [if_neg (by rw [aT];simp)]
theorem aDE {s:M.aE} {k:M.Key} (hs:s.ok):qF s k=some (aAM (aBN k) s.Items):=by
 unfold qF
 rw [aF7 (f:=aBN k) hs.Items.1 (fun x _=>by simp only [rL];rfl),Option.bind_some]
theorem aNO {x y:M.Key} (hx:aDy x=true) (hy:aDy y=true) (h : ¬dU x y<0) (hne:((x.Kind==y.Kind)&&((x.N==y.N)&&(x.Text.toList==y.Text.toList)))=false):dU y x<0:=by
 unfold dU at *
 rw [if_pos ⟨hx,hy⟩] at h
 rw [if_pos ⟨hy,hx⟩]
 by_cases hk:x.Kind=y.Kind
 ·rw [if_pos hk] at h
  rw [if_pos hk.symm]
  by_cases hn:x.N=y.N
  ·rw [if_pos hn] at h
   rw [if_pos hn.symm]
   have hb:(x.Text.toList==y.Text.toList)=false:=by simpa [hk,hn] using hne
   have hl:Op.bytesLess x.Text.toList y.Text.toList=false:=by
    cases e:Op.bytesLess x.Text.toList y.Text.toList with
    | false=>rfl
    | true=>rw [e,if_pos rfl] at h;omega
   have ht:=aBj x.Text.toList y.Text.toList
   rw [hl,Bool.beq_comm,hb,Bool.or_false] at ht
   have h2:Op.bytesLess y.Text.toList x.Text.toList=true:=by
    cases e:Op.bytesLess y.Text.toList x.Text.toList with
    | true=>rfl
    | false=>rw [e] at ht;cases ht
   rw [if_pos h2]
   omega
  ·rw [if_neg hn] at h
   rw [if_neg (fun e=>hn e.symm)]
   by_cases hlt:x.N<y.N
   ·rw [if_pos hlt] at h;omega
   ·rw [if_pos (by omega)];omega
 ·rw [if_neg hk] at h
  rw [if_neg (fun e=>hk e.symm)]
  by_cases hlt:x.Kind<y.Kind
  ·rw [if_pos hlt] at h;omega
  ·rw [if_pos (by omega)];omega
theorem aIv {l:List M.Item} (h1 : ∀(k:Nat) (x:M.Item),l[k]? = some x→aDy x.Key=true∧eR x.aH=true) (h2 : ∀(k:Nat) (x y:M.Item),l[k]? = some x→l[k+1]? = some y→dU x.Key y.Key<0):(List.range l.length).all (aBF l)=true:=by
 rw [List.all_eq_true]
 intro k hk
 have hk:=List.mem_range.1 hk
 unfold aBF
 obtain ⟨a1,a2⟩:=h1 k _ (List.getElem?_eq_getElem hk)
 cases k with
 | zero=>rw [List.getElem?_eq_getElem hk];simp [a1,a2]
 | succ k =>
  have hk':k<l.length:=by omega
  have b:=h2 k _ _ (List.getElem?_eq_getElem hk') (List.getElem?_eq_getElem hk)
  rw [List.getElem?_eq_getElem hk,Nat.add_sub_cancel,List.getElem?_eq_getElem hk']
  simp [a1,a2,b]
theorem aGN {l:List M.Item} (h:(List.range l.length).all (aBF l)=true):(∀(k:Nat) (x:M.Item),l[k]? = some x→aDy x.Key=true∧eR x.aH=true)∧(∀(k:Nat) (x y:M.Item),l[k]? = some x→l[k+1]? = some y→dU x.Key y.Key<0):=by
 rw [List.all_eq_true] at h
 refine ⟨fun k x hx => ?_,fun k x y hx hy => ?_⟩
 ·have hk:k<l.length:=(List.getElem?_eq_some_iff.1 hx).1
  have:=h k (List.mem_range.2 hk)
  unfold aBF at this
  rw [hx] at this
  simp only [Option.any_some,Bool.and_eq_true] at this
  exact this.1
 ·have hk:k+1<l.length:=(List.getElem?_eq_some_iff.1 hy).1
  have:=h (k+1) (List.mem_range.2 hk)
  unfold aBF at this
  rw [hy,Nat.add_sub_cancel,hx] at this
  simp only [Option.any_some,Bool.and_eq_true] at this
  simpa using this.2
theorem aMa {α:Type} {l:List α} {p:Nat} {x:α} (hp:p≤l.length) (k:Nat):(l.take p++([x]++l.drop p))[k]? = if k<p then l[k]? else if k=p then some x else l[k-1]? := by
 have hl:(l.take p).length=p:=by rw [List.length_take];omega
 rw [List.getElem?_append,hl]
 by_cases h1:k<p
 ·rw [if_pos h1,if_pos h1,List.getElem?_take_of_lt h1]
 ·rw [if_neg h1,if_neg h1]
  by_cases h2:k=p
  ·subst h2;simp
  ·rw [if_neg h2]
   obtain ⟨d,rfl⟩ : ∃d,k=p+1+d:=⟨k-p-1,by omega⟩
   rw [show p+1+d-p=d+1 by omega,List.singleton_append,List.getElem?_cons_succ,List.getElem?_drop,show p+1+d-1=p+d by omega]
def aEU (k:M.Key) (x:M.Item):Bool:=decide (dU x.Key k<0)
def aBX (l:List M.Item) (k:M.Key):Nat:=(l.takeWhile (aEU k)).length
theorem aIU (l:List M.Item) (k:M.Key):aBX l k≤l.length:=(List.takeWhile_prefix _).length_le
def aKN (s:M.aE) (k:M.Key):Int:=if ((k.Kind==1)&&(decide (k.N>s.Auto)&&decide (k.N≤1000000)))=true then k.N else s.Auto
def aNT (s:M.aE) (k:M.Key) (r:M.aH):M.aE:=(⟨s.Name,s.Items.take (aBX s.Items k)++([(⟨k,r⟩:M.Item)]++s.Items.drop (aBX s.Items k)),aKN s k⟩:M.aE)
def aJS (s:M.aE) (i:Nat) (r:M.aH):M.aE:=(⟨s.Name,(match s.Items[i]? with | some x=>s.Items.set i (⟨x.Key,r⟩:M.Item) | none=>s.Items),s.Auto⟩:M.aE)
def aEE (s:M.aE) (k:M.Key) (r:M.aH):M.aE×Bool:=if mU s=true then (if aDy k=true then (if aAM (aBN k) s.Items<0 then (if s.Items.length<16 then (aNT s k r,true) else (s,false)) else (aJS s (aAM (aBN k) s.Items).toNat r,true)) else (s,false)) else (s,false)
theorem aBD {s:M.aE} (h:mU s=true):(List.range s.Items.length).all (aBF s.Items)=true∧aAL s.Name=true∧s.Items.length≤16∧0≤s.Auto∧s.Auto≤1000000:=by
 unfold mU inR at h
 simp only [Bool.and_eq_true,decide_eq_true_eq] at h
 exact ⟨h.1,h.2.1,h.2.2.1,h.2.2.2.1,h.2.2.2.2⟩
theorem aNg {s:M.aE} (h1:(List.range s.Items.length).all (aBF s.Items)=true) (h2:aAL s.Name=true) (h3:s.Items.length≤16) (h4:0≤s.Auto) (h5:s.Auto≤1000000):mU s=true:=by
 unfold mU inR
 simp [h1,h2,h3,h4,h5]
theorem aKc {s:M.aE} {k:M.Key} (h:mU s=true):0≤aKN s k∧aKN s k≤1000000:=by
 obtain ⟨_,_,_,h4,h5⟩:=aBD h
 unfold aKN
 split
 ·rename_i hc
  simp only [Bool.and_eq_true,decide_eq_true_eq] at hc
  omega
 ·exact ⟨h4,h5⟩
theorem aJk {s:M.aE} {i:Nat} {r:M.aH} (h:mU s=true) (hi:i<s.Items.length):mU (aJS s i r)=eR r:=by
 obtain ⟨h1,h2,h3,h4,h5⟩:=aBD h
 obtain ⟨a1,a2⟩:=aGN h1
 have e:aJS s i r=(⟨s.Name,s.Items.set i (⟨s.Items[i].Key,r⟩:M.Item),s.Auto⟩:M.aE):=by unfold aJS;rw [List.getElem?_eq_getElem hi]
 rw [e]
 have key : ∀(k:Nat) (x:M.Item),(s.Items.set i (⟨s.Items[i].Key,r⟩:M.Item))[k]? = some x → ∃y,s.Items[k]? = some y∧x.Key=y.Key∧(k≠i→x=y)∧(k=i→x.aH=r):=by
  intro k x hx
  rw [List.getElem?_set] at hx
  by_cases hk:i=k
  ·subst hk
   rw [if_pos rfl,if_pos hi] at hx
   cases hx
   exact ⟨_,List.getElem?_eq_getElem hi,rfl,fun hh=>absurd rfl hh,fun _=>rfl⟩
  ·rw [if_neg hk] at hx
   exact ⟨x,hx,rfl,fun _=>rfl,fun hh=>absurd hh.symm hk⟩
 cases hr:eR r with
 | true =>
  refine aNg (aIv (fun k x hx => ?_) (fun k x y hx hy => ?_)) h2 (by show (s.Items.set i _).length≤16;rw [List.length_set];exact h3) h4 h5
  ·obtain ⟨y,hy,e1,e2,e3⟩:=key k x hx
   obtain ⟨b1,b2⟩:=a1 k y hy
   refine ⟨by rw [e1];exact b1,?_⟩
   by_cases hk:k=i
   ·rw [e3 hk];exact hr
   ·rw [e2 hk];exact b2
  ·obtain ⟨x',hx',e1,_⟩:=key k x hx
   obtain ⟨y',hy',e2,_⟩:=key (k+1) y hy
   rw [e1,e2]
   exact a2 k x' y' hx' hy'
 | false =>
  cases hq:mU (⟨s.Name,s.Items.set i (⟨s.Items[i].Key,r⟩:M.Item),s.Auto⟩:M.aE) with
  | false=>rfl
  | true =>
   have:=(aGN (aBD hq).1).1 i _ (by show (s.Items.set i _)[i]? = _;rw [List.getElem?_set,if_pos rfl,if_pos hi])
   simp only at this
   rw [hr] at this
   cases this.2
theorem aI2 {s:M.aE} {k:M.Key} {r:M.aH} (h:mU s=true) (hk:aDy k=true) (hr:eR r=true) (hf:aAM (aBN k) s.Items<0) (au:Int) (hau:0≤au∧au≤1000000) :
  mU (⟨s.Name,s.Items.take (aBX s.Items k)++([(⟨k,r⟩:M.Item)]++s.Items.drop (aBX s.Items k)),au⟩:M.aE)=decide (s.Items.length<16):=by
 obtain ⟨h1,h2,h3,h4,h5⟩:=aBD h
 obtain ⟨a1,a2⟩:=aGN h1
 have hp:=aIU s.Items k
 have hlen:(s.Items.take (aBX s.Items k)++([(⟨k,r⟩:M.Item)]++s.Items.drop (aBX s.Items k))).length=s.Items.length+1:=by
  simp only [List.length_append,List.length_take,List.length_drop,List.length_cons,List.length_nil];omega
 have hall:(List.range (s.Items.take (aBX s.Items k)++([(⟨k,r⟩:M.Item)]++s.Items.drop (aBX s.Items k))).length).all (aBF (s.Items.take (aBX s.Items k)++([(⟨k,r⟩:M.Item)]++s.Items.drop (aBX s.Items k))))=true:=by
  refine aIv (fun j x hx => ?_) (fun j x y hx hy => ?_)
  ·rw [aMa hp] at hx
   split at hx
   ·exact a1 j x hx
   ·split at hx
    ·cases hx;exact ⟨hk,hr⟩
    ·exact a1 _ x hx
  ·rw [aMa hp] at hx hy
   by_cases c1:j+1<aBX s.Items k
   ·rw [if_pos (by omega)] at hx
    rw [if_pos c1] at hy
    exact a2 j x y hx hy
   ·rw [if_neg c1] at hy
    by_cases c2:j+1=aBX s.Items k
    ·rw [if_pos c2] at hy
     rw [if_pos (by omega)] at hx
     cases hy
     have hj:j<s.Items.length:=by omega
     have:=aFe (f:=aEU k) (l:=s.Items) j hj (by show j<aBX s.Items k;omega)
     rw [List.getElem?_eq_getElem hj] at hx
     cases hx
     unfold aEU at this
     simpa using this
    ·rw [if_neg c2] at hy
     by_cases c3:j=aBX s.Items k
     ·rw [if_neg (by omega),if_pos c3] at hx
      cases hx
      rw [Nat.add_sub_cancel] at hy
      have hj:j<s.Items.length:=(List.getElem?_eq_some_iff.1 hy).1
      have hj':(s.Items.takeWhile (aEU k)).length<s.Items.length:=by show aBX s.Items k<_;omega
      have hat:=aFn (f:=aEU k) hj'
      have e1:s.Items[(s.Items.takeWhile (aEU k)).length]=y:=by
       have:s.Items[aBX s.Items k]? = some y:=by rw [←c3];exact hy
       exact (List.getElem?_eq_some_iff.1 this).2
      rw [e1] at hat
      unfold aEU at hat
      have hne:=aHt hf y (by rw [←e1];exact List.getElem_mem _)
      unfold aBN at hne
      exact aNO (a1 j y hy).1 hk (by simpa using hat) hne
     ·rw [if_neg (by omega),if_neg c3] at hx
      rw [show j+1-1=(j-1)+1 by omega] at hy
      exact a2 (j-1) x y hx hy
 have e1:decide ((s.Items.take (aBX s.Items k)++([(⟨k,r⟩:M.Item)]++s.Items.drop (aBX s.Items k))).length≤16)=decide (s.Items.length<16):=decide_eq_decide.2 (by rw [hlen];omega)
 unfold mU inR
 rw [hall,h2,e1,decide_eq_true hau.1,decide_eq_true hau.2]
 simp
theorem aHu {s o:M.aE} (hz:M.aE.sz s≤1073741824) (ho:o.ok):((bM o).bind fun z=>(if (!z)=true then ((bC s).bind fun y=>(some (y,false))) else (some (o,true))))=some (if mU o=true then (o,true) else (s,false)):=by
 rw [aBG ho,Option.bind_some,iV s hz]
 cases mU o<;>simp
theorem aQU {X:Type} (c1 c2 c3:Bool) (A:Int→X) (x y:Int):(if c1=true then (if c2=true then (if c3=true then A x else A y) else A y) else A y)=A (if (c1&&(c2&&c3))=true then x else y):=by
 cases c1<;>cases c2<;>cases c3<;>rfl
theorem aMd {s:M.aE} {k:M.Key} {r:M.aH} {au:Int} (p:Nat) (hs:s.ok) (hl:s.Items.length≤1073741824) (hk:k.ok) (hr:r.ok) (hau:inI au):M.aE.ok (⟨s.Name,s.Items.take p++([(⟨k,r⟩:M.Item)]++s.Items.drop p),au⟩:M.aE):=
 ⟨hs.Name,⟨by show (s.Items.take p++([(⟨k,r⟩:M.Item)]++s.Items.drop p)).length≤maxLen;unfold maxLen;simp only [List.length_append,List.length_take,List.length_drop,List.length_cons,List.length_nil];omega,fun y hy=>by
  have hy':y∈s.Items.take p++([(⟨k,r⟩:M.Item)]++s.Items.drop p):=hy
  simp only [List.mem_append,List.mem_cons,List.not_mem_nil,or_false] at hy'
  rcases hy' with h | rfl | h
  ·exact hs.Items.2 y (List.mem_of_mem_take h)
  ·exact ⟨hk,hr⟩
  ·exact hs.Items.2 y (List.mem_of_mem_drop h)⟩,hau⟩
theorem aMc {s:M.aE} {r:M.aH} {i:Nat} (hi:i<s.Items.length) (hs:s.ok) (hr:r.ok):M.aE.ok (⟨s.Name,s.Items.set i (⟨s.Items[i].Key,r⟩:M.Item),s.Auto⟩:M.aE):=
 ⟨hs.Name,⟨by show (s.Items.set i _).length≤maxLen;rw [List.length_set];exact hs.Items.1,fun y hy=>by
  have hy':y∈s.Items.set i (⟨s.Items[i].Key,r⟩:M.Item):=hy
  rcases List.mem_or_eq_of_mem_set hy' with h | rfl
  ·exact hs.Items.2 y h
  ·exact ⟨(hs.Items.2 _ (List.getElem_mem hi)).Key,hr⟩⟩,hs.Auto⟩
theorem aIs {s:M.aE} {k:M.Key} (hs:s.ok) (hk:k.ok):inI (aKN s k):=by
 unfold aKN
 split
 ·exact hk.N
 ·exact hs.Auto
def tPI (s:M.aE) (k:M.Key) (r:M.aH) (j:Nat):Option (M.aE×Bool):=(bI r).bind fun x58=>((aEw 56 s.Items (j:Int) ([(⟨k,x58⟩:M.Item)])).bind fun _=>(if (k.Kind==1)=true then (if (decide (k.N>s.Auto))=true then (if (decide (k.N≤1000000))=true then ((bM (⟨s.Name,(List.take (j:Int).toNat s.Items++([(⟨k,x58⟩:M.Item)]++List.drop (j:Int).toNat s.Items)),k.N⟩:M.aE)).bind fun z=>(if (!z)=true then ((bC s).bind fun y=>(some (y,false))) else (some ((⟨s.Name,(List.take (j:Int).toNat s.Items++([(⟨k,x58⟩:M.Item)]++List.drop (j:Int).toNat s.Items)),k.N⟩:M.aE),true)))) else ((bM (⟨s.Name,(List.take (j:Int).toNat s.Items++([(⟨k,x58⟩:M.Item)]++List.drop (j:Int).toNat s.Items)),s.Auto⟩:M.aE)).bind fun z=>(if (!z)=true then ((bC s).bind fun y=>(some (y,false))) else (some ((⟨s.Name,(List.take (j:Int).toNat s.Items++([(⟨k,x58⟩:M.Item)]++List.drop (j:Int).toNat s.Items)),s.Auto⟩:M.aE),true))))) else ((bM (⟨s.Name,(List.take (j:Int).toNat s.Items++([(⟨k,x58⟩:M.Item)]++List.drop (j:Int).toNat s.Items)),s.Auto⟩:M.aE)).bind fun z=>(if (!z)=true then ((bC s).bind fun y=>(some (y,false))) else (some ((⟨s.Name,(List.take (j:Int).toNat s.Items++([(⟨k,x58⟩:M.Item)]++List.drop (j:Int).toNat s.Items)),s.Auto⟩:M.aE),true))))) else ((bM (⟨s.Name,(List.take (j:Int).toNat s.Items++([(⟨k,x58⟩:M.Item)]++List.drop (j:Int).toNat s.Items)),s.Auto⟩:M.aE)).bind fun z=>(if (!z)=true then ((bC s).bind fun y=>(some (y,false))) else (some ((⟨s.Name,(List.take (j:Int).toNat s.Items++([(⟨k,x58⟩:M.Item)]++List.drop (j:Int).toNat s.Items)),s.Auto⟩:M.aE),true))))))
def tPS (s:M.aE) (k:M.Key) (r:M.aH) (j:Nat):Option (M.aE×Bool):=(aDO s.Items (j:Int)).bind fun _=>((app 56 ([]:List M.Item) (List.take (j:Int).toNat s.Items)).bind fun _=>((bQ r).bind fun x70=>((app 56 (List.take (j:Int).toNat s.Items) ([(⟨k,x70⟩:M.Item)])).bind fun _=>((app 56 ((List.take (j:Int).toNat s.Items)++[(⟨k,x70⟩:M.Item)]) (List.drop (j:Int).toNat s.Items)).bind fun _=>(if (k.Kind==1)=true then ((bW k.N (IntKind.i64.wrap (s.Auto+1)) 1000000).bind fun x100=>(if x100=true then (some ((⟨s.Name,(((List.take (j:Int).toNat s.Items)++[(⟨k,x70⟩:M.Item)])++(List.drop (j:Int).toNat s.Items)),k.N⟩:M.aE),true)) else (some ((⟨s.Name,(((List.take (j:Int).toNat s.Items)++[(⟨k,x70⟩:M.Item)])++(List.drop (j:Int).toNat s.Items)),s.Auto⟩:M.aE),true)))) else (some ((⟨s.Name,(((List.take (j:Int).toNat s.Items)++[(⟨k,x70⟩:M.Item)])++(List.drop (j:Int).toNat s.Items)),s.Auto⟩:M.aE),true)))))))
theorem aHR {s:M.aE} {k:M.Key} {r:M.aH} (hs:s.ok) (hk:k.ok) (hr:r.ok) (hR:eR r=true) (hz:M.aE.sz s≤1073741824) (hzr:M.aH.sz r≤1073741824):lU s k r=some (aEE s k r):=by
 have hl:s.Items.length≤1073741824:=by simp only [M.aE.sz] at hz;omega
 have hp:=aIU s.Items k
 unfold lU aEE
 rw [aBG hs,aAB hk,iV s hz,aDE hs,mN r hzr]
 simp only [Option.bind_some]
 cases hS:mU s with
 | false=>simp
 | true =>
  cases hK:aDy k with
  | false=>simp
  | true =>
   simp only [Bool.not_true,Bool.false_eq_true,if_false,if_true]
   by_cases h:aAM (aBN k) s.Items<0
   ·rw [if_neg (by simp;omega),if_pos h,aFV (l:=s.Items) (f:=aEU k) (L:=iB s k r s) (S:=tPI s k r) hs.Items.1 (fun m j hj => ?_) (fun m => ?_)]
    ·show tPI s k r (aBX s.Items k)=_
     unfold tPI
     rw [mN r hzr,Option.bind_some,aGG (by simp only [Int.toNat_natCast,List.length_cons,List.length_nil];omega),Option.bind_some,Int.toNat_natCast]
     refine Eq.trans (aQU (k.Kind==1) (decide (k.N>s.Auto)) (decide (k.N≤1000000)) (fun au=>((bM (⟨s.Name,s.Items.take (aBX s.Items k)++([(⟨k,r⟩:M.Item)]++s.Items.drop (aBX s.Items k)),au⟩:M.aE)).bind fun z=>(if (!z)=true then ((bC s).bind fun y=>(some (y,false))) else (some ((⟨s.Name,s.Items.take (aBX s.Items k)++([(⟨k,r⟩:M.Item)]++s.Items.drop (aBX s.Items k)),au⟩:M.aE),true))))) k.N s.Auto) ?_
     refine (aHu (o:=aNT s k r) hz (aMd _ hs hl hk hr (aIs hs hk))).trans ?_
     unfold aNT
     rw [aI2 hS hK hR h _ (aKc hS)]
     by_cases h16:s.Items.length<16
     ·simp [h16]
     ·simp [h16]
    ·have hj':=hs.Items.2 _ (List.getElem_mem hj)
     simp only [iB]
     rw [if_pos (bF hj),aQ hj,Option.bind_some,aAo hj'.Key hk,Option.bind_some,bH (by omega)]
     rfl
    ·simp only [iB]
     rw [if_neg (by rw [aT];simp)]
     rfl
   ·obtain ⟨i,e,hi⟩:=oZ h
    rw [if_pos (by simpa using h),if_neg h,e,aQ hi,Option.bind_some,Int.toNat_natCast]
    have lO:=aJk (r:=r) hS hi
    have e2:aJS s i r=(⟨s.Name,s.Items.set i (⟨s.Items[i].Key,r⟩:M.Item),s.Auto⟩:M.aE):=by unfold aJS;rw [List.getElem?_eq_getElem hi]
    rw [e2] at lO ⊢
    have ht:=aHu hz (aMc hi hs hr)
    rw [lO,hR,if_pos rfl,iV s hz] at ht
    exact ht
theorem aHO {s:M.aE} {k:M.Key} {r:M.aH} (hs:s.ok) (hk:k.ok) (hr:r.ok) (hR:eR r=true) (hz:M.aE.sz s≤1073741824) (hzr:M.aH.sz r≤1073741824):lP s k r=some (aEE s k r):=by
 have hl:s.Items.length≤1073741824:=by simp only [M.aE.sz] at hz;omega
 have hp:=aIU s.Items k
 unfold lP aEE
 rw [aCI hs,aAK hk,xF hr,hR,xW s hz,aDU hs,aAp r hzr]
 simp only [Option.bind_some]
 cases hS:mU s with
 | false=>simp
 | true =>
  cases hK:aDy k with
  | false=>simp
  | true =>
   simp only [Bool.not_true,Bool.false_eq_true,if_false,if_true]
   by_cases h:aAM (aBN k) s.Items<0
   ·rw [if_neg (by simp;omega),if_pos h]
    by_cases h16:s.Items.length<16
    ·rw [if_neg (by simp;omega),if_pos h16,aFV (l:=s.Items) (f:=aEU k) (L:=iG s k r s) (S:=tPS s k r) hs.Items.1 (fun m j hj => ?_) (fun m => ?_)]
     ·show tPS s k r (aBX s.Items k)=_
      obtain ⟨_,_,_,ha4,ha5⟩:=aBD hS
      have ew:IntKind.i64.wrap (s.Auto+1)=s.Auto+1:=nK (by omega) (by omega)
      have ei:inR k.N (s.Auto+1) 1000000=(decide (k.N>s.Auto)&&decide (k.N≤1000000)):=by
       unfold inR
       congr 1
      unfold tPS
      rw [aGq hp,Option.bind_some,Int.toNat_natCast,aE6 (by rw [List.length_take];omega) (by omega),Option.bind_some,aAp r hzr,Option.bind_some,rR (by simp only [List.length_take,List.length_cons,List.length_nil];omega),Option.bind_some,rR (by simp only [List.length_append,List.length_take,List.length_drop,List.length_cons,List.length_nil];omega),Option.bind_some,List.append_assoc,hP,Option.bind_some,ew,ei]
      unfold aNT aKN
      cases (k.Kind==1)<;>cases (decide (k.N>s.Auto)&&decide (k.N≤1000000))<;>rfl
     ·have hj':=hs.Items.2 _ (List.getElem_mem hj)
      simp only [iG]
      rw [if_pos (bF hj),aQ hj,Option.bind_some,aA6 hj'.Key hk,Option.bind_some,bH (by omega)]
      rfl
     ·simp only [iG]
      rw [if_neg (by rw [aT];simp)]
      rfl
    ·rw [if_pos (by simp;omega),if_neg h16]
   ·obtain ⟨i,e,hi⟩:=oZ h
    rw [if_pos (by simpa using h),if_neg h,e,aQ hi,Option.bind_some,Int.toNat_natCast]
    unfold aJS
    rw [List.getElem?_eq_getElem hi]
def nB (s:M.aE) (k:M.Key):M.aH:=if aAM (aBN k) s.Items<0 then (⟨([]:List M.Field)⟩:M.aH) else (match s.Items[(aAM (aBN k) s.Items).toNat]? with | some x=>x.aH | none=>(⟨([]:List M.Field)⟩:M.aH))
def aHI (s:M.aE) (w:M.aV):M.aE×Bool:=if (aHE (nB s w.Key) w.Field w.N).2=true then aEE s w.Key (aHE (nB s w.Key) w.Field w.N).1 else (s,false)
theorem aN5:M.aH.ok (⟨([]:List M.Field)⟩:M.aH):=⟨⟨by simp [maxLen],by simp⟩⟩
theorem aC9 {s:M.aE} {k:M.Key} (hs:s.ok):(nB s k).ok:=by
 unfold nB
 split
 ·exact aN5
 ·split
  ·rename_i x hx
   exact (hs.Items.2 x (List.mem_of_getElem? hx)).aH
  ·exact aN5
theorem aGU (s:M.aE) (k:M.Key):M.aH.sz (nB s k)≤M.aE.sz s:=by
 unfold nB
 split
 ·simp [M.aH.sz,aG]
 ·split
  ·rename_i x hx
   have h1:=cH (f:=M.Item.sz) (List.mem_of_getElem? hx)
   have h2:M.aH.sz x.aH≤M.Item.sz x:=by simp only [M.Item.sz];omega
   simp only [M.aE.sz]
   omega
  ·simp [M.aH.sz,aG]
theorem aNG {r:M.aH} {a:ByteArray} {n:Int} (hr:r.ok) (hl:r.Fields.length≤1073741824) (ha:a.size≤maxLen) (hn:inI n):M.aH.ok (⟨aJb r a n⟩:M.aH):=by
 unfold aJb
 by_cases h:aAM (jA a) r.Fields<0
 ·rw [if_pos h]
  exact aMV _ hr hl ha hn
 ·rw [if_neg h]
  obtain ⟨k,e,hk⟩:=oZ h
  rw [e,Int.toNat_natCast,List.getElem?_eq_getElem hk]
  exact aKE hk hr hn
theorem aJ9 {r:M.aH} {a:ByteArray} {n:Int} (hr:r.ok) (hl:r.Fields.length≤1073741824) (ha:a.size≤maxLen) (hn:inI n):(aHE r a n).1.ok:=by
 unfold aHE aHP
 split
 ·split
  ·exact aNG hr hl ha hn
  ·exact hr
 ·exact hr
theorem aDH {r:M.aH} {a:ByteArray} {n:Int} (h:(aHE r a n).2=true):eR (aHE r a n).1=true:=by
 unfold aHE aHP at h ⊢
 by_cases h1:eR r=true
 ·rw [if_pos h1] at h ⊢
  by_cases h2:eR (⟨aJb r a n⟩:M.aH)=true
  ·rw [if_pos h2];exact h2
  ·rw [if_neg h2] at h;cases h
 ·rw [if_neg h1] at h;cases h
theorem aMj {r:M.aH} (h:eR r=true):M.aH.sz r≤100:=by
 obtain ⟨h1,h2⟩:=aCm h
 have:=aBn (w:=M.Field.sz) (b:=8) (xs:=r.Fields) (fun x hx=>by have:=(h2 x hx).1;simp only [M.Field.sz];omega)
 simp only [M.aH.sz]
 omega
theorem aNF {s:M.aE} (h:mU s=true):M.aE.sz s≤10000:=by
 obtain ⟨h1,h2,h3,_,_⟩:=aBD h
 obtain ⟨a1,_⟩:=aGN h1
 have hn:s.Name.size≤8:=by
  unfold aAL inR at h2
  simp only [Bool.and_eq_true,decide_eq_true_eq] at h2
  omega
 have:=aBn (w:=M.Item.sz) (b:=112) (xs:=s.Items) (fun x hx=>by
  obtain ⟨k,hk,rfl⟩:=List.mem_iff_getElem.1 hx
  obtain ⟨b1,b2⟩:=a1 k _ (List.getElem?_eq_getElem hk)
  have c1:=aGv b1
  have c2:=aMj b2
  simp only [M.Item.sz,M.Key.sz]
  omega)
 simp only [M.aE.sz]
 omega
theorem aLM {s:M.aE} {k:M.Key} {r:M.aH} (hR:eR r=true) (h:(aEE s k r).2=true):mU (aEE s k r).1=true:=by
 unfold aEE at h ⊢
 by_cases hS:mU s=true
 ·rw [if_pos hS] at h ⊢
  by_cases hK:aDy k=true
  ·rw [if_pos hK] at h ⊢
   by_cases hf:aAM (aBN k) s.Items<0
   ·rw [if_pos hf] at h ⊢
    by_cases h16:s.Items.length<16
    ·rw [if_pos h16]
     have:=aI2 hS hK hR hf _ (aKc (k:=k) hS)
     simp only [h16,decide_true] at this
     exact this
    ·rw [if_neg h16] at h;cases h
   ·rw [if_neg hf]
    obtain ⟨i,e,hi⟩:=oZ hf
    simp only [e,Int.toNat_natCast]
    rw [aJk hS hi]
    exact hR
  ·rw [if_neg hK] at h;cases h
 ·rw [if_neg hS] at h;cases h
theorem aNW {s:M.aE} {k:M.Key} {r:M.aH} (hs:s.ok) (hl:s.Items.length≤1073741824) (hk:k.ok) (hr:r.ok):(aEE s k r).1.ok:=by
 unfold aEE
 by_cases hS:mU s=true
 ·rw [if_pos hS]
  by_cases hK:aDy k=true
  ·rw [if_pos hK]
   by_cases hf:aAM (aBN k) s.Items<0
   ·rw [if_pos hf]
    split
    ·exact aMd _ hs hl hk hr (aIs hs hk)
    ·exact hs
   ·rw [if_neg hf]
    obtain ⟨i,e,hi⟩:=oZ hf
    simp only [e,Int.toNat_natCast]
    unfold aJS
    rw [List.getElem?_eq_getElem hi]
    exact aMc hi hs hr
  ·rw [if_neg hK];exact hs
 ·rw [if_neg hS];exact hs
theorem aLl {s:M.aE} {k:M.Key} {r:M.aH} (h:(aEE s k r).2=false):(aEE s k r).1=s:=by
 unfold aEE at h ⊢
 by_cases hS:mU s=true
 ·rw [if_pos hS] at h ⊢
  by_cases hK:aDy k=true
  ·rw [if_pos hK] at h ⊢
   by_cases hf:aAM (aBN k) s.Items<0
   ·rw [if_pos hf] at h ⊢
    by_cases h16:s.Items.length<16
    ·rw [if_pos h16] at h;cases h
    ·rw [if_neg h16]
   ·rw [if_neg hf] at h;cases h
  ·rw [if_neg hK]
 ·rw [if_neg hS]
theorem aJj {s:M.aE} {w:M.aV} (h:(aHI s w).2=false):(aHI s w).1=s:=by
 unfold aHI at h ⊢
 by_cases h1:(aHE (nB s w.Key) w.Field w.N).2=true
 ·rw [if_pos h1] at h ⊢;exact aLl h
 ·rw [if_neg h1]
theorem aK3 {s:M.aE} {w:M.aV} (hs:s.ok) (hw:w.ok) (hz:M.aE.sz s≤536870912):(aHI s w).1.ok∧M.aE.sz (aHI s w).1≤536870912:=by
 have hl:s.Items.length≤1073741824:=by simp only [M.aE.sz] at hz;omega
 have hzr:=aGU s w.Key
 have hlr:(nB s w.Key).Fields.length≤1073741824:=by simp only [M.aH.sz] at hzr;omega
 cases h2:(aHI s w).2 with
 | false=>rw [aJj h2];exact ⟨hs,hz⟩
 | true =>
  unfold aHI at h2 ⊢
  by_cases h1:(aHE (nB s w.Key) w.Field w.N).2=true
  ·rw [if_pos h1] at h2 ⊢
   have:=aNF (aLM (aDH h1) h2)
   exact ⟨aNW hs hl hw.Key (aJ9 (aC9 hs) hlr hw.Field hw.N),by omega⟩
  ·rw [if_neg h1] at h2;cases h2
theorem aBu {s:M.aE} {w:M.aV} (hs:s.ok) (hw:w.ok) (hz:M.aE.sz s≤1073741824):jF s w=some (aHI s w):=by
 have hzr:=aGU s w.Key
 have hlr:(nB s w.Key).Fields.length≤1073741824:=by simp only [M.aH.sz] at hzr;omega
 have lO:=aGk (r:=nB s w.Key) (a:=w.Field) (n:=w.N) (aC9 hs) (by omega) hw.Field hw.N
 have hput:(aHE (nB s w.Key) w.Field w.N).2=true→lP s w.Key (aHE (nB s w.Key) w.Field w.N).1=some (aEE s w.Key (aHE (nB s w.Key) w.Field w.N).1):=fun h1 =>
  aHO hs hw.Key (aJ9 (aC9 hs) hlr hw.Field hw.N) (aDH h1) hz (Nat.le_trans (aMj (aDH h1)) (by omega))
 have hfin:((some (aHE (nB s w.Key) w.Field w.N)).bind fun x9=>(if (!x9.2)=true then ((eV s).bind fun x12=>(some (x12,false))) else ((lP s w.Key x9.1).bind fun x14=>(some (x14.1,x14.2)))))=some (aHI s w):=by
  rw [Option.bind_some,xW s hz]
  unfold aHI
  cases h1:(aHE (nB s w.Key) w.Field w.N).2 with
  | false=>simp
  | true =>
   rw [hput h1]
   simp
 unfold jF
 rw [aDU hs,Option.bind_some]
 by_cases h:aAM (aBN w.Key) s.Items<0
 ·have e:nB s w.Key=(⟨([]:List M.Field)⟩:M.aH):=by unfold nB;rw [if_pos h]
  rw [if_neg (by simp;omega)]
  rw [e] at lO hfin
  rw [lO]
  exact hfin
 ·obtain ⟨i,ei,hi⟩:=oZ h
  have e:nB s w.Key=s.Items[i].aH:=by unfold nB;rw [if_neg h,ei,Int.toNat_natCast,List.getElem?_eq_getElem hi]
  rw [if_pos (by simpa using h),ei,aQ hi,Option.bind_some]
  rw [e] at lO hfin
  rw [lO]
  exact hfin
theorem aBs {s:M.aE} {w:M.aV} (hs:s.ok) (hw:w.ok) (hz:M.aE.sz s≤1073741824):jT s w=some (aHI s w):=by
 have hzr:=aGU s w.Key
 have hlr:(nB s w.Key).Fields.length≤1073741824:=by simp only [M.aH.sz] at hzr;omega
 have lO:=aG4 (r:=nB s w.Key) (a:=w.Field) (n:=w.N) (aC9 hs) (by omega) hw.Field hw.N
 have hput:(aHE (nB s w.Key) w.Field w.N).2=true→lU s w.Key (aHE (nB s w.Key) w.Field w.N).1=some (aEE s w.Key (aHE (nB s w.Key) w.Field w.N).1):=fun h1 =>
  aHR hs hw.Key (aJ9 (aC9 hs) hlr hw.Field hw.N) (aDH h1) hz (Nat.le_trans (aMj (aDH h1)) (by omega))
 have hfin:((some (aHE (nB s w.Key) w.Field w.N)).bind fun x9=>(if (!x9.2)=true then ((bC s).bind fun x12=>(some (x12,false))) else ((lU s w.Key x9.1).bind fun x14=>(some (x14.1,x14.2)))))=some (aHI s w):=by
  rw [Option.bind_some,iV s hz]
  unfold aHI
  cases h1:(aHE (nB s w.Key) w.Field w.N).2 with
  | false=>simp
  | true =>
   rw [hput h1]
   simp
 unfold jT
 rw [aDE hs,Option.bind_some]
 by_cases h:aAM (aBN w.Key) s.Items<0
 ·have e:nB s w.Key=(⟨([]:List M.Field)⟩:M.aH):=by unfold nB;rw [if_pos h]
  rw [if_neg (by simp;omega)]
  rw [e] at lO hfin
  rw [lO]
  exact hfin
 ·obtain ⟨i,ei,hi⟩:=oZ h
  have e:nB s w.Key=s.Items[i].aH:=by unfold nB;rw [if_neg h,ei,Int.toNat_natCast,List.getElem?_eq_getElem hi]
  rw [if_pos (by simpa using h),ei,aQ hi,Option.bind_some]
  rw [e] at lO hfin
  rw [lO]
  exact hfin
def aAz (s:M.aE) (l:List M.aV):M.aE:=l.foldl (fun t w=>(aHI t w).1) s
theorem aDt {s:M.aE} {l:List M.aV} (hs:s.ok) (hl:l.length≤maxLen) (ho : ∀w∈l,M.aV.ok w) (hz:M.aE.sz s≤536870912):zH s l=some (aAz s l)∧(aAz s l).ok∧M.aE.sz (aAz s l)≤536870912:=by
 have hm:=le_max hl
 unfold zH aAz
 rw [iV s (by omega),Option.bind_some]
 have:=aIu (xs:=l) (L:=fun n k (t:M.aE)=>jN l n k t.Name t.Auto t.Items) (step:=fun t w=>(aHI t w).1) (I:=fun _ t=>t.ok∧M.aE.sz t≤536870912) (E:=some) hl
  (fun t k hk hi=>aK3 hi.1 (ho _ (List.getElem_mem hk)) hi.2) (fun n t k hk hi=>by
   simp only [jN]
   rw [if_pos (bF hk),aQ hk,Option.bind_some,show (⟨t.Name,t.Items,t.Auto⟩:M.aE)=t from rfl,aBs hi.1 (ho _ (List.getElem_mem hk)) (by omega),Option.bind_some,bH (by omega)]) (fun n t hi=>by
   simp only [jN]
   rw [if_neg (by rw [aT];simp)]) s ⟨hs,hz⟩
 exact ⟨this.1,this.2⟩
theorem aGf {s:M.aE} {l:List M.aV} (hs:s.ok) (hl:l.length≤maxLen) (ho : ∀w∈l,M.aV.ok w) (hz:M.aE.sz s≤536870912):wP s l=some (aAz s l):=by
 have hm:=le_max hl
 unfold wP aAz
 rw [xW s (by omega),Option.bind_some]
 have:=aIu (xs:=l) (L:=fun n k (t:M.aE)=>gX l n k t.Name t.Auto t.Items) (step:=fun t w=>(aHI t w).1) (I:=fun _ t=>t.ok∧M.aE.sz t≤536870912) (E:=some) hl
  (fun t k hk hi=>aK3 hi.1 (ho _ (List.getElem_mem hk)) hi.2) (fun n t k hk hi=>by
   simp only [gX]
   rw [if_pos (bF hk),aQ hk,Option.bind_some,show (⟨t.Name,t.Items,t.Auto⟩:M.aE)=t from rfl,aBu hi.1 (ho _ (List.getElem_mem hk)) (by omega),Option.bind_some,bH (by omega)]
   cases h2:(aHI t l[k]).2 with
   | true=>rfl
   | false=>rw [aJj h2];rfl) (fun n t hi=>by
   simp only [gX]
   rw [if_neg (by rw [aT];simp)]) s ⟨hs,hz⟩
 exact this.1
def aII (o:M.aN) (k:M.Key) (f:ByteArray) (n:Int):M.aN:=(⟨o.Device,IntKind.i64.wrap (o.Next+1),o.Writes++[(⟨o.Device,o.Next,k,f,n⟩:M.aV)]⟩:M.aN)
def aLp (o:M.aN) (k:M.Key) (f:ByteArray) (n:Int):M.aN×Bool:=if aBo o=true then (if aBo (aII o k f n)=true then (aII o k f n,true) else (o,false)) else (o,false)
theorem aIY {o:M.aN} {k:M.Key} {f:ByteArray} {n:Int} (ho:o.ok) (hl:o.Writes.length≤1073741824) (hk:k.ok) (hf:f.size≤maxLen) (hn:inI n):(aII o k f n).ok:=
 ⟨ho.Device,aNh _,⟨by show (o.Writes++_).length≤maxLen;unfold maxLen;simp;omega,fun y hy=>by
  have hy':y∈o.Writes++[(⟨o.Device,o.Next,k,f,n⟩:M.aV)]:=hy
  simp only [List.mem_append,List.mem_cons,List.not_mem_nil,or_false] at hy'
  rcases hy' with hy | rfl
  ·exact ho.Writes.2 y hy
  ·exact ⟨ho.Device,ho.Next,hk,hf,hn⟩⟩⟩
theorem aOo {o:M.aN} {k:M.Key} {f:ByteArray} {n:Int} (ho:o.ok) (hl:o.Writes.length≤1073741824) (hk:k.ok) (hf:f.size≤maxLen) (hn:inI n):(aLp o k f n).1.ok:=by
 unfold aLp
 split
 ·split
  ·exact aIY ho hl hk hf hn
  ·exact ho
 ·exact ho
theorem aOL (o:M.aN) (k:M.Key) (f:ByteArray) (n:Int):M.aN.sz (aLp o k f n).1≤M.aN.sz o+k.Text.size+f.size+1:=by
 have h:M.aN.sz (aII o k f n)≤M.aN.sz o+k.Text.size+f.size+1:=by
  simp only [aII,M.aN.sz,List.length_append,List.length_cons,List.length_nil,aC7,aG,M.aV.sz,M.Key.sz]
  omega
 unfold aLp
 split
 ·split
  ·exact h
  ·show M.aN.sz o≤_;omega
 ·show M.aN.sz o≤_;omega
theorem aEB {o:M.aN} {k:M.Key} {f:ByteArray} {n:Int} (ho:o.ok) (hz:M.aN.sz o≤536870912) (hk:k.ok) (hf:f.size≤maxLen) (hn:inI n):nD o k f n=some (aLp o k f n):=by
 have hl:o.Writes.length≤536870912:=by simp only [M.aN.sz] at hz;omega
 have e:=aB1 (aIY (k:=k) (f:=f) (n:=n) ho (by omega) hk hf hn)
 unfold aII at e
 unfold nD aLp
 rw [aDp o (by omega),Option.bind_some,aB1 ho,Option.bind_some,rR (by simp only [List.length_cons,List.length_nil];omega),Option.bind_some,e,Option.bind_some]
 unfold aII
 cases aBo o
 ·simp
 ·cases aBo (⟨o.Device,IntKind.i64.wrap (o.Next+1),o.Writes++[(⟨o.Device,o.Next,k,f,n⟩:M.aV)]⟩:M.aN)<;>simp
theorem aD2 {o:M.aN} {k:M.Key} {f:ByteArray} {n:Int} (ho:o.ok) (hz:M.aN.sz o≤536870912) (hk:k.ok) (hf:f.size≤maxLen) (hn:inI n):nN o k f n=some (aLp o k f n):=by
 have hl:o.Writes.length≤536870912:=by simp only [M.aN.sz] at hz;omega
 have e:=aBy (aIY (k:=k) (f:=f) (n:=n) ho (by omega) hk hf hn)
 unfold aII at e
 unfold nN aLp
 rw [aCW o (by omega),Option.bind_some,rR (by simp only [List.length_cons,List.length_nil];omega),Option.bind_some,aBy ho,Option.bind_some,e,Option.bind_some]
 unfold aII
 cases aBo o
 ·simp
 ·cases aBo (⟨o.Device,IntKind.i64.wrap (o.Next+1),o.Writes++[(⟨o.Device,o.Next,k,f,n⟩:M.aV)]⟩:M.aN)<;>simp
def aOK (r:M.aC) (k:M.Key) (f:ByteArray) (n:Int):Bool:=aCA r&&((aLp r.Sync.aN k f n).2&&(aHI (aAz r.Base r.Sync.aN.Writes) (⟨0,0,k,f,n⟩:M.aV)).2)
def aQF (r:M.aC) (k:M.Key) (f:ByteArray) (n:Int):M.aC:=(⟨r.Base,r.Seen,(⟨(aLp r.Sync.aN k f n).1,r.Sync.Tries,r.Sync.WaitUntil⟩:M.Sync)⟩:M.aC)
def nWL (r:M.aC) (k:M.Key) (f:ByteArray) (n:Int):M.aC×Bool:=if aOK r k f n=true then (aQF r k f n,true) else (r,false)
theorem aPD {r:M.aC} {k:M.Key} {f:ByteArray} {n:Int} (hr:r.ok) (hl:r.Sync.aN.Writes.length≤1073741824) (hk:k.ok) (hf:f.size≤maxLen) (hn:inI n):(nWL r k f n).1.ok:=by
 unfold nWL
 split
 ·exact ⟨hr.Base,hr.Seen,⟨aOo hr.Sync.aN hl hk hf hn,hr.Sync.Tries,hr.Sync.WaitUntil⟩⟩
 ·exact hr
theorem aPh (r:M.aC) (k:M.Key) (f:ByteArray) (n:Int):M.aC.sz (nWL r k f n).1≤M.aC.sz r+k.Text.size+f.size+1:=by
 have h:=aOL r.Sync.aN k f n
 unfold nWL
 split
 ·simp only [aQF,M.aC.sz,M.Sync.sz]
  omega
 ·show M.aC.sz r≤_;omega
theorem aPc {α:Type} (a b c:Bool) (x y:α):(if (!a)=true then y else (if (!b)=true then y else (if (!c)=true then y else x)))=if (a&&(b&&c))=true then x else y:=by
 cases a<;>cases b<;>cases c<;>rfl
theorem aFX {r:M.aC} {k:M.Key} {f:ByteArray} {n:Int} (hr:r.ok) (hz:M.aC.sz r≤536870912) (hk:k.ok) (hf:f.size≤maxLen) (hn:inI n):qR r k f n=some (nWL r k f n):=by
 have hz':=hz
 simp only [M.aC.sz,M.Sync.sz] at hz'
 obtain ⟨_,q2,q3⟩:=aDt hr.Base hr.Sync.aN.Writes.1 hr.Sync.aN.Writes.2 (by omega)
 have q1:=aGf hr.Base hr.Sync.aN.Writes.1 hr.Sync.aN.Writes.2 (by omega)
 unfold qR xV
 rw [aCH r (by omega),aEB hr.Sync.aN (by omega) hk hf hn,q1,aCr hr]
 simp only [Option.bind_some]
 rw [aBu (w:=(⟨0,0,k,f,n⟩:M.aV)) q2 ⟨by unfold inI;simp,by unfold inI;simp,hk,hf,hn⟩ (by omega)]
 simp only [Option.bind_some,aPc]
 unfold nWL aOK aQF
 cases (aCA r&&((aLp r.Sync.aN k f n).2&&(aHI (aAz r.Base r.Sync.aN.Writes) (⟨0,0,k,f,n⟩:M.aV)).2))<;>simp
theorem aFB {r:M.aC} {k:M.Key} {f:ByteArray} {n:Int} (hr:r.ok) (hz:M.aC.sz r≤536870912) (hk:k.ok) (hf:f.size≤maxLen) (hn:inI n):pX r k f n=some (nWL r k f n):=by
 have hz':=hz
 simp only [M.aC.sz,M.Sync.sz] at hz'
 obtain ⟨q1,q2,q3⟩:=aDt hr.Base hr.Sync.aN.Writes.1 hr.Sync.aN.Writes.2 (by omega)
 unfold pX xP
 rw [aB3 r (by omega),aD2 hr.Sync.aN (by omega) hk hf hn,q1,aCt hr]
 simp only [Option.bind_some]
 rw [aBs (w:=(⟨r.Sync.aN.Device,r.Sync.aN.Next,k,f,n⟩:M.aV)) q2 ⟨hr.Sync.aN.Device,hr.Sync.aN.Next,hk,hf,hn⟩ (by omega),show aHI (aAz r.Base r.Sync.aN.Writes) (⟨r.Sync.aN.Device,r.Sync.aN.Next,k,f,n⟩:M.aV)=aHI (aAz r.Base r.Sync.aN.Writes) (⟨0,0,k,f,n⟩:M.aV) from rfl]
 simp only [Option.bind_some,aPc]
 unfold nWL aOK aQF
 cases (aCA r&&((aLp r.Sync.aN k f n).2&&(aHI (aAz r.Base r.Sync.aN.Writes) (⟨0,0,k,f,n⟩:M.aV)).2))<;>simp
theorem aGg {w:M.World} (hz:M.World.sz w≤1048576):M.aF.sz w.aF≤1048576:=by
 simp only [M.World.sz] at hz
 omega
theorem aOn {b o:M.aA} (zb:M.aA.sz b≤1048576) (zo:M.Database.sz o.bD.Base≤1048576):M.Database.sz (aJ2 b o).1.bD.Base≤1048576:=by
 unfold aJ2
 split
 ·split
  ·exact zo
  ·exact aBL zb
 ·exact aBL zb
def aIo (w:M.World) (b:M.aA) (ok:Bool):M.World×Bool:=if ok=true then (if (aLo w.aF b).2=true then ({ w with aF:=(aLo w.aF b).1 },true) else (w,false)) else (w,false)
theorem aN2 {w:M.World} {b:M.aA} {ok:Bool} (hw:w.ok) (hb:b.ok) (hz:M.World.sz w≤1048576):M.World.ok (aIo w b ok).1:=by
 have h:=aOJ hw.aF hb (aGg hz)
 unfold aIo
 split
 ·split
  ·exact ⟨hw.Now,hw.Device,h,hw.Pages,hw.NextPage,hw.Locks,hw.Channel,hw.Sites,hw.Servers⟩
  ·exact hw
 ·exact hw
theorem aNb (w:M.World) (b:M.aA) (ok:Bool):M.World.sz (aIo w b ok).1≤M.World.sz w+M.aA.sz b+1:=by
 have h:=aOY w.aF b
 unfold aIo
 split
 ·split
  ·simp only [M.World.sz];omega
  ·show M.World.sz w≤_;omega
 ·show M.World.sz w≤_;omega
theorem aEe {w:M.World} {b:M.aA} {ok:Bool} (hw:w.ok) (hb:b.ok) (hz:M.World.sz w≤1048576) (zc:M.aA.sz b≤1073741824) (zb:M.Database.sz b.bD.Base≤1048576):xO w b ok=some (aIo w b ok):=by
 unfold xO aIo
 rw [aDu w (by omega),Option.bind_some,aFG hw.aF hb (aGg hz) zc zb,Option.bind_some]
 cases ok
 ·simp
 ·cases (aLo w.aF b).2<;>simp
theorem aLg {w:M.World} {p:M.bJ} {n v:Int} {f:ByteArray} (hw:w.ok) (hn:inI n) (hv:inI v) (hf:f.size≤1048576) (hz:M.World.sz w≤1048576) : ∃R:M.World×Bool,vO w p n f v=some R∧pV w p n f v=some R∧R.1.ok∧M.World.sz R.1≤16777216:=by
 have hz':=hz
 simp only [M.World.sz,M.aF.sz] at hz'
 have hfm:f.size≤maxLen:=by unfold maxLen;omega
 unfold vO pV aAe zV aBe
 rw [aCN hw.aF,aCb hw.aF,aGA w (by omega),aDu w (by omega)]
 simp only [Option.bind_some]
 by_cases h:aAM (nAt p.Site p.Top) w.aF.Buckets<0
 ·simp only [h,decide_true,if_true,Option.bind_some]
  exact ⟨(w,false),rfl,by simp,hw,by show M.World.sz w≤_;omega⟩
 ·obtain ⟨j,ej,hj⟩:=oZ h
  simp only [h,decide_false,Bool.false_eq_true,if_false]
  rw [ej,aQ hj]
  simp only [Option.bind_some,Bool.not_true,Bool.false_eq_true,if_false]
  have hb:=hw.aF.Buckets.2 _ (List.getElem_mem hj)
  have z1:=cH (f:=M.aA.sz) (List.getElem_mem hj)
  generalize w.aF.Buckets[j]=q at hb z1
  have z2:M.aC.sz q.aC≤M.aA.sz q:=by simp only [M.aA.sz];omega
  have z3:q.aC.Sync.aN.Writes.length≤M.aC.sz q.aC:=by simp only [M.aC.sz,M.Sync.sz,M.aN.sz];omega
  have hk:M.Key.ok (⟨1,n,(⟨#[]⟩:ByteArray)⟩:M.Key):=⟨by unfold inI;simp,hn,by simp [maxLen,ByteArray.size]⟩
  rw [aFX hb.aC (by omega) hk hfm hv,aFB hb.aC (by omega) hk hfm hv]
  have ok1:=aPD (n:=v) hb.aC (by omega) hk hfm hv
  have sz1:=aPh q.aC (⟨1,n,(⟨#[]⟩:ByteArray)⟩:M.Key) f v
  generalize nWL q.aC (⟨1,n,(⟨#[]⟩:ByteArray)⟩:M.Key) f v=T at ok1 sz1
  obtain ⟨r,c⟩:=T
  have hk0:(⟨#[]⟩:ByteArray).size=0:=rfl
  simp only [hk0] at ok1 sz1
  simp only [Option.bind_some]
  have zo:M.Database.sz (fJ q r).bD.Base≤1048576:=aBL (b:=q) (by omega)
  have zr:=aB0 q r
  have zc:=aOr q (fJ q r)
  have zd:=aOn (b:=q) (o:=fJ q r) (by omega) zo
  have ok3:=aOe hb (aBq hb ok1)
  rw [aDW hb ok1 (by omega) (by omega) zo,aDT hb ok1 (by omega) (by omega) zo]
  simp only [Option.bind_some]
  generalize aJ2 q (fJ q r)=Y at zc ok3 zd
  rw [aEe hw ok3 hz (by omega) zd,aEe hw ok3 hz (by omega) zd,aFU hw.aF ok3 (aGg hz) (by omega) zd]
  simp only [Option.bind_some]
  have ok4:=aN2 (ok:=(c&&Y.2)) hw ok3 hz
  have sz4:=aNb w Y.1 (c&&Y.2)
  refine ⟨aIo w Y.1 (c&&Y.2),?_,?_,ok4,by omega⟩
  ·cases c<;>simp
  ·unfold aIo
   cases c
   ·simp
   ·cases Y.2
    ·simp
    ·cases (aLo w.aF Y.1).2<;>simp
end Go.Proofs.YtnhpbpnhmapeeaaGreat.gen
