/-
  Helper text. No conditions.
-/
import Derived.Test.YtidhkhdnjonjfaaGreatBucketsShP
import Derived.Lib.Walk
import Derived.Lib.Bytealg
import Derived.Laws.Externs
set_option linter.unusedVariables false
set_option linter.unusedSimpArgs false
namespace Go.Sh
theorem aSU {s:ByteArray} {k:Nat} (h:k<s.size):s[k]? = some s[k]:=by simp [h]
theorem aDw {s:ByteArray} {k:Nat} (h:k<s.size):aNn s (k:Int)=some s[k]:=by
 unfold aNn
 rw [if_pos (by omega),qH,aSU h]
theorem aL2 {R:Type} {N:Nat} {g:Nat→Bool} {F E:Option R} {L:Nat→Int→Option R}
  (h1 : ∀n (k:Nat) (hk:k<N),L (n+1) (k:Int)=if g k=true then L n ((k+1:Nat):Int) else F) (h2 : ∀n,L (n+1) (N:Int)=E) :
  ∀(n k:Nat),N-k<n→k≤N→L n (k:Int)=if (List.range' k (N-k)).all g=true then E else F
 | 0,k,hn,_=>by omega
 | n+1,k,hn,hk=>by
  rcases Nat.lt_or_ge k N with h | h
  ·rw [h1 n k h,aL2 h1 h2 n (k+1) (by omega) h]
   have e:N-k=(N-(k+1))+1:=by omega
   rw [e,List.range'_succ,List.all_cons]
   cases g k<;>simp only [Bool.true_and,Bool.false_and,if_true,if_false,qD]
  ·have:k=N:=by omega
   subst this
   rw [h2];simp
theorem tT {R:Type} {N:Nat} {g:Nat→Bool} {F E:Option R} {L:Nat→Int→Option R} (hx:N≤maxLen)
  (h1 : ∀n (k:Nat) (hk:k<N),L (n+1) (k:Int)=if g k=true then L n ((k+1:Nat):Int) else F) (h2 : ∀n,L (n+1) (N:Int)=E) :
  L fuel 0=if (List.range N).all g=true then E else F:=by
 have hm:=le_max hx
 have:=aL2 h1 h2 fuel 0 (by unfold fuel;omega) (by omega)
 rw [List.range_eq_range']
 simpa using this
theorem aPZ (a b:UInt8):(decide (a<b)||(a==b)) = !decide (b<a):=by
 by_cases h:b<a
 ·have h1 : ¬a<b:=by rw [UInt8.lt_iff_toNat_lt] at *;omega
  have h2 : ¬a=b:=by intro e;subst e;rw [UInt8.lt_iff_toNat_lt] at h;omega
  simp [h,h1,h2]
 ·by_cases h3:a<b
  ·simp [h,h3]
  ·have:a=b:=by
    rw [UInt8.lt_iff_toNat_lt] at h h3
    exact UInt8.toNat_inj.1 (by omega)
   subst this;simp
theorem xB : ∀(a b:List UInt8),Op.bytesLess a b = !(Op.bytesLess b a||b==a)
 | [],[]=>rfl
 | [],_::_=>rfl
 | _::_,[]=>rfl
 | x::a,y::b=>by
  have ih:=xB a b
  have e1:Op.bytesLess (x::a) (y::b)=(decide (x<y)||((x==y)&&Op.bytesLess a b)):=rfl
  have e2:Op.bytesLess (y::b) (x::a)=(decide (y<x)||((y==x)&&Op.bytesLess b a)):=rfl
  have e3:((y::b)==(x::a))=((y==x)&&(b==a)):=rfl
  rw [e1,e2,e3,ih]
  by_cases h:x=y
  ·subst h
   have : ¬x<x:=by rw [UInt8.lt_iff_toNat_lt];omega
   simp [this]
  ·have h2 : ¬y=x:=fun e=>h e.symm
   have h3:=aPZ y x
   have h4:(y==x)=false:=by simp [h2]
   have h5:(x==y)=false:=by simp [h]
   rw [h4] at h3 ⊢
   rw [h5]
   simp at h3 ⊢
   rw [h3]
   simp
theorem aFr {n m:Nat} (hn:n<9223372036854775808) (hm:m<9223372036854775808):IntKind.i64.wrap ((BitVec.ofInt IntKind.i64.bits (n:Int)&&&BitVec.ofInt IntKind.i64.bits (m:Int)).toNat:Int)=((n&&&m:Nat):Int):=by
 have hb:IntKind.i64.bits=64:=rfl
 rw [hb,BitVec.toNat_and,BitVec.ofInt_natCast,BitVec.ofInt_natCast,BitVec.toNat_ofNat,BitVec.toNat_ofNat,Nat.mod_eq_of_lt (by omega),Nat.mod_eq_of_lt (by omega)]
 have:=Nat.and_le_left (n:=n) (m:=m)
 rw [bO (by omega) (by omega)]
theorem aHp {n m:Nat} (hn:n<9223372036854775808) (hm:m<9223372036854775808):IntKind.i64.wrap ((BitVec.ofInt IntKind.i64.bits (n:Int)|||BitVec.ofInt IntKind.i64.bits (m:Int)).toNat:Int)=((n|||m:Nat):Int):=by
 have hb:IntKind.i64.bits=64:=rfl
 rw [hb,BitVec.toNat_or,BitVec.ofInt_natCast,BitVec.ofInt_natCast,BitVec.toNat_ofNat,BitVec.toNat_ofNat,Nat.mod_eq_of_lt (by omega),Nat.mod_eq_of_lt (by omega)]
 have:n|||m<2^63:=Nat.or_lt_two_pow (by omega) (by omega)
 rw [bO (by omega) (by omega)]
theorem aNe (n:Nat):n&&&127=n%128:=by have:=Nat.and_two_pow_sub_one_eq_mod n 7;simpa using this
theorem aPA (n:Nat):n&&&255=n%256:=by have:=Nat.and_two_pow_sub_one_eq_mod n 8;simpa using this
theorem aQs {n:Nat} (h:n<128):n|||128=n+128:=by
 have:=Nat.two_pow_add_eq_or_of_lt (i:=7) (b:=n) (by omega) 1
 rw [Nat.or_comm]
 have e:2^7*1=128:=rfl
 rw [e] at this
 omega
def uv (n:Nat):List Int:=if h:n<128 then [(n:Int)] else ((n%128+128:Nat):Int)::uv (n/128)
 termination_by n
 decreasing_by omega
theorem aDg {n:Nat} (h:n<128):uv n=[(n:Int)]:=by rw [uv,dif_pos h]
theorem aH1 {n:Nat} (h : ¬n<128):uv n=((n%128+128:Nat):Int)::uv (n/128):=by rw [uv,dif_neg h]
theorem aBK : ∀(n:Nat),n<2^63→(uv n).length≤9:=by
 have key : ∀(j n:Nat),n<2^(7*(j+1))→(uv n).length≤j+1:=by
  intro j
  induction j with
  | zero=>intro n h;rw [aDg (by simpa using h)];simp
  | succ j ih =>
   intro n h
   by_cases h1:n<128
   ·rw [aDg h1];simp
   ·rw [aH1 h1,qJ]
    have:n/128<2^(7*(j+1)):=by
     rw [Nat.div_lt_iff_lt_mul (by omega)]
     have e:2^(7*(j+1+1))=2^(7*(j+1))*128:=by rw [show 7*(j+1+1)=7*(j+1)+7 by omega,Nat.pow_add]
     omega
    have:=ih _ this
    omega
 intro n h
 exact key 8 n (by simpa using h)
theorem wrap_u8 (n:Int):IntKind.u8.wrap n=n%256:=by simp [IntKind.wrap,IntKind.bits,IntKind.signed]
theorem fC {α:Type} {b:Nat} {xs ys:List α} (h:(xs.length+ys.length)*b≤140737488355328):app b xs ys=some (xs++ys):=by unfold app;rw [if_pos h]
end Go.Sh
namespace Go.Sh
theorem aKN {α σ R:Type} {xs:List α} {step:σ→α→σ} {E:σ→Option R} {L:Nat→σ→Int→Option R}
  (h1 : ∀n s (k:Nat) (hk:k<xs.length),L (n+1) s (k:Int)=L n (step s xs[k]) ((k+1:Nat):Int)) (h2 : ∀n s,L (n+1) s (xs.length:Int)=E s) :
  ∀(n k:Nat) (s:σ),xs.length-k<n→k≤xs.length→L n s (k:Int)=E ((xs.drop k).foldl step s)
 | 0,k,s,hn,_=>by omega
 | n+1,k,s,hn,hk=>by
  rcases Nat.lt_or_ge k xs.length with h | h
  ·rw [h1 n s k h,aKN h1 h2 n (k+1) _ (by omega) h,qV h,List.foldl_cons]
  ·have:k=xs.length:=by omega
   subst this
   rw [h2 n s];simp
theorem aCS {α σ R:Type} {xs:List α} {step:σ→α→σ} {E:σ→Option R} {L:Nat→σ→Int→Option R} (hx:xs.length≤maxLen)
  (h1 : ∀n s (k:Nat) (hk:k<xs.length),L (n+1) s (k:Int)=L n (step s xs[k]) ((k+1:Nat):Int)) (h2 : ∀n s,L (n+1) s (xs.length:Int)=E s) (s:σ) :
  L fuel s 0=E (xs.foldl step s):=by
 have hm:=le_max hx
 have:=aKN h1 h2 fuel 0 s (by unfold fuel;omega) (by omega)
 simpa using this
theorem aIR {α:Type} {xs:List α} {w:α→Nat} {B:Nat} {L:Nat→Int→List Int→Option (List Int)}
  (h1 : ∀n (k:Nat) (hk:k<xs.length) r,r.length+w xs[k]≤B → ∃r':List Int,r'.length=r.length+w xs[k]∧L (n+1) (k:Int) r=L n ((k+1:Nat):Int) r') (h2 : ∀n r,L (n+1) (xs.length:Int) r=some r) :
  ∀(n k:Nat) (r:List Int),xs.length-k<n→k≤xs.length→r.length+lV w (xs.drop k)≤B → ∃l,L n (k:Int) r=some l∧l.length=r.length+lV w (xs.drop k)
 | 0,k,r,hn,_,_=>by omega
 | n+1,k,r,hn,hk,hB=>by
  rcases Nat.lt_or_ge k xs.length with h | h
  ·have e:lV w (xs.drop k)=w xs[k]+lV w (xs.drop (k+1)):=by rw [qV h];rfl
   rw [e] at hB ⊢
   obtain ⟨r',hr,e1⟩:=h1 n k h r (by omega)
   obtain ⟨l,e2,e3⟩:=aIR h1 h2 n (k+1) r' (by omega) h (by omega)
   exact ⟨l,by rw [e1,e2],by omega⟩
  ·have:k=xs.length:=by omega
   subst this
   refine ⟨r,h2 n r,?_⟩
   simp [lV]
theorem kU {α:Type} {w:α→Nat} {b:Nat} : ∀ {xs:List α},(∀x∈xs,w x≤b)→lV w xs≤xs.length*b
 | [],_=>by simp [lV]
 | x::xs,h=>by
  have h1:=h x (by simp)
  have h2:=kU (xs:=xs) (fun y hy=>h y (by simp [hy]))
  simp only [lV,qJ,Nat.succ_mul]
  omega
theorem aKj {L:Nat→Int→List Int→Option (List Int)} {b c:Int→Int}
  (h1 : ∀m (n:Nat) r,¬n<128→n<2^63→L (m+1) (n:Int) r=(app 1 r [b n]).bind fun _=>L m ((n/128:Nat):Int) (r++[b n]))
  (h2 : ∀m (n:Nat) r,n<128→L (m+1) (n:Int) r=(app 1 r [c n]).bind fun _=>some (r++[c n])) :
  ∀(j m n:Nat) (r:List Int),n<2^(7*(j+1))→n<2^63→j<m→r.length+(j+1)≤140737488355328 → ∃l,L m (n:Int) r=some l∧l.length=r.length+(uv n).length
 | j,0,n,r,_,_,hm,_=>by omega
 | 0,m+1,n,r,hn,hn2,hm,hr=>by
  have h:n<128:=by simpa using hn
  refine ⟨r++[c n],?_,?_⟩
  ·rw [h2 m n r h,fC (by simp;omega),qA]
  ·rw [aDg h];simp
 | j+1,m+1,n,r,hn,hn2,hm,hr=>by
  by_cases h:n<128
  ·refine ⟨r++[c n],?_,?_⟩
   ·rw [h2 m n r h,fC (by simp;omega),qA]
   ·rw [aDg h];simp
  ·have hd:n/128<2^(7*(j+1)):=by
    rw [Nat.div_lt_iff_lt_mul (by omega)]
    have e:2^(7*(j+1+1))=2^(7*(j+1))*128:=by rw [show 7*(j+1+1)=7*(j+1)+7 by omega,Nat.pow_add]
    omega
   obtain ⟨l,e1,e2⟩:=aKj h1 h2 j m (n/128) (r++[b n]) hd (by omega) (by omega) (by simp;omega)
   refine ⟨l,?_,?_⟩
   ·rw [h1 m n r h hn2,fC (by simp;omega),qA,e1]
   ·rw [e2,aH1 h];simp;omega
theorem aQ (s:ByteArray):(cH s).length=s.size:=by unfold cH;rw [List.length_map,Array.length_toList];rfl
theorem wrap_add (x y:Int):IntKind.i64.wrap (IntKind.i64.wrap x+y)=IntKind.i64.wrap (x+y):=by rw [IntKind.wrap_i64,IntKind.wrap_i64,IntKind.wrap_i64];omega
theorem aLw (x y:Int):IntKind.i64.wrap (x+IntKind.i64.wrap y)=IntKind.i64.wrap (x+y):=by rw [IntKind.wrap_i64,IntKind.wrap_i64,IntKind.wrap_i64];omega
def bat (s:ByteArray) (k:Nat) (g:UInt8→Bool):Bool:=(s[k]?).any g
theorem aPi {s:ByteArray} {k:Nat} (h:k<s.size) (g:UInt8→Bool):bat s k g=g s[k]:=by unfold bat;rw [aSU h];rfl
def aMK (s:ByteArray) (g:UInt8→Bool):Bool:=(List.range s.size).all fun k=>bat s k g
theorem aD4 {R:Type} {s:ByteArray} {g:UInt8→Bool} {F E:Option R} {L:Nat→Int→Option R} (hx:s.size≤maxLen)
  (h1 : ∀n (k:Nat) (hk:k<s.size),L (n+1) (k:Int)=if g s[k]=true then L n ((k+1:Nat):Int) else F) (h2 : ∀n,L (n+1) (s.size:Int)=E) :
  L fuel 0=if aMK s g=true then E else F:=
 tT (g:=fun k=>bat s k g) hx (fun n k hk=>by rw [h1 n k hk];simp only [aPi hk]) h2
def inR (x a b:Int):Bool:=decide (a≤x)&&decide (x≤b)
theorem wB {α:Type} (x:Int) (a b:α):(if x<0 then a else b)=if (decide (0≤x))=true then b else a:=by
 by_cases h:x<0
 ·rw [if_pos h,if_neg (by simp;omega)]
 ·rw [if_neg h,if_pos (by simp;omega)]
theorem uvf (n:Nat):Int.fdiv (n:Int) (2^(min (7:Int).toNat IntKind.i64.bits))=((n/128:Nat):Int):=by
 have e:(2:Int)^(min (7:Int).toNat IntKind.i64.bits)=128:=by decide
 rw [e,Int.fdiv_eq_ediv_of_nonneg _ (by decide)]
 omega
theorem uvt {n:Nat} (h:n<2^63):IntKind.i64.wrap (Int.tdiv (n:Int) 128)=((n/128:Nat):Int):=by
 rw [Int.tdiv_eq_ediv_of_nonneg (by omega),bO (by omega) (by omega)]
 omega
theorem vV {α:Type} (x:Int) (a b:α):(if x=0 then a else b)=if (decide (x=0))=true then a else b:=by
 by_cases h:x=0
 ·rw [if_pos h,if_pos (by simpa using h)]
 ·rw [if_neg h,if_neg (by simpa using h)]
theorem aOQ:fuel=18446744073709551609+7:=rfl
end Go.Sh
namespace Go.Sh
theorem lM {α:Type} {f:α→Bool} {xs:List α} (h : ¬rD f xs<0) : ∃k:Nat,rD f xs=(k:Int)∧k<xs.length:=by
 unfold rD at h ⊢
 cases e:xs.findIdx? f with
 | none=>rw [e] at h;simp at h
 | some i=>exact ⟨i,rfl,(List.findIdx?_eq_some_iff_getElem.1 e).1⟩
theorem aLY {b:Nat} {xs:List Int} {f:Int→Int} {L:Nat→Int→List Int→Option (List Int)}
  (h1 : ∀n (k:Nat) (hk:k<xs.length) r,L (n+1) (k:Int) r=(app b r [f xs[k]]).bind fun _=>L n ((k+1:Nat):Int) (r++[f xs[k]])) (h2 : ∀n r,L (n+1) (xs.length:Int) r=some r) :
  ∀(n k:Nat) (r:List Int),xs.length-k<n→k≤xs.length→(r.length+(xs.length-k))*b≤140737488355328→L n (k:Int) r=some (r++(xs.drop k).map f)
 | 0,k,r,hn,_,_=>by omega
 | n+1,k,r,hn,hk,hB=>by
  rcases Nat.lt_or_ge k xs.length with h | h
  ·have hle:(r.length+1)*b≤(r.length+(xs.length-k))*b:=Nat.mul_le_mul_right b (by omega)
   rw [h1 n k h r,fC (by simp only [List.length_singleton];omega),qA,aLY h1 h2 n (k+1) _ (by omega) h (by rw [qE,List.length_singleton,show r.length+1+(xs.length-(k+1))=r.length+(xs.length-k) by omega];exact hB),qV h,List.map_cons,qS]
   rfl
  ·have:k=xs.length:=by omega
   subst this
   rw [h2];simp
def aKi (x:Int):Int:=x%2147483647
theorem aIU (x:Int):0≤aKi x∧aKi x<2147483647:=by unfold aKi;omega
theorem aCW {x:Int} (h:0≤x):Int.tmod x 2147483647=aKi x:=Int.tmod_eq_emod_of_nonneg h
theorem tmod_neg {x:Int} (h:x<0):Int.tmod x 2147483647 = - aKi (-x):=by
 have e:x = -(-x):=by omega
 have h2:=Int.neg_tmod (-x) 2147483647
 rw [←e] at h2
 rw [h2,aCW (by omega)]
def aJi (v x:Int):Int:=Int.tmod (IntKind.i64.wrap ((IntKind.i64.wrap ((IntKind.i64.wrap (v*1000003))+aKi x))+13)) 2147483647
theorem aOp {v:Int} (x:Int) (h:0≤v∧v<2147483647):0≤aJi v x∧aJi v x<2147483647:=by
 have:=aIU x
 unfold aJi
 rw [bO (n:=v*1000003) (by omega) (by omega),bO (n:=v*1000003+aKi x) (by omega) (by omega),bO (by omega) (by omega),aCW (by omega)]
 exact aIU _
def aJv (l:List Int):Int:=l.foldl aJi 11
theorem aOG (l:List Int):0≤aJv l∧aJv l<2147483647:=by
 have key : ∀(l:List Int) (v:Int),0≤v∧v<2147483647→0≤l.foldl aJi v∧l.foldl aJi v<2147483647:=by
  intro l
  induction l with
  | nil=>intro v h;exact h
  | cons x l ih=>intro v h;exact ih _ (aOp x h)
 exact key l 11 (by omega)
theorem aMR (x:Int):Int.tmod (IntKind.i64.wrap ((Int.tmod x 2147483647)+2147483647)) 2147483647=aKi x:=by
 by_cases h:0≤x
 ·have:=aIU x
  rw [aCW h,bO (by omega) (by omega),aCW (by omega)]
  unfold aKi;omega
 ·have:=aIU (-x)
  rw [tmod_neg (x:=x) (by omega),bO (by omega) (by omega),aCW (by omega)]
  unfold aKi;omega
end Go.Sh
namespace Go.Sh
open Go.RowKit
theorem aIK {P : Program} {f : FuncId} {fn : Func} {c : Code} {a b : ByteArray} {r : Int} (hf : P.funcs[f]? = some fn) (hb : fn.body = some c) (hn : (fn.name == "runtime.NumGoroutine") = false)
  (h : ∀w,Calls P f #[.string a,.string b] w fun e w'=>e = .returned (.int .i64 r)∧w'=w):jJ P f [(false,[.str a]),(false,[.str b])] [(false,[.ro (.int .i64 r)])]:=by
 refine .inl ⟨⟨fn,c,hf,hb,hn⟩,fun w vs Fa ha => ?_⟩
 have e:vs = #[.string a,.string b]:=by
  obtain ⟨l⟩:=vs
  match l,ha with
  | [x,y],⟨_,_,_,h1,_,_,_,h2,_⟩ =>
   simp [aIn,Rep] at h1 h2
   simp [h1,h2]
 subst e
 refine (h w).mono fun e w' hh => ?_
 obtain ⟨rfl,rfl⟩:=hh
 exact ⟨_,rfl,⟨[],fun _=>False,⟨List.nodup_nil,by simp⟩,fun _ h=>h.elim,fun _=>rfl,by simp [aIX,aEk,kK,Rep]⟩,Below.refl _ _⟩
end Go.Sh
namespace Go.Sh
theorem aEb : ∀(a:List UInt8),Op.bytesLess a a=false
 | []=>rfl
 | x::a=>by
  have e:Op.bytesLess (x::a) (x::a)=(decide (x<x)||((x==x)&&Op.bytesLess a a)):=rfl
  rw [e,aEb a]
  have : ¬x<x:=by rw [UInt8.lt_iff_toNat_lt];omega
  simp [this]
theorem aAS : ∀(a b:List UInt8),Lib.compareBytes a b=if Op.bytesLess a b=true then -1 else if (a==b)=true then 0 else 1
 | [],[]=>rfl
 | [],_::_=>rfl
 | _::_,[]=>rfl
 | x::a,y::b=>by
  have e1:Op.bytesLess (x::a) (y::b)=(decide (x<y)||((x==y)&&Op.bytesLess a b)):=rfl
  have e2:((x::a)==(y::b))=((x==y)&&(a==b)):=rfl
  rw [Lib.compareBytes,aAS a b,e1,e2]
  by_cases h:x<y
  ·simp [h]
  ·by_cases h2:y<x
   ·have h3 : ¬x=y:=by intro e;subst e;exact h h2
    simp [h,h2,h3]
   ·have h3:x=y:=by
     rw [UInt8.lt_iff_toNat_lt] at h h2
     exact UInt8.toNat_inj.1 (by omega)
    subst h3
    simp [h]
end Go.Sh
