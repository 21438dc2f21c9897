/-
  Helper text. No conditions.
-/
import Derived.Test.YtidhkhdnjonjfaaGreatShP
import Derived.Lib.Walk
import Derived.Lib.Bytealg
import Derived.Laws.Externs
set_option linter.unusedVariables false
set_option linter.unusedSimpArgs false
namespace Go.Sh
theorem aWt {s:ByteArray} {k:Nat} (h:k<s.size):s[k]? = some s[k]:=by simp [h]
theorem aF1 {s:ByteArray} {k:Nat} (h:k<s.size):aQg s (k:Int)=some s[k]:=by
 unfold aQg
 rw [if_pos (by omega),qH,aWt h]
theorem aPe {R:Type} {N:Nat} {g:Nat→Bool} {F E:Option R} {L:Nat→Int→Option R}
  (h1 : ∀n (k:Nat) (hk:k<N),L (n+1) (k:Int)=if g k=true then L n ((k+1:Nat):Int) else F) (h2 : ∀n,L (n+1) (N:Int)=E) :
  ∀(n k:Nat),N-k<n→k≤N→L n (k:Int)=if (List.range' k (N-k)).all g=true then E else F
 | 0,k,hn,_=>by omega
 | n+1,k,hn,hk=>by
  rcases Nat.lt_or_ge k N with h | h
  ·rw [h1 n k h,aPe h1 h2 n (k+1) (by omega) h]
   have e:N-k=(N-(k+1))+1:=by omega
   rw [e,List.range'_succ,List.all_cons]
   cases g k<;>simp only [Bool.true_and,Bool.false_and,if_true,if_false,qD]
  ·have:k=N:=by omega
   subst this
   rw [h2];simp
theorem lC {R:Type} {N:Nat} {g:Nat→Bool} {F E:Option R} {L:Nat→Int→Option R} (hx:N≤maxLen)
  (h1 : ∀n (k:Nat) (hk:k<N),L (n+1) (k:Int)=if g k=true then L n ((k+1:Nat):Int) else F) (h2 : ∀n,L (n+1) (N:Int)=E) :
  L fuel 0=if (List.range N).all g=true then E else F:=by
 have hm:=le_max hx
 have:=aPe h1 h2 fuel 0 (by unfold fuel;omega) (by omega)
 rw [List.range_eq_range']
 simpa using this
theorem aSP (a b:UInt8):(decide (a<b)||(a==b)) = !decide (b<a):=by
 by_cases h:b<a
 ·have h1 : ¬a<b:=by rw [UInt8.lt_iff_toNat_lt] at *;omega
  have h2 : ¬a=b:=by intro e;subst e;rw [UInt8.lt_iff_toNat_lt] at h;omega
  simp [h,h1,h2]
 ·by_cases h3:a<b
  ·simp [h,h3]
  ·have:a=b:=by
    rw [UInt8.lt_iff_toNat_lt] at h h3
    exact UInt8.toNat_inj.1 (by omega)
   subst this;simp
theorem aEJ : ∀(a b:List UInt8),Op.bytesLess a b = !(Op.bytesLess b a||b==a)
 | [],[]=>rfl
 | [],_::_=>rfl
 | _::_,[]=>rfl
 | x::a,y::b=>by
  have ih:=aEJ a b
  have e1:Op.bytesLess (x::a) (y::b)=(decide (x<y)||((x==y)&&Op.bytesLess a b)):=rfl
  have e2:Op.bytesLess (y::b) (x::a)=(decide (y<x)||((y==x)&&Op.bytesLess b a)):=rfl
  have e3:((y::b)==(x::a))=((y==x)&&(b==a)):=rfl
  rw [e1,e2,e3,ih]
  by_cases h:x=y
  ·subst h
   have : ¬x<x:=by rw [UInt8.lt_iff_toNat_lt];omega
   simp [this]
  ·have h2 : ¬y=x:=fun e=>h e.symm
   have h3:=aSP y x
   have h4:(y==x)=false:=by simp [h2]
   have h5:(x==y)=false:=by simp [h]
   rw [h4] at h3 ⊢
   rw [h5]
   simp at h3 ⊢
   rw [h3]
   simp
theorem aP6 {n m:Nat} (hn:n<9223372036854775808) (hm:m<9223372036854775808):IntKind.i64.wrap ((BitVec.ofInt IntKind.i64.bits (n:Int)&&&BitVec.ofInt IntKind.i64.bits (m:Int)).toNat:Int)=((n&&&m:Nat):Int):=by
 have hb:IntKind.i64.bits=64:=rfl
 rw [hb,BitVec.toNat_and,BitVec.ofInt_natCast,BitVec.ofInt_natCast,BitVec.toNat_ofNat,BitVec.toNat_ofNat,Nat.mod_eq_of_lt (by omega),Nat.mod_eq_of_lt (by omega)]
 have:=Nat.and_le_left (n:=n) (m:=m)
 rw [fB (by omega) (by omega)]
theorem aR5 (n:Nat):n&&&255=n%256:=by have:=Nat.and_two_pow_sub_one_eq_mod n 8;simpa using this
def uv (n:Nat):List Int:=if h:n<128 then [(n:Int)] else ((n%128+128:Nat):Int)::uv (n/128)
 termination_by n
 decreasing_by omega
theorem aQH {n:Nat} (h:n<128):uv n=[(n:Int)]:=by rw [uv,dif_pos h]
theorem aSG {n:Nat} (h : ¬n<128):uv n=((n%128+128:Nat):Int)::uv (n/128):=by rw [uv,dif_neg h]
theorem aFQ : ∀(n:Nat),n<2^63→(uv n).length≤9:=by
 have key : ∀(j n:Nat),n<2^(7*(j+1))→(uv n).length≤j+1:=by
  intro j
  induction j with
  | zero=>intro n h;rw [aQH (by simpa using h)];simp
  | succ j ih =>
   intro n h
   by_cases h1:n<128
   ·rw [aQH h1];simp
   ·rw [aSG h1,qJ]
    have:n/128<2^(7*(j+1)):=by
     rw [Nat.div_lt_iff_lt_mul (by omega)]
     have e:2^(7*(j+1+1))=2^(7*(j+1))*128:=by rw [show 7*(j+1+1)=7*(j+1)+7 by omega,Nat.pow_add]
     omega
    have:=ih _ this
    omega
 intro n h
 exact key 8 n (by simpa using h)
theorem wrap_u8 (n:Int):IntKind.u8.wrap n=n%256:=by simp [IntKind.wrap,IntKind.bits,IntKind.signed]
theorem lM {α:Type} {b:Nat} {xs ys:List α} (h:(xs.length+ys.length)*b≤140737488355328):app b xs ys=some (xs++ys):=by unfold app;rw [if_pos h]
end Go.Sh
namespace Go.Sh
theorem aOM {α σ R:Type} {xs:List α} {step:σ→α→σ} {E:σ→Option R} {L:Nat→σ→Int→Option R}
  (h1 : ∀n s (k:Nat) (hk:k<xs.length),L (n+1) s (k:Int)=L n (step s xs[k]) ((k+1:Nat):Int)) (h2 : ∀n s,L (n+1) s (xs.length:Int)=E s) :
  ∀(n k:Nat) (s:σ),xs.length-k<n→k≤xs.length→L n s (k:Int)=E ((xs.drop k).foldl step s)
 | 0,k,s,hn,_=>by omega
 | n+1,k,s,hn,hk=>by
  rcases Nat.lt_or_ge k xs.length with h | h
  ·rw [h1 n s k h,aOM h1 h2 n (k+1) _ (by omega) h,qV h,List.foldl_cons]
  ·have:k=xs.length:=by omega
   subst this
   rw [h2 n s];simp
theorem aFZ {α σ R:Type} {xs:List α} {step:σ→α→σ} {E:σ→Option R} {L:Nat→σ→Int→Option R} (hx:xs.length≤maxLen)
  (h1 : ∀n s (k:Nat) (hk:k<xs.length),L (n+1) s (k:Int)=L n (step s xs[k]) ((k+1:Nat):Int)) (h2 : ∀n s,L (n+1) s (xs.length:Int)=E s) (s:σ) :
  L fuel s 0=E (xs.foldl step s):=by
 have hm:=le_max hx
 have:=aOM h1 h2 fuel 0 s (by unfold fuel;omega) (by omega)
 simpa using this
theorem aMc {α:Type} {xs:List α} {w:α→Nat} {B:Nat} {L:Nat→Int→List Int→Option (List Int)}
  (h1 : ∀n (k:Nat) (hk:k<xs.length) r,r.length+w xs[k]≤B → ∃r':List Int,r'.length=r.length+w xs[k]∧L (n+1) (k:Int) r=L n ((k+1:Nat):Int) r') (h2 : ∀n r,L (n+1) (xs.length:Int) r=some r) :
  ∀(n k:Nat) (r:List Int),xs.length-k<n→k≤xs.length→r.length+aF w (xs.drop k)≤B → ∃l,L n (k:Int) r=some l∧l.length=r.length+aF w (xs.drop k)
 | 0,k,r,hn,_,_=>by omega
 | n+1,k,r,hn,hk,hB=>by
  rcases Nat.lt_or_ge k xs.length with h | h
  ·have e:aF w (xs.drop k)=w xs[k]+aF w (xs.drop (k+1)):=by rw [qV h];rfl
   rw [e] at hB ⊢
   obtain ⟨r',hr,e1⟩:=h1 n k h r (by omega)
   obtain ⟨l,e2,e3⟩:=aMc h1 h2 n (k+1) r' (by omega) h (by omega)
   exact ⟨l,by rw [e1,e2],by omega⟩
  ·have:k=xs.length:=by omega
   subst this
   refine ⟨r,h2 n r,?_⟩
   simp [aF]
theorem aC8 {α:Type} {w:α→Nat} {b:Nat} : ∀ {xs:List α},(∀x∈xs,w x≤b)→aF w xs≤xs.length*b
 | [],_=>by simp [aF]
 | x::xs,h=>by
  have h1:=h x (by simp)
  have h2:=aC8 (xs:=xs) (fun y hy=>h y (by simp [hy]))
  simp only [aF,qJ,Nat.succ_mul]
  omega
theorem aOe {L:Nat→Int→List Int→Option (List Int)} {b c:Int→Int}
  (h1 : ∀m (n:Nat) r,¬n<128→n<2^63→L (m+1) (n:Int) r=(app 1 r [b n]).bind fun _=>L m ((n/128:Nat):Int) (r++[b n]))
  (h2 : ∀m (n:Nat) r,n<128→L (m+1) (n:Int) r=(app 1 r [c n]).bind fun _=>some (r++[c n])) :
  ∀(j m n:Nat) (r:List Int),n<2^(7*(j+1))→n<2^63→j<m→r.length+(j+1)≤140737488355328 → ∃l,L m (n:Int) r=some l∧l.length=r.length+(uv n).length
 | j,0,n,r,_,_,hm,_=>by omega
 | 0,m+1,n,r,hn,hn2,hm,hr=>by
  have h:n<128:=by simpa using hn
  refine ⟨r++[c n],?_,?_⟩
  ·rw [h2 m n r h,lM (by simp;omega),qA]
  ·rw [aQH h];simp
 | j+1,m+1,n,r,hn,hn2,hm,hr=>by
  by_cases h:n<128
  ·refine ⟨r++[c n],?_,?_⟩
   ·rw [h2 m n r h,lM (by simp;omega),qA]
   ·rw [aQH h];simp
  ·have hd:n/128<2^(7*(j+1)):=by
    rw [Nat.div_lt_iff_lt_mul (by omega)]
    have e:2^(7*(j+1+1))=2^(7*(j+1))*128:=by rw [show 7*(j+1+1)=7*(j+1)+7 by omega,Nat.pow_add]
    omega
   obtain ⟨l,e1,e2⟩:=aOe h1 h2 j m (n/128) (r++[b n]) hd (by omega) (by omega) (by simp;omega)
   refine ⟨l,?_,?_⟩
   ·rw [h1 m n r h hn2,lM (by simp;omega),qA,e1]
   ·rw [e2,aSG h];simp;omega
theorem bG (s:ByteArray):(fJ s).length=s.size:=by unfold fJ;rw [List.length_map,Array.length_toList];rfl
theorem wrap_add (x y:Int):IntKind.i64.wrap (IntKind.i64.wrap x+y)=IntKind.i64.wrap (x+y):=by rw [IntKind.wrap_i64,IntKind.wrap_i64,IntKind.wrap_i64];omega
theorem aPZ (x y:Int):IntKind.i64.wrap (x+IntKind.i64.wrap y)=IntKind.i64.wrap (x+y):=by rw [IntKind.wrap_i64,IntKind.wrap_i64,IntKind.wrap_i64];omega
def bat (s:ByteArray) (k:Nat) (g:UInt8→Bool):Bool:=(s[k]?).any g
theorem aSW {s:ByteArray} {k:Nat} (h:k<s.size) (g:UInt8→Bool):bat s k g=g s[k]:=by unfold bat;rw [aWt h];rfl
def aPv (s:ByteArray) (g:UInt8→Bool):Bool:=(List.range s.size).all fun k=>bat s k g
theorem aGe {R:Type} {s:ByteArray} {g:UInt8→Bool} {F E:Option R} {L:Nat→Int→Option R} (hx:s.size≤maxLen)
  (h1 : ∀n (k:Nat) (hk:k<s.size),L (n+1) (k:Int)=if g s[k]=true then L n ((k+1:Nat):Int) else F) (h2 : ∀n,L (n+1) (s.size:Int)=E) :
  L fuel 0=if aPv s g=true then E else F:=
 lC (g:=fun k=>bat s k g) hx (fun n k hk=>by rw [h1 n k hk];simp only [aSW hk]) h2
def inR (x a b:Int):Bool:=decide (a≤x)&&decide (x≤b)
theorem aCy {α:Type} (x:Int) (a b:α):(if x<0 then a else b)=if (decide (0≤x))=true then b else a:=by
 by_cases h:x<0
 ·rw [if_pos h,if_neg (by simp;omega)]
 ·rw [if_neg h,if_pos (by simp;omega)]
theorem uvf (n:Nat):Int.fdiv (n:Int) (2^(min (7:Int).toNat IntKind.i64.bits))=((n/128:Nat):Int):=by
 have e:(2:Int)^(min (7:Int).toNat IntKind.i64.bits)=128:=by decide
 rw [e,Int.fdiv_eq_ediv_of_nonneg _ (by decide)]
 omega
theorem uvt {n:Nat} (h:n<2^63):IntKind.i64.wrap (Int.tdiv (n:Int) 128)=((n/128:Nat):Int):=by
 rw [Int.tdiv_eq_ediv_of_nonneg (by omega),fB (by omega) (by omega)]
 omega
theorem aCx {α:Type} (x:Int) (a b:α):(if x=0 then a else b)=if (decide (x=0))=true then a else b:=by
 by_cases h:x=0
 ·rw [if_pos h,if_pos (by simpa using h)]
 ·rw [if_neg h,if_neg (by simpa using h)]
theorem aRc:fuel=18446744073709551609+7:=rfl
end Go.Sh
namespace Go.Sh
theorem vC {α:Type} {f:α→Bool} {xs:List α} (h : ¬yK f xs<0) : ∃k:Nat,yK f xs=(k:Int)∧k<xs.length:=by
 unfold yK at h ⊢
 cases e:xs.findIdx? f with
 | none=>rw [e] at h;simp at h
 | some i=>exact ⟨i,rfl,(List.findIdx?_eq_some_iff_getElem.1 e).1⟩
theorem aMO {b:Nat} {xs:List Int} {f:Int→Int} {L:Nat→Int→List Int→Option (List Int)}
  (h1 : ∀n (k:Nat) (hk:k<xs.length) r,L (n+1) (k:Int) r=(app b r [f xs[k]]).bind fun _=>L n ((k+1:Nat):Int) (r++[f xs[k]])) (h2 : ∀n r,L (n+1) (xs.length:Int) r=some r) :
  ∀(n k:Nat) (r:List Int),xs.length-k<n→k≤xs.length→(r.length+(xs.length-k))*b≤140737488355328→L n (k:Int) r=some (r++(xs.drop k).map f)
 | 0,k,r,hn,_,_=>by omega
 | n+1,k,r,hn,hk,hB=>by
  rcases Nat.lt_or_ge k xs.length with h | h
  ·have hle:(r.length+1)*b≤(r.length+(xs.length-k))*b:=Nat.mul_le_mul_right b (by omega)
   rw [h1 n k h r,lM (by simp only [List.length_singleton];omega),qA,aMO h1 h2 n (k+1) _ (by omega) h (by rw [qE,List.length_singleton,show r.length+1+(xs.length-(k+1))=r.length+(xs.length-k) by omega];exact hB),qV h,List.map_cons,qS]
   rfl
  ·have:k=xs.length:=by omega
   subst this
   rw [h2];simp
def aLy (x:Int):Int:=x%2147483647
theorem aJq (x:Int):0≤aLy x∧aLy x<2147483647:=by unfold aLy;omega
theorem aFE {x:Int} (h:0≤x):Int.tmod x 2147483647=aLy x:=Int.tmod_eq_emod_of_nonneg h
theorem tmod_neg {x:Int} (h:x<0):Int.tmod x 2147483647 = - aLy (-x):=by
 have e:x = -(-x):=by omega
 have h2:=Int.neg_tmod (-x) 2147483647
 rw [←e] at h2
 rw [h2,aFE (by omega)]
def aNl (v x:Int):Int:=Int.tmod (IntKind.i64.wrap ((IntKind.i64.wrap ((IntKind.i64.wrap (v*1000003))+aLy x))+13)) 2147483647
theorem aRv {v:Int} (x:Int) (h:0≤v∧v<2147483647):0≤aNl v x∧aNl v x<2147483647:=by
 have:=aJq x
 unfold aNl
 rw [fB (n:=v*1000003) (by omega) (by omega),fB (n:=v*1000003+aLy x) (by omega) (by omega),fB (by omega) (by omega),aFE (by omega)]
 exact aJq _
def aHP (l:List Int):Int:=l.foldl aNl 11
theorem aOx (l:List Int):0≤aHP l∧aHP l<2147483647:=by
 have key : ∀(l:List Int) (v:Int),0≤v∧v<2147483647→0≤l.foldl aNl v∧l.foldl aNl v<2147483647:=by
  intro l
  induction l with
  | nil=>intro v h;exact h
  | cons x l ih=>intro v h;exact ih _ (aRv x h)
 exact key l 11 (by omega)
theorem aP0 (x:Int):Int.tmod (IntKind.i64.wrap ((Int.tmod x 2147483647)+2147483647)) 2147483647=aLy x:=by
 by_cases h:0≤x
 ·have:=aJq x
  rw [aFE h,fB (by omega) (by omega),aFE (by omega)]
  unfold aLy;omega
 ·have:=aJq (-x)
  rw [tmod_neg (x:=x) (by omega),fB (by omega) (by omega),aFE (by omega)]
  unfold aLy;omega
theorem aQj (x:Int):(if (decide ((Int.tmod x 2147483647)<0))=true then some (IntKind.i64.wrap ((Int.tmod x 2147483647)+2147483647)) else some (Int.tmod x 2147483647))=some (aLy x):=by
 by_cases h:0≤x
 ·have:=aJq x
  rw [aFE h,if_neg (by simp;omega)]
 ·have:=aJq (-x)
  rw [tmod_neg (x:=x) (by omega)]
  by_cases h2:aLy (-x)=0
  ·rw [h2]
   unfold aLy at h2 ⊢
   rw [if_neg (by simp)]
   congr 1;omega
  ·rw [if_pos (by simp;omega),fB (by omega) (by omega)]
   unfold aLy at *
   congr 1;omega
theorem aRg {x:Int} {e:Nat} (h0:0≤x) (h1:x<2147483647):IntKind.u8.wrap (IntKind.i64.wrap ((BitVec.ofInt (IntKind.i64.bits) (Int.fdiv x (2^e))&&&BitVec.ofInt (IntKind.i64.bits) 255).toNat:Int))=IntKind.u8.wrap (Int.fdiv x (2^e)):=by
 obtain ⟨n,rfl⟩:=Int.eq_ofNat_of_zero_le h0
 have e2:Int.fdiv (n:Int) (2^e)=((n/2^e:Nat):Int):=by
  rw [Int.fdiv_eq_ediv_of_nonneg _ (by exact Int.le_of_lt (Int.pow_pos (by decide)))]
  simp
 have hle:n/2^e≤n:=Nat.div_le_self _ _
 have:=aP6 (n:=n/2^e) (m:=255) (by omega) (by omega)
 rw [e2]
 have e3:((255:Nat):Int)=255:=rfl
 rw [e3] at this
 rw [this,aR5,wrap_u8,wrap_u8]
 omega
end Go.Sh
namespace Go.Sh
open Go.RowKit
theorem aMW {P : Program} {f : FuncId} {fn : Func} {c : Code} {a b : ByteArray} {r : Int} (hf : P.funcs[f]? = some fn) (hb : fn.body = some c) (hn : (fn.name == "runtime.NumGoroutine") = false)
  (h : ∀w,Calls P f #[.string a,.string b] w fun e w'=>e = .returned (.int .i64 r)∧w'=w):lD P f [(false,[.str a]),(false,[.str b])] [(false,[.ro (.int .i64 r)])]:=by
 refine .inl ⟨⟨fn,c,hf,hb,hn⟩,fun w vs Fa ha => ?_⟩
 have e:vs = #[.string a,.string b]:=by
  obtain ⟨l⟩:=vs
  match l,ha with
  | [x,y],⟨_,_,_,h1,_,_,_,h2,_⟩ =>
   simp [aMv,Rep] at h1 h2
   simp [h1,h2]
 subst e
 refine (h w).mono fun e w' hh => ?_
 obtain ⟨rfl,rfl⟩:=hh
 exact ⟨_,rfl,⟨[],fun _=>False,⟨List.nodup_nil,by simp⟩,fun _ h=>h.elim,fun _=>rfl,by simp [aMg,aJD,lW,Rep]⟩,Below.refl _ _⟩
end Go.Sh
namespace Go.Sh
theorem aEh : ∀(a b:List UInt8),Lib.compareBytes a b=if Op.bytesLess a b=true then -1 else if (a==b)=true then 0 else 1
 | [],[]=>rfl
 | [],_::_=>rfl
 | _::_,[]=>rfl
 | x::a,y::b=>by
  have e1:Op.bytesLess (x::a) (y::b)=(decide (x<y)||((x==y)&&Op.bytesLess a b)):=rfl
  have e2:((x::a)==(y::b))=((x==y)&&(a==b)):=rfl
  rw [Lib.compareBytes,aEh a b,e1,e2]
  by_cases h:x<y
  ·simp [h]
  ·by_cases h2:y<x
   ·have h3 : ¬x=y:=by intro e;subst e;exact h h2
    simp [h,h2,h3]
   ·have h3:x=y:=by
     rw [UInt8.lt_iff_toNat_lt] at h h2
     exact UInt8.toNat_inj.1 (by omega)
    subst h3
    simp [h]
end Go.Sh
