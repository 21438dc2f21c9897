/-
  Helper text. No conditions.
-/
import Derived.Test.YtnhpbpnhmapeeaaGreatShP
import Derived.Lib.Walk
import Derived.Lib.Bytealg
import Derived.Laws.Externs
namespace Go.Sh
set_option linter.unusedVariables false
set_option linter.unusedSimpArgs false
theorem aTb {s:ByteArray} {k:Nat} (h:k<s.size):s[k]? = some s[k]:=by simp [h]
theorem aGH {s:ByteArray} {k:Nat} (h:k<s.size):aOA s (k:Int)=some s[k]:=by
 unfold aOA
 rw [if_pos (by omega),Int.toNat_natCast,aTb h]
theorem aM1 {R:Type} {N:Nat} {g:Nat→Bool} {F E:Option R} {L:Nat→Int→Option R}
  (h1 : ∀n (k:Nat) (hk:k<N),L (n+1) (k:Int)=if g k=true then L n ((k+1:Nat):Int) else F) (h2 : ∀n,L (n+1) (N:Int)=E) :
  ∀(n k:Nat),N-k<n→k≤N→L n (k:Int)=if (List.range' k (N-k)).all g=true then E else F
 | 0,k,hn,_=>by omega
 | n+1,k,hn,hk=>by
  rcases Nat.lt_or_ge k N with h | h
  ·rw [h1 n k h,aM1 h1 h2 n (k+1) (by omega) h]
   have e:N-k=(N-(k+1))+1:=by omega
   rw [e,List.range'_succ,List.all_cons]
   cases g k<;>simp only [Bool.true_and,Bool.false_and,if_true,if_false,Bool.false_eq_true]
  ·have:k=N:=by omega
   subst this
   rw [h2];simp
theorem aAD {R:Type} {N:Nat} {g:Nat→Bool} {F E:Option R} {L:Nat→Int→Option R} (hx:N≤maxLen)
  (h1 : ∀n (k:Nat) (hk:k<N),L (n+1) (k:Int)=if g k=true then L n ((k+1:Nat):Int) else F) (h2 : ∀n,L (n+1) (N:Int)=E) :
  L fuel 0=if (List.range N).all g=true then E else F:=by
 have hm:=le_max hx
 have:=aM1 h1 h2 fuel 0 (by unfold fuel;omega) (by omega)
 rw [List.range_eq_range']
 simpa using this
theorem aPr (a b:UInt8):(decide (a<b)||(a==b)) = !decide (b<a):=by
 by_cases h:b<a
 ·have h1 : ¬a<b:=by rw [UInt8.lt_iff_toNat_lt] at *;omega
  have h2 : ¬a=b:=by intro e;subst e;rw [UInt8.lt_iff_toNat_lt] at h;omega
  simp [h,h1,h2]
 ·by_cases h3:a<b
  ·simp [h,h3]
  ·have:a=b:=by
    rw [UInt8.lt_iff_toNat_lt] at h h3
    exact UInt8.toNat_inj.1 (by omega)
   subst this;simp
theorem aBj : ∀(a b:List UInt8),Op.bytesLess a b = !(Op.bytesLess b a||b==a)
 | [],[]=>rfl
 | [],_::_=>rfl
 | _::_,[]=>rfl
 | x::a,y::b=>by
  have ih:=aBj a b
  have e1:Op.bytesLess (x::a) (y::b)=(decide (x<y)||((x==y)&&Op.bytesLess a b)):=rfl
  have e2:Op.bytesLess (y::b) (x::a)=(decide (y<x)||((y==x)&&Op.bytesLess b a)):=rfl
  have e3:((y::b)==(x::a))=((y==x)&&(b==a)):=rfl
  rw [e1,e2,e3,ih]
  by_cases h:x=y
  ·subst h
   have : ¬x<x:=by rw [UInt8.lt_iff_toNat_lt];omega
   simp [this]
  ·have h2 : ¬y=x:=fun e=>h e.symm
   have h3:=aPr y x
   have h4:(y==x)=false:=by simp [h2]
   have h5:(x==y)=false:=by simp [h]
   rw [h4] at h3 ⊢
   rw [h5]
   simp at h3 ⊢
   rw [h3]
   simp
def uv (n:Nat):List Int:=if h:n<128 then [(n:Int)] else ((n%128+128:Nat):Int)::uv (n/128)
 termination_by n
 decreasing_by omega
theorem aNS {n:Nat} (h:n<128):uv n=[(n:Int)]:=by rw [uv,dif_pos h]
theorem aPX {n:Nat} (h : ¬n<128):uv n=((n%128+128:Nat):Int)::uv (n/128):=by rw [uv,dif_neg h]
theorem aDq : ∀(n:Nat),n<2^63→(uv n).length≤9:=by
 have key : ∀(j n:Nat),n<2^(7*(j+1))→(uv n).length≤j+1:=by
  intro j
  induction j with
  | zero=>intro n h;rw [aNS (by simpa using h)];simp
  | succ j ih =>
   intro n h
   by_cases h1:n<128
   ·rw [aNS h1];simp
   ·rw [aPX h1,List.length_cons]
    have:n/128<2^(7*(j+1)):=by
     rw [Nat.div_lt_iff_lt_mul (by omega)]
     have e:2^(7*(j+1+1))=2^(7*(j+1))*128:=by rw [show 7*(j+1+1)=7*(j+1)+7 by omega,Nat.pow_add]
     omega
    have:=ih _ this
    omega
 intro n h
 exact key 8 n (by simpa using h)
theorem rR {α:Type} {b:Nat} {xs ys:List α} (h:(xs.length+ys.length)*b≤140737488355328):app b xs ys=some (xs++ys):=by unfold app;rw [if_pos h]
end Go.Sh
namespace Go.Sh
set_option linter.unusedVariables false
set_option linter.unusedSimpArgs false
theorem aL0 {α σ R:Type} {xs:List α} {step:σ→α→σ} {E:σ→Option R} {L:Nat→σ→Int→Option R}
  (h1 : ∀n s (k:Nat) (hk:k<xs.length),L (n+1) s (k:Int)=L n (step s xs[k]) ((k+1:Nat):Int)) (h2 : ∀n s,L (n+1) s (xs.length:Int)=E s) :
  ∀(n k:Nat) (s:σ),xs.length-k<n→k≤xs.length→L n s (k:Int)=E ((xs.drop k).foldl step s)
 | 0,k,s,hn,_=>by omega
 | n+1,k,s,hn,hk=>by
  rcases Nat.lt_or_ge k xs.length with h | h
  ·rw [h1 n s k h,aL0 h1 h2 n (k+1) _ (by omega) h,List.drop_eq_getElem_cons h,List.foldl_cons]
  ·have:k=xs.length:=by omega
   subst this
   rw [h2 n s];simp
theorem aFq {α σ R:Type} {xs:List α} {step:σ→α→σ} {E:σ→Option R} {L:Nat→σ→Int→Option R} (hx:xs.length≤maxLen)
  (h1 : ∀n s (k:Nat) (hk:k<xs.length),L (n+1) s (k:Int)=L n (step s xs[k]) ((k+1:Nat):Int)) (h2 : ∀n s,L (n+1) s (xs.length:Int)=E s) (s:σ) :
  L fuel s 0=E (xs.foldl step s):=by
 have hm:=le_max hx
 have:=aL0 h1 h2 fuel 0 s (by unfold fuel;omega) (by omega)
 simpa using this
theorem aKV {α:Type} {xs:List α} {w:α→Nat} {B:Nat} {L:Nat→Int→List Int→Option (List Int)}
  (h1 : ∀n (k:Nat) (hk:k<xs.length) r,r.length+w xs[k]≤B → ∃r':List Int,r'.length=r.length+w xs[k]∧L (n+1) (k:Int) r=L n ((k+1:Nat):Int) r') (h2 : ∀n r,L (n+1) (xs.length:Int) r=some r) :
  ∀(n k:Nat) (r:List Int),xs.length-k<n→k≤xs.length→r.length+aG w (xs.drop k)≤B → ∃l,L n (k:Int) r=some l∧l.length=r.length+aG w (xs.drop k)
 | 0,k,r,hn,_,_=>by omega
 | n+1,k,r,hn,hk,hB=>by
  rcases Nat.lt_or_ge k xs.length with h | h
  ·have e:aG w (xs.drop k)=w xs[k]+aG w (xs.drop (k+1)):=by rw [List.drop_eq_getElem_cons h];rfl
   rw [e] at hB ⊢
   obtain ⟨r',hr,e1⟩:=h1 n k h r (by omega)
   obtain ⟨l,e2,e3⟩:=aKV h1 h2 n (k+1) r' (by omega) h (by omega)
   exact ⟨l,by rw [e1,e2],by omega⟩
  ·have:k=xs.length:=by omega
   subst this
   refine ⟨r,h2 n r,?_⟩
   simp [aG]
theorem aBn {α:Type} {w:α→Nat} {b:Nat} : ∀ {xs:List α},(∀x∈xs,w x≤b)→aG w xs≤xs.length*b
 | [],_=>by simp [aG]
 | x::xs,h=>by
  have h1:=h x (by simp)
  have h2:=aBn (xs:=xs) (fun y hy=>h y (by simp [hy]))
  simp only [aG,List.length_cons,Nat.succ_mul]
  omega
theorem aMC {L:Nat→Int→List Int→Option (List Int)} {b c:Int→Int}
  (h1 : ∀m (n:Nat) r,¬n<128→n<2^63→L (m+1) (n:Int) r=(app 1 r [b n]).bind fun _=>L m ((n/128:Nat):Int) (r++[b n]))
  (h2 : ∀m (n:Nat) r,n<128→L (m+1) (n:Int) r=(app 1 r [c n]).bind fun _=>some (r++[c n])) :
  ∀(j m n:Nat) (r:List Int),n<2^(7*(j+1))→n<2^63→j<m→r.length+(j+1)≤140737488355328 → ∃l,L m (n:Int) r=some l∧l.length=r.length+(uv n).length
 | j,0,n,r,_,_,hm,_=>by omega
 | 0,m+1,n,r,hn,hn2,hm,hr=>by
  have h:n<128:=by simpa using hn
  refine ⟨r++[c n],?_,?_⟩
  ·rw [h2 m n r h,rR (by simp;omega),Option.bind_some]
  ·rw [aNS h];simp
 | j+1,m+1,n,r,hn,hn2,hm,hr=>by
  by_cases h:n<128
  ·refine ⟨r++[c n],?_,?_⟩
   ·rw [h2 m n r h,rR (by simp;omega),Option.bind_some]
   ·rw [aNS h];simp
  ·have hd:n/128<2^(7*(j+1)):=by
    rw [Nat.div_lt_iff_lt_mul (by omega)]
    have e:2^(7*(j+1+1))=2^(7*(j+1))*128:=by rw [show 7*(j+1+1)=7*(j+1)+7 by omega,Nat.pow_add]
    omega
   obtain ⟨l,e1,e2⟩:=aMC h1 h2 j m (n/128) (r++[b n]) hd (by omega) (by omega) (by simp;omega)
   refine ⟨l,?_,?_⟩
   ·rw [h1 m n r h hn2,rR (by simp;omega),Option.bind_some,e1]
   ·rw [e2,aPX h];simp;omega
theorem aY (s:ByteArray):(lL s).length=s.size:=by unfold lL;rw [List.length_map,Array.length_toList];rfl
theorem wrap_add (x y:Int):IntKind.i64.wrap (IntKind.i64.wrap x+y)=IntKind.i64.wrap (x+y):=by rw [IntKind.wrap_i64,IntKind.wrap_i64,IntKind.wrap_i64];omega
theorem aMy (x y:Int):IntKind.i64.wrap (x+IntKind.i64.wrap y)=IntKind.i64.wrap (x+y):=by rw [IntKind.wrap_i64,IntKind.wrap_i64,IntKind.wrap_i64];omega
def bat (s:ByteArray) (k:Nat) (g:UInt8→Bool):Bool:=(s[k]?).any g
theorem aQA {s:ByteArray} {k:Nat} (h:k<s.size) (g:UInt8→Bool):bat s k g=g s[k]:=by unfold bat;rw [aTb h];rfl
def aNI (s:ByteArray) (g:UInt8→Bool):Bool:=(List.range s.size).all fun k=>bat s k g
theorem aGQ {R:Type} {s:ByteArray} {g:UInt8→Bool} {F E:Option R} {L:Nat→Int→Option R} (hx:s.size≤maxLen)
  (h1 : ∀n (k:Nat) (hk:k<s.size),L (n+1) (k:Int)=if g s[k]=true then L n ((k+1:Nat):Int) else F) (h2 : ∀n,L (n+1) (s.size:Int)=E) :
  L fuel 0=if aNI s g=true then E else F:=
 aAD (g:=fun k=>bat s k g) hx (fun n k hk=>by rw [h1 n k hk];simp only [aQA hk]) h2
def inR (x a b:Int):Bool:=decide (a≤x)&&decide (x≤b)
theorem aJe {α:Type} (x:Int) (a b:α):(if x<0 then a else b)=if (decide (0≤x))=true then b else a:=by
 by_cases h:x<0
 ·rw [if_pos h,if_neg (by simp;omega)]
 ·rw [if_neg h,if_pos (by simp;omega)]
theorem uvf (n:Nat):Int.fdiv (n:Int) (2^(min (7:Int).toNat IntKind.i64.bits))=((n/128:Nat):Int):=by
 have e:(2:Int)^(min (7:Int).toNat IntKind.i64.bits)=128:=by decide
 rw [e,Int.fdiv_eq_ediv_of_nonneg _ (by decide)]
 omega
theorem uvt {n:Nat} (h:n<2^63):IntKind.i64.wrap (Int.tdiv (n:Int) 128)=((n/128:Nat):Int):=by
 rw [Int.tdiv_eq_ediv_of_nonneg (by omega),nK (by omega) (by omega)]
 omega
theorem aPR:fuel=18446744073709551609+7:=rfl
end Go.Sh
namespace Go.Sh
set_option linter.unusedVariables false
set_option linter.unusedSimpArgs false
theorem oZ {α:Type} {f:α→Bool} {xs:List α} (h : ¬aAM f xs<0) : ∃k:Nat,aAM f xs=(k:Int)∧k<xs.length:=by
 unfold aAM at h ⊢
 cases e:xs.findIdx? f with
 | none=>rw [e] at h;simp at h
 | some i=>exact ⟨i,rfl,(List.findIdx?_eq_some_iff_getElem.1 e).1⟩
end Go.Sh
namespace Go.Sh
set_option linter.unusedVariables false
set_option linter.unusedSimpArgs false
open Go.RowKit
theorem aKS {P : Program} {f : FuncId} {fn : Func} {c : Code} {a b : ByteArray} {r : Int} (hf : P.funcs[f]? = some fn) (hb : fn.body = some c) (hn : (fn.name == "runtime.NumGoroutine") = false)
  (h : ∀w,Calls P f #[.string a,.string b] w fun e w'=>e = .returned (.int .i64 r)∧w'=w):nM P f [(false,[.str a]),(false,[.str b])] [(false,[.ro (.int .i64 r)])]:=by
 refine .inl ⟨⟨fn,c,hf,hb,hn⟩,fun w vs Fa ha => ?_⟩
 have e:vs = #[.string a,.string b]:=by
  obtain ⟨l⟩:=vs
  match l,ha with
  | [x,y],⟨_,_,_,h1,_,_,_,h2,_⟩ =>
   simp [aKq,Rep] at h1 h2
   simp [h1,h2]
 subst e
 refine (h w).mono fun e w' hh => ?_
 obtain ⟨rfl,rfl⟩:=hh
 exact ⟨_,rfl,⟨[],fun _=>False,⟨List.nodup_nil,by simp⟩,fun _ h=>h.elim,fun _=>rfl,by simp [aKZ,aJc,nP,Rep]⟩,Below.refl _ _⟩
end Go.Sh
namespace Go.Sh
set_option linter.unusedVariables false
set_option linter.unusedSimpArgs false
theorem aG1 : ∀(a:List UInt8),Op.bytesLess a a=false
 | []=>rfl
 | x::a=>by
  have e:Op.bytesLess (x::a) (x::a)=(decide (x<x)||((x==x)&&Op.bytesLess a a)):=rfl
  rw [e,aG1 a]
  have : ¬x<x:=by rw [UInt8.lt_iff_toNat_lt];omega
  simp [this]
theorem aC6 : ∀(a b:List UInt8),Lib.compareBytes a b=if Op.bytesLess a b=true then -1 else if (a==b)=true then 0 else 1
 | [],[]=>rfl
 | [],_::_=>rfl
 | _::_,[]=>rfl
 | x::a,y::b=>by
  have e1:Op.bytesLess (x::a) (y::b)=(decide (x<y)||((x==y)&&Op.bytesLess a b)):=rfl
  have e2:((x::a)==(y::b))=((x==y)&&(a==b)):=rfl
  rw [Lib.compareBytes,aC6 a b,e1,e2]
  by_cases h:x<y
  ·simp [h]
  ·by_cases h2:y<x
   ·have h3 : ¬x=y:=by intro e;subst e;exact h h2
    simp [h,h2,h3]
   ·have h3:x=y:=by
     rw [UInt8.lt_iff_toNat_lt] at h h2
     exact UInt8.toNat_inj.1 (by omega)
    subst h3
    simp [h]
end Go.Sh
