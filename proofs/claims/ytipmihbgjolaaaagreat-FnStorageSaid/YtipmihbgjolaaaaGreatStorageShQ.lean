/-
  Helper text. No conditions.
-/
import Derived.Test.YtipmihbgjolaaaaGreatStorageShP
import Derived.Lib.Walk
import Derived.Lib.Bytealg
import Derived.Laws.Externs
set_option linter.unusedVariables false
set_option linter.unusedSimpArgs false
namespace Go.Sh
theorem Wx{s:ByteArray}{k:Nat}(h:k<s.size):s[k]? =some s[k]:=by simp[h]
theorem Gl{s:ByteArray}{k:Nat}(h:k<s.size):Rz s (k:Int)=some s[k]:=by unfold Rz;rw[if_pos qc,qH,Wx h]
theorem PH{R:Type}{N:Nat}{g:Nat->Bool}{F E:Option R}{L:Nat->Int->Option R}
  (C:∀n (k:Nat) (J:k<N),L (n+1) (k:Int)=if g k=true then L n ((k+1:Nat):Int)else F)(j:∀n,L (n+1) (N:Int)=E):
  ∀(n k:Nat),N-k<n->k<=N->L n (k:Int)=if(List.range' k (N-k)).all g=true then E else F
 |0,k,I,_=>by omega
 |n+1,k,I,J=>by
  rcases Nat.lt_or_ge k N with h|h
  ·rw[C n k h,PH C j n (k+1) qc h]
   have e:N-k=(N-(k+1))+1:=by omega
   rw[e,List.range'_succ,List.all_cons]
   cases g k<;>simp only[Bool.true_and,Bool.false_and,if_true,if_false,qD]
  ·have:k=N:=by omega
   subst this
   rw[j];simp
theorem uG{R:Type}{N:Nat}{g:Nat->Bool}{F E:Option R}{L:Nat->Int->Option R}(I:N<=maxLen)
  (C:∀n (k:Nat) (J:k<N),L (n+1) (k:Int)=if g k=true then L n ((k+1:Nat):Int)else F)(j:∀n,L (n+1) (N:Int)=E):
  L fuel 0=if(List.range N).all g=true then E else F:=by
 have U:=le_max I
 have:=PH C j fuel 0 qj qc
 rw[List.range_eq_range']
 simpa using this
theorem TC(a b:UInt8):(decide (a<b)||(a==b))= !decide (b<a):=by
 by_cases h:b<a
 ·have C:¬a<b:=by rw[UInt8.lt_iff_toNat_lt]at*;omega
  have j:¬a=b:=by intro e;subst e;rw[UInt8.lt_iff_toNat_lt]at h;omega
  simp[h,C,j]
 ·by_cases h3:a<b
  ·simp[h,h3]
  ·have:a=b:=by
    rw[UInt8.lt_iff_toNat_lt]at h h3
    exact UInt8.toNat_inj.1 qc
   subst this;simp
theorem zY:∀(a b:List UInt8),Op.bytesLess a b= !(Op.bytesLess b a||b==a)
 |[],[]=>rfl
 |[],_::_=>rfl
 |_::_,[]=>rfl
 |x::a,y::b=>by
  have J:=zY a b
  have e1:Op.bytesLess (x::a) (y::b)=(decide (x<y)||((x==y)&&Op.bytesLess a b)):=rfl
  have e2:Op.bytesLess (y::b) (x::a)=(decide (y<x)||((y==x)&&Op.bytesLess b a)):=rfl
  have e3:((y::b)==(x::a))=((y==x)&&(b==a)):=rfl
  rw[e1,e2,e3,J]
  by_cases h:x=y
  ·subst h
   have:¬x<x:=by rw[UInt8.lt_iff_toNat_lt];omega
   simp[this]
  ·have C:¬y=x:=λe=>h e.symm
   have j:=TC y x
   have U:(y==x)=false:=by simp[C]
   have I:(x==y)=false:=by simp[h]
   rw[U]at j⊢
   rw[I]
   simp at j⊢
   rw[j]
   simp
theorem Iz{n m:Nat}(C:n<9223372036854775808)(I:m<9223372036854775808):IntKind.i64.wrap ((BitVec.ofInt IntKind.i64.bits (n:Int)&&&BitVec.ofInt IntKind.i64.bits (m:Int)).toNat:Int)=((n&&&m:Nat):Int):=by have j:IntKind.i64.bits=64:=rfl;rw[j,BitVec.toNat_and,BitVec.ofInt_natCast,BitVec.ofInt_natCast,BitVec.toNat_ofNat,BitVec.toNat_ofNat,Nat.mod_eq_of_lt qc,Nat.mod_eq_of_lt qc];have:=Nat.and_le_left (n:=n) (m:=m);rw[bT qc qc]
theorem KR{n m:Nat}(C:n<9223372036854775808)(I:m<9223372036854775808):IntKind.i64.wrap ((BitVec.ofInt IntKind.i64.bits (n:Int)|||BitVec.ofInt IntKind.i64.bits (m:Int)).toNat:Int)=((n|||m:Nat):Int):=by have j:IntKind.i64.bits=64:=rfl;rw[j,BitVec.toNat_or,BitVec.ofInt_natCast,BitVec.ofInt_natCast,BitVec.toNat_ofNat,BitVec.toNat_ofNat,Nat.mod_eq_of_lt qc,Nat.mod_eq_of_lt qc];have:n|||m<2^63:=Nat.or_lt_two_pow qc qc;rw[bT qc qc]
theorem Ro(n:Nat):n&&&127=n%128:=by have:=Nat.and_two_pow_sub_one_eq_mod n 7;simpa using this
theorem Tc(n:Nat):n&&&255=n%256:=by have:=Nat.and_two_pow_sub_one_eq_mod n 8;simpa using this
theorem UQ{n:Nat}(h:n<128):n|||128=n+128:=by have:=Nat.two_pow_add_eq_or_of_lt (i:=7) (b:=n) qc 1;rw[Nat.or_comm];have e:2^7*1=128:=rfl;rw[e]at this;omega
def uv(n:Nat):List Int:=if h:n<128 then[(n:Int)]else((n%128+128:Nat):Int)::uv (n/128)
 termination_by n
 decreasing_by omega
theorem FV{n:Nat}(h:n<128):uv n=[(n:Int)]:=by rw[uv,dif_pos h]
theorem K2{n:Nat}(h:¬n<128):uv n=((n%128+128:Nat):Int)::uv (n/128):=by rw[uv,dif_neg h]
theorem A5:∀(n:Nat),n<2^63->(uv n).length<=9:=by
 have key:∀(j n:Nat),n<2^(7*(j+1))->(uv n).length<=j+1:=by
  intro j
  induction j with
  |zero=>intro n h;rw[FV (by simpa using h)];simp
  |succ j C=>
   intro n h
   by_cases h1:n<128
   ·rw[FV h1];simp
   ·rw[K2 h1,qJ]
    have:n/128<2^(7*(j+1)):=by
     rw[Nat.div_lt_iff_lt_mul qc]
     have e:2^(7*(j+1+1))=2^(7*(j+1))*128:=by rw[show 7*(j+1+1)=7*(j+1)+7 by omega,Nat.pow_add]
     omega
    have:=C _ this
    omega
 intro n h
 exact key 8 n (by simpa using h)
theorem wrap_u8(n:Int):IntKind.u8.wrap n=n%256:=by simp[IntKind.wrap,IntKind.bits,IntKind.signed]
theorem eJ{α:Type}{b:Nat}{xs ys:List α}(h:(xs.length+ys.length)*b<=140737488355328):app b xs ys=some (xs++ys):=by unfold app;rw[if_pos h]
end Go.Sh
namespace Go.Sh
theorem NL{α σ R:Type}{xs:List α}{step:σ->α->σ}{E:σ->Option R}{L:Nat->σ->Int->Option R}
  (C:∀n s (k:Nat) (J:k<xs.length),L (n+1) s (k:Int)=L n (step s xs[k]) ((k+1:Nat):Int))(j:∀n s,L (n+1) s (xs.length:Int)=E s):
  ∀(n k:Nat) (s:σ),xs.length-k<n->k<=xs.length->L n s (k:Int)=E ((xs.drop k).foldl step s)
 |0,k,s,I,_=>by omega
 |n+1,k,s,I,J=>by
  rcases Nat.lt_or_ge k xs.length with h|h
  ·rw[C n s k h,NL C j n (k+1) _ qc h,qW h,List.foldl_cons]
  ·have:k=xs.length:=by omega
   subst this
   rw[j n s];simp
theorem C9{α σ R:Type}{xs:List α}{step:σ->α->σ}{E:σ->Option R}{L:Nat->σ->Int->Option R}(I:xs.length<=maxLen)
  (C:∀n s (k:Nat) (J:k<xs.length),L (n+1) s (k:Int)=L n (step s xs[k]) ((k+1:Nat):Int))(j:∀n s,L (n+1) s (xs.length:Int)=E s)(s:σ):
  L fuel s 0=E (xs.foldl step s):=by
 have U:=le_max I
 have:=NL C j fuel 0 s qj qc
 simpa using this
theorem Lw{α:Type}{xs:List α}{w:α->Nat}{B:Nat}{L:Nat->Int->List Int->Option (List Int)}
  (I:∀n (k:Nat) (U:k<xs.length) r,r.length+w xs[k]<=B->∃j:List Int,j.length=r.length+w xs[k]/\L (n+1) (k:Int) r=L n ((k+1:Nat):Int) j)(C:∀n r,L (n+1) (xs.length:Int) r=some r):
  ∀(n k:Nat) (r:List Int),xs.length-k<n->k<=xs.length->r.length+jO w (xs.drop k)<=B->∃l,L n (k:Int) r=some l/\l.length=r.length+jO w (xs.drop k)
 |0,k,r,hn,_,_=>by omega
 |n+1,k,r,hn,U,J=>by
  rcases Nat.lt_or_ge k xs.length with h|h
  ·have e:jO w (xs.drop k)=w xs[k]+jO w (xs.drop (k+1)):=by rw[qW h];rfl
   rw[e]at J⊢
   obtain⟨j,hr,e1⟩:=I n k h r qc
   obtain⟨l,e2,e3⟩:=Lw I C n (k+1) j qc h qc
   exact⟨l,by rw[e1,e2],qc⟩
  ·have:k=xs.length:=by omega
   subst this
   refine⟨r,C n r,?_⟩
   simp[jO]
theorem jW{α:Type}{w:α->Nat}{b:Nat}:∀{xs:List α},(∀x∈xs,w x<=b)->jO w xs<=xs.length*b
 |[],_=>by simp[jO]
 |x::xs,h=>by have I:=h x qe;have C:=jW (xs:=xs) (λy j=>h y (by simp[j]));simp only[jO,qJ,Nat.succ_mul];omega
theorem Ob{L:Nat->Int->List Int->Option (List Int)}{b c:Int->Int}
  (J:∀m (n:Nat) r,¬n<128->n<2^63->L (m+1) (n:Int) r=(app 1 r [b n]).bind λ_=>L m ((n/128:Nat):Int) (r++[b n]))
  (I:∀m (n:Nat) r,n<128->L (m+1) (n:Int) r=(app 1 r [c n]).bind λ_=>some (r++[c n])):
  ∀(j m n:Nat) (r:List Int),n<2^(7*(j+1))->n<2^63->j<m->r.length+(j+1)<=140737488355328->∃l,L m (n:Int) r=some l/\l.length=r.length+(uv n).length
 |j,0,n,r,_,_,U,_=>by omega
 |0,m+1,n,r,hn,C,U,hr=>by
  have h:n<128:=by simpa using hn
  refine⟨r++[c n],?_,?_⟩
  ·rw[I m n r h,eJ qd,qA]
  ·rw[FV h];simp
 |j+1,m+1,n,r,hn,C,U,hr=>by
  by_cases h:n<128
  ·refine⟨r++[c n],?_,?_⟩;(rw[I m n r h,eJ qd,qA]);·rw[FV h];simp
  ·have hd:n/128<2^(7*(j+1)):=by
    rw[Nat.div_lt_iff_lt_mul qc]
    have e:2^(7*(j+1+1))=2^(7*(j+1))*128:=by rw[show 7*(j+1+1)=7*(j+1)+7 by omega,Nat.pow_add]
    omega
   obtain⟨l,e1,e2⟩:=Ob J I j m (n/128) (r++[b n]) hd qc qc qd
   refine⟨l,?_,?_⟩
   ·rw[J m n r h C,eJ qd,qA,e1]
   ·rw[e2,K2 h];simp;omega
theorem aP(s:ByteArray):(cO s).length=s.size:=by unfold cO;rw[qT,Array.length_toList];rfl
theorem wrap_add(x y:Int):IntKind.i64.wrap (IntKind.i64.wrap x+y)=IntKind.i64.wrap (x+y):=by rw[IntKind.wrap_i64,IntKind.wrap_i64,IntKind.wrap_i64];omega
theorem PB(x y:Int):IntKind.i64.wrap (x+IntKind.i64.wrap y)=IntKind.i64.wrap (x+y):=by rw[IntKind.wrap_i64,IntKind.wrap_i64,IntKind.wrap_i64];omega
def bat(s:ByteArray)(k:Nat)(g:UInt8->Bool):Bool:=(s[k]?).any g
theorem TQ{s:ByteArray}{k:Nat}(h:k<s.size)(g:UInt8->Bool):bat s k g=g s[k]:=by unfold bat;rw[Wx h];rfl
def P1(s:ByteArray)(g:UInt8->Bool):Bool:=(List.range s.size).all λk=>bat s k g
theorem Gu{R:Type}{s:ByteArray}{g:UInt8->Bool}{F E:Option R}{L:Nat->Int->Option R}(J:s.size<=maxLen)
  (I:∀n (k:Nat) (j:k<s.size),L (n+1) (k:Int)=if g s[k]=true then L n ((k+1:Nat):Int)else F)(C:∀n,L (n+1) (s.size:Int)=E):
  L fuel 0=if P1 s g=true then E else F:=
 uG (g:=λk=>bat s k g) J (λn k j=>by rw[I n k j];simp only[TQ j]) C
def inR(x a b:Int):Bool:=decide (a<=x)&&decide (x<=b)
theorem xU{α:Type}(x:Int)(a b:α):(if x<0 then a else b)=if(decide (0<=x))=true then b else a:=by by_cases h:x<0;(rw[if_pos h,if_neg qd]);·rw[if_neg h,if_pos qd]
theorem uvf(n:Nat):Int.fdiv (n:Int) (2^(min (7:Int).toNat IntKind.i64.bits))=((n/128:Nat):Int):=by
 have e:(2:Int)^(min (7:Int).toNat IntKind.i64.bits)=128:=by decide
 rw[e,Int.fdiv_eq_ediv_of_nonneg _ qf]
 omega
theorem uvt{n:Nat}(h:n<2^63):IntKind.i64.wrap (Int.tdiv (n:Int) 128)=((n/128:Nat):Int):=by rw[Int.tdiv_eq_ediv_of_nonneg qc,bT qc qc];omega
theorem xR{α:Type}(x:Int)(a b:α):(if x=0 then a else b)=if(decide (x=0))=true then a else b:=by by_cases h:x=0;(rw[if_pos h,if_pos (by simpa using h)]);·rw[if_neg h,if_neg (by simpa using h)]
theorem Sn:fuel=18446744073709551609+7:=rfl
end Go.Sh
namespace Go.Sh
theorem kI{α:Type}{f:α->Bool}{xs:List α}(h:¬pU f xs<0):∃k:Nat,pU f xs=(k:Int)/\k<xs.length:=by
 unfold pU at h⊢
 cases e:xs.findIdx? f with
 |none=>rw[e]at h;simp at h
 |some i=>exact⟨i,rfl,(List.findIdx?_eq_some_iff_getElem.1 e).1⟩
theorem Pg{b:Nat}{xs:List Int}{f:Int->Int}{L:Nat->Int->List Int->Option (List Int)}
  (C:∀n (k:Nat) (J:k<xs.length) r,L (n+1) (k:Int) r=(app b r [f xs[k]]).bind λ_=>L n ((k+1:Nat):Int) (r++[f xs[k]]))(j:∀n r,L (n+1) (xs.length:Int) r=some r):
  ∀(n k:Nat) (r:List Int),xs.length-k<n->k<=xs.length->(r.length+(xs.length-k))*b<=140737488355328->L n (k:Int) r=some (r++(xs.drop k).map f)
 |0,k,r,U,_,_=>by omega
 |n+1,k,r,U,J,I=>by
  rcases Nat.lt_or_ge k xs.length with h|h
  ·have hle:(r.length+1)*b<=(r.length+(xs.length-k))*b:=Nat.mul_le_mul_right b qc;rw[C n k h r,eJ (by simp only[List.length_singleton];omega),qA,Pg C j n (k+1) _ qc h (by rw[qE,List.length_singleton,show r.length+1+(xs.length-(k+1))=r.length+(xs.length-k)by omega];exact I),qW h,List.map_cons,qS];rfl
  ·have:k=xs.length:=by omega
   subst this
   rw[j];simp
def Oa(x:Int):Int:=x%2147483647
theorem LD(x:Int):0<=Oa x/\Oa x<2147483647:=by unfold Oa;omega
theorem Em{x:Int}(h:0<=x):Int.tmod x 2147483647=Oa x:=Int.tmod_eq_emod_of_nonneg h
theorem tmod_neg{x:Int}(h:x<0):Int.tmod x 2147483647= - Oa (-x):=by
 have e:x= -(-x):=by omega
 have j:=Int.neg_tmod (-x) 2147483647
 rw[<-e]at j
 rw[j,Em qc]
def M3(v x:Int):Int:=Int.tmod (IntKind.i64.wrap ((IntKind.i64.wrap ((IntKind.i64.wrap (v*1000003))+Oa x))+13)) 2147483647
theorem SR{v:Int}(x:Int)(h:0<=v/\v<2147483647):0<=M3 v x/\M3 v x<2147483647:=by have:=LD x;unfold M3;rw[bT (n:=v*1000003) qc qc,bT (n:=v*1000003+Oa x) qc qc,bT qc qc,Em qc];exact LD _
def Nk(l:List Int):Int:=l.foldl M3 11
theorem Sd(l:List Int):0<=Nk l/\Nk l<2147483647:=by
 have key:∀(l:List Int) (v:Int),0<=v/\v<2147483647->0<=l.foldl M3 v/\l.foldl M3 v<2147483647:=by
  intro l
  induction l with
  |nil=>intro v h;exact h
  |cons x l j=>intro v h;exact j _ (SR x h)
 exact key l 11 qc
theorem P8(x:Int):Int.tmod (IntKind.i64.wrap ((Int.tmod x 2147483647)+2147483647)) 2147483647=Oa x:=by by_cases h:0<=x;(have:=LD x;rw[Em h,bT qc qc,Em qc];unfold Oa;omega);·have:=LD (-x);rw[tmod_neg (x:=x) qc,bT qc qc,Em qc];unfold Oa;omega
end Go.Sh
namespace Go.Sh
open Go.RowKit
theorem Lp {P : Program} {f : FuncId} {fn : Func} {c : Code} {a b : ByteArray} {r : Int} (hf : P.funcs[f]? = some fn) (hb : fn.body = some c) (hn : (fn.name == "runtime.NumGoroutine") = false)
  (h : ∀w,Calls P f #[.string a,.string b] w λe w'=>e = .returned (.int .i64 r)/\w'=w):kM P f [(false,[.str a]),(false,[.str b])] [(false,[.ro (.int .i64 r)])]:=by
 refine .inl ⟨⟨fn,c,hf,hb,hn⟩,λw vs Fa ha => ?_⟩
 have e:vs = #[.string a,.string b]:=by
  obtain ⟨l⟩:=vs
  match l,ha with
  | [x,y],⟨_,_,_,h1,_,_,_,h2,_⟩ =>
   simp [L2,Rep] at h1 h2
   simp [h1,h2]
 subst e
 refine (h w).mono λe w' hh => ?_
 obtain ⟨rfl,rfl⟩:=hh
 exact ⟨_,rfl,⟨[],λ_=>False,⟨List.nodup_nil,qe⟩,λ_ h=>h.elim,λ_=>rfl,by simp [LH,Ha,mM,Rep]⟩,Below.refl _ _⟩
end Go.Sh
namespace Go.Sh
theorem yH:∀(a:List UInt8),Op.bytesLess a a=false
 |[]=>rfl
 |x::a=>by
  have e:Op.bytesLess (x::a) (x::a)=(decide (x<x)||((x==x)&&Op.bytesLess a a)):=rfl
  rw[e,yH a]
  have:¬x<x:=by rw[UInt8.lt_iff_toNat_lt];omega
  simp[this]
theorem BY:∀(a b:List UInt8),Lib.compareBytes a b=if Op.bytesLess a b=true then -1 else if(a==b)=true then 0 else 1
 |[],[]=>rfl
 |[],_::_=>rfl
 |_::_,[]=>rfl
 |x::a,y::b=>by
  have e1:Op.bytesLess (x::a) (y::b)=(decide (x<y)||((x==y)&&Op.bytesLess a b)):=rfl
  have e2:((x::a)==(y::b))=((x==y)&&(a==b)):=rfl
  rw[Lib.compareBytes,BY a b,e1,e2]
  by_cases h:x<y
  ·simp[h]
  ·by_cases h2:y<x
   ·have j:¬x=y:=by intro e;subst e;exact h h2
    simp[h,h2,j]
   ·have j:x=y:=by
     rw[UInt8.lt_iff_toNat_lt]at h h2
     exact UInt8.toNat_inj.1 qc
    subst j
    simp[h]
end Go.Sh
