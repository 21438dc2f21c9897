/-
  Helper text. No conditions.
-/
import Derived.Test.YtjlnkcoeghonfaaGreatRunPageShP
import Derived.Lib.Walk
import Derived.Lib.Bytealg
import Derived.Laws.Externs
set_option linter.all false
namespace Go.Sh
theorem aF5{s:ByteArray}{k:Nat}(h:k<s.size):s[k]? =some s[k]:=by simp[h]
theorem Ka{s:ByteArray}{k:Nat}(h:k<s.size):Ym s (k:Int)=some s[k]:=by unfold Ym;rw[if_pos jD,qH,aF5 h]
theorem WX{R:Type}{N:Nat}{g:Nat->Bool}{F E:Option R}{L:Nat->Int->Option R}
  (h1:∀n (k:Nat) (hk:k<N),L (n+1) (k:Int)=if g k=true then L n ((k+1:Nat):Int)else F)(h2:∀n,L (n+1) (N:Int)=E):
  ∀(n k:Nat),N-k<n->k<=N->L n (k:Int)=if(List.range' k (N-k)).all g=true then E else F
 |0,k,j,_=>by omega
 |n+1,k,j,hk=>by
  rcases Nat.lt_or_ge k N with h|h
  ·rw[h1 n k h,WX h1 h2 n (k+1) jD h]
   have e:N-k=(N-(k+1))+1:=by omega
   rw[e,List.range'_succ,List.all_cons]
   cases g k<;>simp only[Bool.true_and,Bool.false_and,if_true,if_false,qD]
  ·have:k=N:=by omega
   subst this
   rw[h2];simp
theorem oS{R:Type}{N:Nat}{g:Nat->Bool}{F E:Option R}{L:Nat->Int->Option R}(j:N<=maxLen)
  (h1:∀n (k:Nat) (hk:k<N),L (n+1) (k:Int)=if g k=true then L n ((k+1:Nat):Int)else F)(h2:∀n,L (n+1) (N:Int)=E):
  L fuel 0=if(List.range N).all g=true then E else F:=by
 have C:=le_max j
 have:=WX h1 h2 fuel 0 jI jD
 rw[List.range_eq_range']
 simpa using this
theorem aAl(a b:UInt8):(decide (a<b)||(a==b))= !decide (b<a):=by
 by_cases h:b<a
 ·have h1:¬a<b:=by rw[UInt8.lt_iff_toNat_lt]at*;omega
  have h2:¬a=b:=by intro e;subst e;rw[UInt8.lt_iff_toNat_lt]at h;omega
  simp[h,h1,h2]
 ·by_cases h3:a<b
  ·simp[h,h3]
  ·have:a=b:=by
    rw[UInt8.lt_iff_toNat_lt]at h h3
    exact UInt8.toNat_inj.1 jD
   subst this;simp
theorem Ch:∀(a b:List UInt8),Op.bytesLess a b= !(Op.bytesLess b a||b==a)
 |[],[]=>rfl
 |[],_::_=>rfl
 |_::_,[]=>rfl
 |x::a,y::b=>by
  have j:=Ch a b
  have e1:Op.bytesLess (x::a) (y::b)=(decide (x<y)||((x==y)&&Op.bytesLess a b)):=rfl
  have e2:Op.bytesLess (y::b) (x::a)=(decide (y<x)||((y==x)&&Op.bytesLess b a)):=rfl
  have e3:((y::b)==(x::a))=((y==x)&&(b==a)):=rfl
  rw[e1,e2,e3,j]
  by_cases h:x=y
  ·subst h
   have:¬x<x:=by rw[UInt8.lt_iff_toNat_lt];omega
   simp[this]
  ·have h2:¬y=x:=λe=>h e.symm
   have h3:=aAl y x
   have h4:(y==x)=false:=by simp[h2]
   have h5:(x==y)=false:=by simp[h]
   rw[h4]at h3⊢
   rw[h5]
   simp at h3⊢
   rw[h3]
   simp
theorem M0{n m:Nat}(C:n<9223372036854775808)(j:m<9223372036854775808):IntKind.i64.wrap ((BitVec.ofInt IntKind.i64.bits (n:Int)&&&BitVec.ofInt IntKind.i64.bits (m:Int)).toNat:Int)=((n&&&m:Nat):Int):=by have hb:IntKind.i64.bits=64:=rfl;rw[hb,BitVec.toNat_and,BitVec.ofInt_natCast,BitVec.ofInt_natCast,BitVec.toNat_ofNat,BitVec.toNat_ofNat,Nat.mod_eq_of_lt jD,Nat.mod_eq_of_lt jD];have:=Nat.and_le_left (n:=n) (m:=m);rw[bI jD jD]
theorem R6{n m:Nat}(C:n<9223372036854775808)(j:m<9223372036854775808):IntKind.i64.wrap ((BitVec.ofInt IntKind.i64.bits (n:Int)|||BitVec.ofInt IntKind.i64.bits (m:Int)).toNat:Int)=((n|||m:Nat):Int):=by have hb:IntKind.i64.bits=64:=rfl;rw[hb,BitVec.toNat_or,BitVec.ofInt_natCast,BitVec.ofInt_natCast,BitVec.toNat_ofNat,BitVec.toNat_ofNat,Nat.mod_eq_of_lt jD,Nat.mod_eq_of_lt jD];have:n|||m<2^63:=Nat.or_lt_two_pow jD jD;rw[bI jD jD]
theorem YV(n:Nat):n&&&127=n%128:=by have:=Nat.and_two_pow_sub_one_eq_mod n 7;simpa using this
theorem YI(n:Nat):n&&&255=n%256:=by have:=Nat.and_two_pow_sub_one_eq_mod n 8;simpa using this
theorem aCg{n:Nat}(h:n<128):n|||128=n+128:=by have:=Nat.two_pow_add_eq_or_of_lt (i:=7) (b:=n) jD 1;rw[Nat.or_comm];have e:2^7*1=128:=rfl;rw[e]at this;omega
def uv(n:Nat):List Int:=if h:n<128 then[(n:Int)]else((n%128+128:Nat):Int)::uv (n/128)
 termination_by n
 decreasing_by omega
theorem Lj{n:Nat}(h:n<128):uv n=[(n:Int)]:=by rw[uv,dif_pos h]
theorem Q6{n:Nat}(h:¬n<128):uv n=((n%128+128:Nat):Int)::uv (n/128):=by rw[uv,dif_neg h]
theorem Jo:∀(n:Nat),n<2^63->(uv n).length<=9:=by
 have key:∀(j n:Nat),n<2^(7*(j+1))->(uv n).length<=j+1:=by
  intro j
  induction j with
  |zero=>intro n h;rw[Lj (by simpa using h)];simp
  |succ j C=>
   intro n h
   by_cases h1:n<128
   ·rw[Lj h1];simp
   ·rw[Q6 h1,qJ]
    have:n/128<2^(7*(j+1)):=by
     rw[Nat.div_lt_iff_lt_mul jD]
     have e:2^(7*(j+1+1))=2^(7*(j+1))*128:=by rw[show 7*(j+1+1)=7*(j+1)+7 by omega,Nat.pow_add]
     omega
    have:=C _ this
    omega
 intro n h
 exact key 8 n (by simpa using h)
theorem wrap_u8(n:Int):IntKind.u8.wrap n=n%256:=by simp[IntKind.wrap,IntKind.bits,IntKind.signed]
theorem eH{α:Type}{b:Nat}{xs ys:List α}(h:(xs.length+ys.length)*b<=140737488355328):app b xs ys=some (xs++ys):=by unfold app;rw[if_pos h]
theorem Vi{α σ R:Type}{xs:List α}{step:σ->α->σ}{E:σ->Option R}{L:Nat->σ->Int->Option R}
  (h1:∀n s (k:Nat) (hk:k<xs.length),L (n+1) s (k:Int)=L n (step s xs[k]) ((k+1:Nat):Int))(h2:∀n s,L (n+1) s (xs.length:Int)=E s):
  ∀(n k:Nat) (s:σ),xs.length-k<n->k<=xs.length->L n s (k:Int)=E ((xs.drop k).foldl step s)
 |0,k,s,j,_=>by omega
 |n+1,k,s,j,hk=>by
  rcases Nat.lt_or_ge k xs.length with h|h
  ·rw[h1 n s k h,Vi h1 h2 n (k+1) _ jD h,qW h,List.foldl_cons]
  ·have:k=xs.length:=by omega
   subst this
   rw[h2 n s];simp
theorem Jx{α σ R:Type}{xs:List α}{step:σ->α->σ}{E:σ->Option R}{L:Nat->σ->Int->Option R}(j:xs.length<=maxLen)
  (h1:∀n s (k:Nat) (hk:k<xs.length),L (n+1) s (k:Int)=L n (step s xs[k]) ((k+1:Nat):Int))(h2:∀n s,L (n+1) s (xs.length:Int)=E s)(s:σ):
  L fuel s 0=E (xs.foldl step s):=by
 have C:=le_max j
 have:=Vi h1 h2 fuel 0 s jI jD
 simpa using this
theorem S1{α:Type}{xs:List α}{w:α->Nat}{B:Nat}{L:Nat->Int->List Int->Option (List Int)}
  (h1:∀n (k:Nat) (hk:k<xs.length) r,r.length+w xs[k]<=B->∃j:List Int,j.length=r.length+w xs[k]/\L (n+1) (k:Int) r=L n ((k+1:Nat):Int) j)(h2:∀n r,L (n+1) (xs.length:Int) r=some r):
  ∀(n k:Nat) (r:List Int),xs.length-k<n->k<=xs.length->r.length+bA w (xs.drop k)<=B->∃l,L n (k:Int) r=some l/\l.length=r.length+bA w (xs.drop k)
 |0,k,r,I,_,_=>by omega
 |n+1,k,r,I,hk,C=>by
  rcases Nat.lt_or_ge k xs.length with h|h
  ·have e:bA w (xs.drop k)=w xs[k]+bA w (xs.drop (k+1)):=by rw[qW h];rfl
   rw[e]at C⊢
   obtain⟨j,J,e1⟩:=h1 n k h r jD
   obtain⟨l,e2,e3⟩:=S1 h1 h2 n (k+1) j jD h jD
   exact⟨l,by rw[e1,e2],jD⟩
  ·have:k=xs.length:=by omega
   subst this
   refine⟨r,h2 n r,?_⟩
   simp[bA]
theorem Bc{α:Type}{w:α->Nat}{b:Nat}:∀{xs:List α},(∀x∈xs,w x<=b)->bA w xs<=xs.length*b
 |[],_=>by simp[bA]
 |x::xs,h=>by have h1:=h x jF;have h2:=Bc (xs:=xs) (λy j=>h y (by simp[j]));simp only[bA,qJ,Nat.succ_mul];omega
theorem VE{L:Nat->Int->List Int->Option (List Int)}{b c:Int->Int}
  (h1:∀m (n:Nat) r,¬n<128->n<2^63->L (m+1) (n:Int) r=(app 1 r [b n]).bind λ_=>L m ((n/128:Nat):Int) (r++[b n]))
  (h2:∀m (n:Nat) r,n<128->L (m+1) (n:Int) r=(app 1 r [c n]).bind λ_=>some (r++[c n])):
  ∀(j m n:Nat) (r:List Int),n<2^(7*(j+1))->n<2^63->j<m->r.length+(j+1)<=140737488355328->∃l,L m (n:Int) r=some l/\l.length=r.length+(uv n).length
 |j,0,n,r,_,_,I,_=>by omega
 |0,m+1,n,r,J,C,I,hr=>by
  have h:n<128:=by simpa using J
  refine⟨r++[c n],?_,?_⟩
  ·rw[h2 m n r h,eH jE,qA]
  ·rw[Lj h];simp
 |j+1,m+1,n,r,J,C,I,hr=>by
  by_cases h:n<128
  ·refine⟨r++[c n],?_,?_⟩;(rw[h2 m n r h,eH jE,qA]);·rw[Lj h];simp
  ·have U:n/128<2^(7*(j+1)):=by
    rw[Nat.div_lt_iff_lt_mul jD]
    have e:2^(7*(j+1+1))=2^(7*(j+1))*128:=by rw[show 7*(j+1+1)=7*(j+1)+7 by omega,Nat.pow_add]
    omega
   obtain⟨l,e1,e2⟩:=VE h1 h2 j m (n/128) (r++[b n]) U jD jD jE
   refine⟨l,?_,?_⟩
   ·rw[h1 m n r h C,eH jE,qA,e1]
   ·rw[e2,Q6 h];simp;omega
theorem aR(s:ByteArray):(bC s).length=s.size:=by unfold bC;rw[List.length_map,qm];rfl
theorem wrap_add(x y:Int):IntKind.i64.wrap (IntKind.i64.wrap x+y)=IntKind.i64.wrap (x+y):=by rw[IntKind.wrap_i64,IntKind.wrap_i64,IntKind.wrap_i64];omega
theorem WQ(x y:Int):IntKind.i64.wrap (x+IntKind.i64.wrap y)=IntKind.i64.wrap (x+y):=by rw[IntKind.wrap_i64,IntKind.wrap_i64,IntKind.wrap_i64];omega
def bat(s:ByteArray)(k:Nat)(g:UInt8->Bool):Bool:=(s[k]?).any g
theorem aAy{s:ByteArray}{k:Nat}(h:k<s.size)(g:UInt8->Bool):bat s k g=g s[k]:=by unfold bat;rw[aF5 h];rfl
def Xm(s:ByteArray)(g:UInt8->Bool):Bool:=(List.range s.size).all λk=>bat s k g
theorem KQ{R:Type}{s:ByteArray}{g:UInt8->Bool}{F E:Option R}{L:Nat->Int->Option R}(j:s.size<=maxLen)
  (h1:∀n (k:Nat) (hk:k<s.size),L (n+1) (k:Int)=if g s[k]=true then L n ((k+1:Nat):Int)else F)(h2:∀n,L (n+1) (s.size:Int)=E):
  L fuel 0=if Xm s g=true then E else F:=
 oS (g:=λk=>bat s k g) j (λn k hk=>by rw[h1 n k hk];simp only[aAy hk]) h2
def inR(x a b:Int):Bool:=decide (a<=x)&&decide (x<=b)
theorem Ee{α:Type}(x:Int)(a b:α):(if x<0 then a else b)=if(decide (0<=x))=true then b else a:=by by_cases h:x<0;(rw[if_pos h,if_neg jE]);·rw[if_neg h,if_pos jE]
theorem uvf(n:Nat):Int.fdiv (n:Int) (2^(min (7:Int).toNat IntKind.i64.bits))=((n/128:Nat):Int):=by
 have e:(2:Int)^(min (7:Int).toNat IntKind.i64.bits)=128:=by decide
 rw[e,Int.fdiv_eq_ediv_of_nonneg _ jG]
 omega
theorem uvt{n:Nat}(h:n<2^63):IntKind.i64.wrap (Int.tdiv (n:Int) 128)=((n/128:Nat):Int):=by rw[Int.tdiv_eq_ediv_of_nonneg jD,bI jD jD];omega
theorem D7{α:Type}(x:Int)(a b:α):(if x=0 then a else b)=if(decide (x=0))=true then a else b:=by by_cases h:x=0;(rw[if_pos h,if_pos (by simpa using h)]);·rw[if_neg h,if_neg (by simpa using h)]
theorem V8:fuel=18446744073709551609+7:=rfl
theorem eN{α:Type}{f:α->Bool}{xs:List α}(h:¬mF f xs<0):∃k:Nat,mF f xs=(k:Int)/\k<xs.length:=by
 unfold mF at h⊢
 cases e:xs.findIdx? f with
 |none=>rw[e]at h;simp at h
 |some i=>exact⟨i,rfl,(List.findIdx?_eq_some_iff_getElem.1 e).1⟩
theorem SD{b:Nat}{xs:List Int}{f:Int->Int}{L:Nat->Int->List Int->Option (List Int)}
  (h1:∀n (k:Nat) (hk:k<xs.length) r,L (n+1) (k:Int) r=(app b r [f xs[k]]).bind λ_=>L n ((k+1:Nat):Int) (r++[f xs[k]]))(h2:∀n r,L (n+1) (xs.length:Int) r=some r):
  ∀(n k:Nat) (r:List Int),xs.length-k<n->k<=xs.length->(r.length+(xs.length-k))*b<=140737488355328->L n (k:Int) r=some (r++(xs.drop k).map f)
 |0,k,r,C,_,_=>by omega
 |n+1,k,r,C,hk,j=>by
  rcases Nat.lt_or_ge k xs.length with h|h
  ·have hle:(r.length+1)*b<=(r.length+(xs.length-k))*b:=qi b jD;rw[h1 n k h r,eH (by simp only[List.length_singleton];omega),qA,SD h1 h2 n (k+1) _ jD h (by rw[qE,List.length_singleton,show r.length+1+(xs.length-(k+1))=r.length+(xs.length-k)by omega];exact j),qW h,List.map_cons,qT];rfl
  ·have:k=xs.length:=by omega
   subst this
   rw[h2];simp
def RQ(x:Int):Int:=x%2147483647
theorem OW(x:Int):0<=RQ x/\RQ x<2147483647:=by unfold RQ;omega
theorem Jf{x:Int}(h:0<=x):Int.tmod x 2147483647=RQ x:=Int.tmod_eq_emod_of_nonneg h
theorem tmod_neg{x:Int}(h:x<0):Int.tmod x 2147483647= - RQ (-x):=by
 have e:x= -(-x):=by omega
 have h2:=Int.neg_tmod (-x) 2147483647
 rw[<-e]at h2
 rw[h2,Jf jD]
def Uw(v x:Int):Int:=Int.tmod (IntKind.i64.wrap ((IntKind.i64.wrap ((IntKind.i64.wrap (v*1000003))+RQ x))+13)) 2147483647
theorem Z4{v:Int}(x:Int)(h:0<=v/\v<2147483647):0<=Uw v x/\Uw v x<2147483647:=by have:=OW x;unfold Uw;rw[bI (n:=v*1000003) jD jD,bI (n:=v*1000003+RQ x) jD jD,bI jD jD,Jf jD];exact OW _
def Jl(l:List Int):Int:=l.foldl Uw 11
theorem Sk(l:List Int):0<=Jl l/\Jl l<2147483647:=by
 have key:∀(l:List Int) (v:Int),0<=v/\v<2147483647->0<=l.foldl Uw v/\l.foldl Uw v<2147483647:=by
  intro l
  induction l with
  |nil=>intro v h;exact h
  |cons x l j=>intro v h;exact j _ (Z4 x h)
 exact key l 11 jD
theorem Xq(x:Int):Int.tmod (IntKind.i64.wrap ((Int.tmod x 2147483647)+2147483647)) 2147483647=RQ x:=by by_cases h:0<=x;(have:=OW x;rw[Jf h,bI jD jD,Jf jD];unfold RQ;omega);·have:=OW (-x);rw[tmod_neg (x:=x) jD,bI jD jD,Jf jD];unfold RQ;omega
theorem Yp(x:Int):(if(decide ((Int.tmod x 2147483647)<0))=true then some (IntKind.i64.wrap ((Int.tmod x 2147483647)+2147483647))else some (Int.tmod x 2147483647))=some (RQ x):=by by_cases h:0<=x;(have:=OW x;rw[Jf h,if_neg jE]);·have:=OW (-x);rw[tmod_neg (x:=x) jD];by_cases h2:RQ (-x)=0;(rw[h2];unfold RQ at h2⊢;rw[if_neg jF];congr 1;omega);·rw[if_pos jE,bI jD jD];unfold RQ at*;congr 1;omega
theorem ZM{x:Int}{e:Nat}(j:0<=x)(h1:x<2147483647):IntKind.u8.wrap (IntKind.i64.wrap ((BitVec.ofInt (IntKind.i64.bits) (Int.fdiv x (2^e))&&&BitVec.ofInt (IntKind.i64.bits) 255).toNat:Int))=IntKind.u8.wrap (Int.fdiv x (2^e)):=by
 obtain⟨n,rfl⟩:=Int.eq_ofNat_of_zero_le j
 have e2:Int.fdiv (n:Int) (2^e)=((n/2^e:Nat):Int):=by rw[Int.fdiv_eq_ediv_of_nonneg _ (by exact Int.le_of_lt (Int.pow_pos jG))];simp
 have hle:n/2^e<=n:=Nat.div_le_self _ _
 have:=M0 (n:=n/2^e) (m:=255) jD jD
 rw[e2]
 have e3:((255:Nat):Int)=255:=rfl
 rw[e3]at this
 rw[this,YI,wrap_u8,wrap_u8]
 omega
open Go.RowKit
theorem SQ {P : Program} {f : FuncId} {fn : Func} {c : Code} {a b : ByteArray} {r : Int} (hf : P.funcs[f]? = some fn) (hb : fn.body = some c) (hn : (fn.name == "runtime.NumGoroutine") = false)
  (h : ∀w,Calls P f #[.string a,.string b] w λe w'=>e = .returned (.int .i64 r)/\w'=w):pH P f [(false,[.str a]),(false,[.str b])] [(false,[.ro (.int .i64 r)])]:=by
 refine .inl ⟨⟨fn,c,hf,hb,hn⟩,λw vs Fa ha => ?_⟩
 have e:vs = #[.string a,.string b]:=by
  obtain ⟨l⟩:=vs
  match l,ha with
  | [x,y],⟨_,_,_,h1,_,_,_,h2,_⟩ =>
   simp [Ts,Rep] at h1 h2
   simp [h1,h2]
 subst e
 refine (h w).mono λe w' hh => ?_
 obtain ⟨rfl,rfl⟩:=hh
 exact ⟨_,rfl,⟨[],λ_=>False,⟨List.nodup_nil,jF⟩,λ_ h=>h.elim,λ_=>rfl,by simp [S9,N2,pQ,Rep]⟩,Below.refl _ _⟩
end Go.Sh
namespace Go.Sh
theorem NR:∀(a:List UInt8),Op.bytesLess a a=false
 |[]=>rfl
 |x::a=>by
  have e:Op.bytesLess (x::a) (x::a)=(decide (x<x)||((x==x)&&Op.bytesLess a a)):=rfl
  rw[e,NR a]
  have:¬x<x:=by rw[UInt8.lt_iff_toNat_lt];omega
  simp[this]
theorem Ij:∀(a b:List UInt8),Lib.compareBytes a b=if Op.bytesLess a b=true then -1 else if(a==b)=true then 0 else 1
 |[],[]=>rfl
 |[],_::_=>rfl
 |_::_,[]=>rfl
 |x::a,y::b=>by
  have e1:Op.bytesLess (x::a) (y::b)=(decide (x<y)||((x==y)&&Op.bytesLess a b)):=rfl
  have e2:((x::a)==(y::b))=((x==y)&&(a==b)):=rfl
  rw[Lib.compareBytes,Ij a b,e1,e2]
  by_cases h:x<y
  ·simp[h]
  ·by_cases h2:y<x
   ·have h3:¬x=y:=by intro e;subst e;exact h h2
    simp[h,h2,h3]
   ·have h3:x=y:=by
     rw[UInt8.lt_iff_toNat_lt]at h h2
     exact UInt8.toNat_inj.1 jD
    subst h3
    simp[h]
def H8{α:Type}(f:α->α->Option Bool)(j C:List α):Nat->Int->Option Bool
 |0,_=>none
 |n+1,v=>if(decide (v<(List.length j:Int)))=true then(idx j v).bind λx=>(idx C v).bind λy=>(f x y).bind λz=>if(!z)=true then some false else H8 f j C n (IntKind.i64.wrap (v+1))else some true
def eqS{α:Type}(f:α->α->Option Bool)(j C:List α):Option Bool:=if((List.length j:Int) !=(List.length C:Int))=true then some false else H8 f j C fuel 0
def H9{α:Type}(f:α->Option α)(j:List α):Nat->Int->List α->Option (List α)
 |0,_,_=>none
 |n+1,v,r=>if(decide (v<(List.length j:Int)))=true then(idx j v).bind λx=>(f x).bind λy=>(idx r v).bind λ_=>H9 f j n (IntKind.i64.wrap (v+1)) (List.set r v.toNat y)else some r
def toS{α:Type}(b:Nat)(z:α)(f:α->Option α)(j:List α):Option (List α):=(mkL b (List.length j:Int) z).bind λ_=>H9 f j fuel 0 (List.replicate (List.length j:Int).toNat z)
def JI{α:Type}(f:α->Int->Option Int)(j:List α):Nat->Int->Int->Option Int
 |0,_,_=>none
 |n+1,k,v=>if(decide (v<(List.length j:Int)))=true then(idx j v).bind λx=>(f x k).bind λy=>if(decide (y<0))=true then some (-1)else JI f j n y (IntKind.i64.wrap (v+1))else some k
def szS{α:Type}(f:α->Int->Option Int)(j:List α)(C:Int):Option Int:=if(decide ((IntKind.i64.wrap (C-(List.length j:Int)))<0))=true then some (-1)else JI f j fuel (IntKind.i64.wrap (C-(List.length j:Int))) 0
theorem Fu{α:Type}{f:α->α->Option Bool}{ok:α->Prop}{xs:List α}(j:xs.length<=maxLen/\∀y∈xs,ok y)(h:∀y,ok y->f y y=some true):eqS f xs xs=some true:=by have C:=le_max j.1;unfold eqS;rw[if_neg jF];refine QR j.1 (λn k hk=> ?_) (λn=> ?_) fuel 0 jI jD;(simp only[H8];rw[if_pos (bE hk),aH hk];simp[bG (show k<9223372036854775807 by omega),h _ (j.2 _ (qG hk))]);·simp only[H8];rw[if_neg jK]
theorem FV{α:Type}{b:Nat}{z:α}{f:α->Option α}{ok:α->Prop}{sz:α->Nat}{xs:List α}(j:xs.length<=maxLen/\∀y∈xs,ok y)(U:xs.length+bA sz xs<=1048576)(hb:b<=100000000)(h:∀y,ok y->sz y<=1048576->f y=some y):toS b z f xs=some xs:=by have I:=le_max j.1;have C:xs.length*b<=1048576*100000000:=Nat.mul_le_mul jD hb;unfold toS;rw[TR jD jD,qA];refine Ro j.1 (λn k r hk J=> ?_) (λn r=> ?_) fuel 0 _ jI jD jF jF;(simp only[H9];rw[if_pos (bE hk),aH hk,qA,h _ (j.2 _ (qG hk)) (by have:=dW (f:=sz) (qG hk);omega),qA,aH jD,qA,bG jD,qH]);·simp only[H9];rw[if_neg jK]
theorem UZ{α:Type}{b:Nat}{z:α}{f:α->Option α}{ok:α->Prop}{xs:List α}(j:xs.length<=maxLen/\∀y∈xs,ok y)(J:xs.length<=1048576)(hb:b<=100000000)(h:∀y,ok y->f y=some y):toS b z f xs=some xs:=
 FV (sz:=λ_=>0) j (by have:∀l:List α,bA (λ_=>0) l=0:=λl=>by{ induction l with|nil=>rfl|cons x l I=>simp only[bA,I] };rw[this];omega) hb λy C _=>h y C
theorem GB{α:Type}{f:α->Int->Option Int}{ok:α->Prop}{sz:α->Nat}{xs:List α}(j:xs.length<=maxLen/\∀y∈xs,ok y)(h:∀y,ok y->Sz (f y) (sz y)):Sz (szS f xs) (xs.length+bA sz xs):=
 λl a b=>Sz.aCK (L:=JI f xs) j.1 (λx C=>h x (j.2 x C)) (λ_ _ _=>rfl) l a b
