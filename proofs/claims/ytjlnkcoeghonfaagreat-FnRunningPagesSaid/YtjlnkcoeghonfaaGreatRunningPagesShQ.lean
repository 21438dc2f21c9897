/-
  Helper text. No conditions.
-/
import Derived.Test.YtjlnkcoeghonfaaGreatRunningPagesShP
import Derived.Lib.Walk
import Derived.Lib.Bytealg
import Derived.Laws.Externs
set_option linter.all false
namespace Go.Sh
theorem aIV{s:ByteArray}{k:Nat}(h:k<s.size):s[k]? =some s[k]:=by simp[h]
theorem Lf{s:ByteArray}{k:Nat}(h:k<s.size):aA0 s (k:Int)=some s[k]:=by unfold aA0;rw[jE wi,qH,aIV h]
theorem Zs{R:Type}{N:Nat}{g:Nat->Bool}{F E:Option R}{L:Nat->Int->Option R}
  (h1:∀n (k:Nat) (hk:k<N),L (n+1) (k:Int)=if g k=true then L n ((k+1:Nat):Int)else F)(h2:∀n,L (n+1) (N:Int)=E):
  ∀(n k:Nat),N-k<n->k<=N->L n (k:Int)=if(List.range' k (N-k)).all g=true then E else F
 |0,k,j,_=>by omega
 |n+1,k,j,hk=>by
  rcases jR k N with h|h
  ·rw[h1 n k h,Zs h1 h2 n (k+1) wi h]
   have e:N-k=(N-(k+1))+1:=by omega
   rw[e,List.range'_succ,List.all_cons]
   cases g k<;>simp only[Bool.true_and,Bool.false_and,jH,jG,qD]
  ·have:k=N:=by omega
   subst this
   rw[h2];simp
theorem sM{R:Type}{N:Nat}{g:Nat->Bool}{F E:Option R}{L:Nat->Int->Option R}(j:N<=maxLen)
  (h1:∀n (k:Nat) (hk:k<N),L (n+1) (k:Int)=if g k=true then L n ((k+1:Nat):Int)else F)(h2:∀n,L (n+1) (N:Int)=E):
  L aH 0=if(List.range N).all g=true then E else F:=by
 have C:=aY j
 have:=Zs h1 h2 aH 0 wH wi
 rw[List.range_eq_range']
 simpa using this
theorem aD4(a b:UInt8):(decide (a<b)||(a==b))= !decide (b<a):=by
 by_cases h:b<a
 ·have h1:¬a<b:=by rw[jd]at*;omega
  have h2:¬a=b:=by intro e;subst e;rw[jd]at h;omega
  simp[h,h1,h2]
 ·by_cases h3:a<b
  ·simp[h,h3]
  ·have:a=b:=by
    rw[jd]at h h3
    exact UInt8.toNat_inj.1 wi
   subst this;simp
theorem EP:∀(a b:List UInt8),Op.bytesLess a b= !(Op.bytesLess b a||b==a)
 |[],[]=>rfl
 |[],_::_=>rfl
 |_::_,[]=>rfl
 |x::a,y::b=>by
  have j:=EP a b
  have e1:Op.bytesLess (x::a) (y::b)=(decide (x<y)||((x==y)&&Op.bytesLess a b)):=rfl
  have e2:Op.bytesLess (y::b) (x::a)=(decide (y<x)||((y==x)&&Op.bytesLess b a)):=rfl
  have e3:((y::b)==(x::a))=((y==x)&&(b==a)):=rfl
  rw[e1,e2,e3,j]
  by_cases h:x=y
  ·subst h
   have:¬x<x:=by rw[jd];omega
   simp[this]
  ·have h2:¬y=x:=λe=>h e.symm
   have h3:=aD4 y x
   have h4:(y==x)=false:=by simp[h2]
   have h5:(x==y)=false:=by simp[h]
   rw[h4]at h3⊢
   rw[h5]
   simp at h3⊢
   rw[h3]
   simp
theorem N8{n m:Nat}(C:n<9223372036854775808)(j:m<9223372036854775808):IntKind.i64.wrap ((BitVec.ofInt IntKind.i64.bits (n:Int)&&&BitVec.ofInt IntKind.i64.bits (m:Int)).toNat:Int)=((n&&&m:Nat):Int):=by have hb:IntKind.i64.bits=64:=rfl;rw[hb,BitVec.toNat_and,BitVec.ofInt_natCast,BitVec.ofInt_natCast,BitVec.toNat_ofNat,BitVec.toNat_ofNat,Nat.mod_eq_of_lt wi,Nat.mod_eq_of_lt wi];have:=Nat.and_le_left (n:=n) (m:=m);rw[bQ wi wi]
theorem TZ{n m:Nat}(C:n<9223372036854775808)(j:m<9223372036854775808):IntKind.i64.wrap ((BitVec.ofInt IntKind.i64.bits (n:Int)|||BitVec.ofInt IntKind.i64.bits (m:Int)).toNat:Int)=((n|||m:Nat):Int):=by have hb:IntKind.i64.bits=64:=rfl;rw[hb,BitVec.toNat_or,BitVec.ofInt_natCast,BitVec.ofInt_natCast,BitVec.toNat_ofNat,BitVec.toNat_ofNat,Nat.mod_eq_of_lt wi,Nat.mod_eq_of_lt wi];have:n|||m<2^63:=Nat.or_lt_two_pow wi wi;rw[bQ wi wi]
theorem aBX(n:Nat):n&&&127=n%128:=by have:=Nat.and_two_pow_sub_one_eq_mod n 7;simpa using this
theorem aBO(n:Nat):n&&&255=n%256:=by have:=Nat.and_two_pow_sub_one_eq_mod n 8;simpa using this
theorem aFm{n:Nat}(h:n<128):n|||128=n+128:=by have:=Nat.two_pow_add_eq_or_of_lt (i:=7) (b:=n) wi 1;rw[Nat.or_comm];have e:2^7*1=128:=rfl;rw[e]at this;omega
def uv(n:Nat):List Int:=if h:n<128 then[(n:Int)]else((n%128+128:Nat):Int)::uv (n/128)
 termination_by n
 decreasing_by omega
theorem Mx{n:Nat}(h:n<128):uv n=[(n:Int)]:=by rw[uv,dif_pos h]
theorem S1{n:Nat}(h:¬n<128):uv n=((n%128+128:Nat):Int)::uv (n/128):=by rw[uv,dif_neg h]
theorem Kj:∀(n:Nat),n<2^63->(uv n).length<=9:=by
 have key:∀(j n:Nat),n<2^(7*(j+1))->(uv n).length<=j+1:=by
  intro j
  induction j with
  |zero=>intro n h;rw[Mx wN];simp
  |succ j C=>
   intro n h
   by_cases h1:n<128
   ·rw[Mx h1];simp
   ·rw[S1 h1,qJ]
    have:n/128<2^(7*(j+1)):=by
     rw[Nat.div_lt_iff_lt_mul wi]
     have e:2^(7*(j+1+1))=2^(7*(j+1))*128:=by rw[show 7*(j+1+1)=7*(j+1)+7 by omega,Nat.pow_add]
     omega
    have:=C _ this
    omega
 intro n h
 exact key 8 n wN
theorem wrap_u8(n:Int):IntKind.u8.wrap n=n%256:=by simp[IntKind.wrap,IntKind.bits,IntKind.signed]
theorem dN{α:Type}{b:Nat}{xs ys:List α}(h:(xs.length+ys.length)*b<=140737488355328):app b xs ys=some (xs++ys):=by unfold app;rw[jE h]
theorem XC{α σ R:Type}{xs:List α}{step:σ->α->σ}{E:σ->Option R}{L:Nat->σ->Int->Option R}
  (h1:∀n s (k:Nat) (hk:k<xs.length),L (n+1) s (k:Int)=L n (step s xs[k]) ((k+1:Nat):Int))(h2:∀n s,L (n+1) s (xs.length:Int)=E s):
  ∀(n k:Nat) (s:σ),xs.length-k<n->k<=xs.length->L n s (k:Int)=E ((xs.drop k).foldl step s)
 |0,k,s,j,_=>by omega
 |n+1,k,s,j,hk=>by
  rcases jR k xs.length with h|h
  ·rw[h1 n s k h,XC h1 h2 n (k+1) _ wi h,qX h,List.foldl_cons]
  ·have:k=xs.length:=by omega
   subst this
   rw[h2 n s];simp
theorem Ku{α σ R:Type}{xs:List α}{step:σ->α->σ}{E:σ->Option R}{L:Nat->σ->Int->Option R}(j:xs.length<=maxLen)
  (h1:∀n s (k:Nat) (hk:k<xs.length),L (n+1) s (k:Int)=L n (step s xs[k]) ((k+1:Nat):Int))(h2:∀n s,L (n+1) s (xs.length:Int)=E s)(s:σ):
  L aH s 0=E (xs.foldl step s):=by
 have C:=aY j
 have:=XC h1 h2 aH 0 s wH wi
 simpa using this
theorem UU{α:Type}{xs:List α}{w:α->Nat}{B:Nat}{L:Nat->Int->List Int->Option (List Int)}
  (h1:∀n (k:Nat) (hk:k<xs.length) r,r.length+w xs[k]<=B->∃j:List Int,j.length=r.length+w xs[k]/\L (n+1) (k:Int) r=L n ((k+1:Nat):Int) j)(h2:∀n r,L (n+1) (xs.length:Int) r=some r):
  ∀(n k:Nat) (r:List Int),xs.length-k<n->k<=xs.length->r.length+dV w (xs.drop k)<=B->∃l,L n (k:Int) r=some l/\l.length=r.length+dV w (xs.drop k)
 |0,k,r,I,_,_=>by omega
 |n+1,k,r,I,hk,C=>by
  rcases jR k xs.length with h|h
  ·have e:dV w (xs.drop k)=w xs[k]+dV w (xs.drop (k+1)):=by rw[qX h];rfl
   rw[e]at C⊢
   obtain⟨j,J,e1⟩:=h1 n k h r wi
   obtain⟨l,e2,e3⟩:=UU h1 h2 n (k+1) j wi h wi
   exact⟨l,by rw[e1,e2],wi⟩
  ·have:k=xs.length:=by omega
   subst this
   refine⟨r,h2 n r,?_⟩
   simp[dV]
theorem eU{α:Type}{w:α->Nat}{b:Nat}:∀{xs:List α},(∀x∈xs,w x<=b)->dV w xs<=xs.length*b
 |[],_=>by simp[dV]
 |x::xs,h=>by have h1:=h x we;have h2:=eU (xs:=xs) (λy j=>h y (by simp[j]));simp only[dV,qJ,Nat.succ_mul];omega
theorem X0{L:Nat->Int->List Int->Option (List Int)}{b c:Int->Int}
  (h1:∀m (n:Nat) r,¬n<128->n<2^63->L (m+1) (n:Int) r=(app 1 r [b n]).bind λ_=>L m ((n/128:Nat):Int) (r++[b n]))
  (h2:∀m (n:Nat) r,n<128->L (m+1) (n:Int) r=(app 1 r [c n]).bind λ_=>some (r++[c n])):
  ∀(j m n:Nat) (r:List Int),n<2^(7*(j+1))->n<2^63->j<m->r.length+(j+1)<=140737488355328->∃l,L m (n:Int) r=some l/\l.length=r.length+(uv n).length
 |j,0,n,r,_,_,I,_=>by omega
 |0,m+1,n,r,J,C,I,hr=>by
  have h:n<128:=by simpa using J
  refine⟨r++[c n],?_,?_⟩
  ·rw[h2 m n r h,dN wX,qA]
  ·rw[Mx h];simp
 |j+1,m+1,n,r,J,C,I,hr=>by
  by_cases h:n<128
  ·refine⟨r++[c n],?_,?_⟩;(rw[h2 m n r h,dN wX,qA]);·rw[Mx h];simp
  ·have U:n/128<2^(7*(j+1)):=by
    rw[Nat.div_lt_iff_lt_mul wi]
    have e:2^(7*(j+1+1))=2^(7*(j+1))*128:=by rw[show 7*(j+1+1)=7*(j+1)+7 by omega,Nat.pow_add]
    omega
   obtain⟨l,e1,e2⟩:=X0 h1 h2 j m (n/128) (r++[b n]) U wi wi wX
   refine⟨l,?_,?_⟩
   ·rw[h1 m n r h C,dN wX,qA,e1]
   ·rw[e2,S1 h];simp;omega
theorem aP(s:ByteArray):(bJ s).length=s.size:=by unfold bJ;rw[qU,qn];rfl
theorem wrap_add(x y:Int):IntKind.i64.wrap (IntKind.i64.wrap x+y)=IntKind.i64.wrap (x+y):=by rw[IntKind.wrap_i64,IntKind.wrap_i64,IntKind.wrap_i64];omega
theorem Zk(x y:Int):IntKind.i64.wrap (x+IntKind.i64.wrap y)=IntKind.i64.wrap (x+y):=by rw[IntKind.wrap_i64,IntKind.wrap_i64,IntKind.wrap_i64];omega
def bat(s:ByteArray)(k:Nat)(g:UInt8->Bool):Bool:=(s[k]?).any g
theorem aEM{s:ByteArray}{k:Nat}(h:k<s.size)(g:UInt8->Bool):bat s k g=g s[k]:=by unfold bat;rw[aIV h];rfl
def ZO(s:ByteArray)(g:UInt8->Bool):Bool:=(List.range s.size).all λk=>bat s k g
theorem L7{R:Type}{s:ByteArray}{g:UInt8->Bool}{F E:Option R}{L:Nat->Int->Option R}(j:s.size<=maxLen)
  (h1:∀n (k:Nat) (hk:k<s.size),L (n+1) (k:Int)=if g s[k]=true then L n ((k+1:Nat):Int)else F)(h2:∀n,L (n+1) (s.size:Int)=E):
  L aH 0=if ZO s g=true then E else F:=
 sM (g:=λk=>bat s k g) j (λn k hk=>by rw[h1 n k hk];simp only[aEM hk]) h2
def inR(x a b:Int):Bool:=decide (a<=x)&&decide (x<=b)
theorem EM{α:Type}(x:Int)(a b:α):(if x<0 then a else b)=if(decide (0<=x))=true then b else a:=by by_cases h:x<0;(rw[jE h,jF wX]);·rw[jF h,jE wX]
theorem uvf(n:Nat):Int.fdiv (n:Int) (2^(min (7:Int).toNat IntKind.i64.bits))=((n/128:Nat):Int):=by
 have e:(2:Int)^(min (7:Int).toNat IntKind.i64.bits)=128:=by decide
 rw[e,Int.fdiv_eq_ediv_of_nonneg _ wh]
 omega
theorem uvt{n:Nat}(h:n<2^63):IntKind.i64.wrap (Int.tdiv (n:Int) 128)=((n/128:Nat):Int):=by rw[Int.tdiv_eq_ediv_of_nonneg wi,bQ wi wi];omega
theorem EI{α:Type}(x:Int)(a b:α):(if x=0 then a else b)=if(decide (x=0))=true then a else b:=by by_cases h:x=0;(rw[jE h,jE wN]);·rw[jF h,jF wN]
theorem Yt:aH=18446744073709551609+7:=rfl
theorem dM{α:Type}{f:α->Bool}{xs:List α}(h:¬kP f xs<0):∃k:Nat,kP f xs=(k:Int)/\k<xs.length:=by
 unfold kP at h⊢
 cases e:xs.findIdx? f with
 |none=>rw[e]at h;simp at h
 |some i=>exact⟨i,rfl,(List.findIdx?_eq_some_iff_getElem.1 e).1⟩
theorem Uu{b:Nat}{xs:List Int}{f:Int->Int}{L:Nat->Int->List Int->Option (List Int)}
  (h1:∀n (k:Nat) (hk:k<xs.length) r,L (n+1) (k:Int) r=(app b r [f xs[k]]).bind λ_=>L n ((k+1:Nat):Int) (r++[f xs[k]]))(h2:∀n r,L (n+1) (xs.length:Int) r=some r):
  ∀(n k:Nat) (r:List Int),xs.length-k<n->k<=xs.length->(r.length+(xs.length-k))*b<=140737488355328->L n (k:Int) r=some (r++(xs.drop k).map f)
 |0,k,r,C,_,_=>by omega
 |n+1,k,r,C,hk,j=>by
  rcases jR k xs.length with h|h
  ·have hle:(r.length+1)*b<=(r.length+(xs.length-k))*b:=qj b wi;rw[h1 n k h r,dN (by simp only[List.length_singleton];omega),qA,Uu h1 h2 n (k+1) _ wi h (by rw[qE,List.length_singleton,show r.length+1+(xs.length-(k+1))=r.length+(xs.length-k)by omega];exact j),qX h,jI,qT];rfl
  ·have:k=xs.length:=by omega
   subst this
   rw[h2];simp
def TO(x:Int):Int:=x%2147483647
theorem Qd(x:Int):0<=TO x/\TO x<2147483647:=by unfold TO;omega
theorem J5{x:Int}(h:0<=x):Int.tmod x 2147483647=TO x:=Int.tmod_eq_emod_of_nonneg h
theorem tmod_neg{x:Int}(h:x<0):Int.tmod x 2147483647= - TO (-x):=by
 have e:x= -(-x):=by omega
 have h2:=Int.neg_tmod (-x) 2147483647
 rw[<-e]at h2
 rw[h2,J5 wi]
def WB(v x:Int):Int:=Int.tmod (IntKind.i64.wrap ((IntKind.i64.wrap ((IntKind.i64.wrap (v*1000003))+TO x))+13)) 2147483647
theorem aCz{v:Int}(x:Int)(h:0<=v/\v<2147483647):0<=WB v x/\WB v x<2147483647:=by have:=Qd x;unfold WB;rw[bQ (n:=v*1000003) wi wi,bQ (n:=v*1000003+TO x) wi wi,bQ wi wi,J5 wi];exact Qd _
def Kb(l:List Int):Int:=l.foldl WB 11
theorem Uf(l:List Int):0<=Kb l/\Kb l<2147483647:=by
 have key:∀(l:List Int) (v:Int),0<=v/\v<2147483647->0<=l.foldl WB v/\l.foldl WB v<2147483647:=by
  intro l
  induction l with
  |nil=>intro v h;exact h
  |cons x l j=>intro v h;exact j _ (aCz x h)
 exact key l 11 wi
theorem ZT(x:Int):Int.tmod (IntKind.i64.wrap ((Int.tmod x 2147483647)+2147483647)) 2147483647=TO x:=by by_cases h:0<=x;(have:=Qd x;rw[J5 h,bQ wi wi,J5 wi];unfold TO;omega);·have:=Qd (-x);rw[tmod_neg (x:=x) wi,bQ wi wi,J5 wi];unfold TO;omega
theorem aA3(x:Int):(if(decide ((Int.tmod x 2147483647)<0))=true then some (IntKind.i64.wrap ((Int.tmod x 2147483647)+2147483647))else some (Int.tmod x 2147483647))=some (TO x):=by by_cases h:0<=x;(have:=Qd x;rw[J5 h,jF wX]);·have:=Qd (-x);rw[tmod_neg (x:=x) wi];by_cases h2:TO (-x)=0;(rw[h2];unfold TO at h2⊢;rw[jF we];congr 1;omega);·rw[jE wX,bQ wi wi];unfold TO at*;congr 1;omega
theorem aCb{x:Int}{e:Nat}(j:0<=x)(h1:x<2147483647):IntKind.u8.wrap (IntKind.i64.wrap ((BitVec.ofInt (IntKind.i64.bits) (Int.fdiv x (2^e))&&&BitVec.ofInt (IntKind.i64.bits) 255).toNat:Int))=IntKind.u8.wrap (Int.fdiv x (2^e)):=by
 obtain⟨n,rfl⟩:=jU j
 have e2:Int.fdiv (n:Int) (2^e)=((n/2^e:Nat):Int):=by rw[Int.fdiv_eq_ediv_of_nonneg _ jo];simp
 have hle:n/2^e<=n:=Nat.div_le_self _ _
 have:=N8 (n:=n/2^e) (m:=255) wi wi
 rw[e2]
 have e3:((255:Nat):Int)=255:=rfl
 rw[e3]at this
 rw[this,aBO,wrap_u8,wrap_u8]
 omega
open Go.RowKit
theorem UK {P : Program} {f : FuncId} {fn : Func} {c : Code} {a b : ByteArray} {r : Int} (hf : P.funcs[f]? = some fn) (hb : fn.body = some c) (hn : (fn.name == "runtime.NumGoroutine") = false)
  (h : ∀w,Calls P f #[.string a,.string b] w λe w'=>e = .returned (.int .i64 r)/\w'=w):kU P f [(false,[.str a]),(false,[.str b])] [(false,[.ro (.int .i64 r)])]:=by
 refine .inl ⟨⟨fn,c,hf,hb,hn⟩,λw vs Fa ha => ?_⟩
 have e:vs = #[.string a,.string b]:=by
  obtain ⟨l⟩:=vs
  match l,ha with
  | [x,y],⟨_,_,_,h1,_,_,_,h2,_⟩ =>
   simp [Vl,Rep] at h1 h2
   simp [h1,h2]
 subst e
 refine (h w).mono λe w' hh => ?_
 obtain ⟨rfl,rfl⟩:=hh
 exact ⟨_,rfl,⟨[],λ_=>False,⟨ja,we⟩,λ_ h=>h.elim,λ_=>rfl,by simp [U4,Pg,vG,Rep]⟩,Below.refl _ _⟩
end Go.Sh
namespace Go.Sh
theorem O1:∀(a:List UInt8),Op.bytesLess a a=false
 |[]=>rfl
 |x::a=>by
  have e:Op.bytesLess (x::a) (x::a)=(decide (x<x)||((x==x)&&Op.bytesLess a a)):=rfl
  rw[e,O1 a]
  have:¬x<x:=by rw[jd];omega
  simp[this]
theorem I7:∀(a b:List UInt8),Lib.compareBytes a b=if Op.bytesLess a b=true then -1 else if(a==b)=true then 0 else 1
 |[],[]=>rfl
 |[],_::_=>rfl
 |_::_,[]=>rfl
 |x::a,y::b=>by
  have e1:Op.bytesLess (x::a) (y::b)=(decide (x<y)||((x==y)&&Op.bytesLess a b)):=rfl
  have e2:((x::a)==(y::b))=((x==y)&&(a==b)):=rfl
  rw[Lib.compareBytes,I7 a b,e1,e2]
  by_cases h:x<y
  ·simp[h]
  ·by_cases h2:y<x
   ·have h3:¬x=y:=by intro e;subst e;exact h h2
    simp[h,h2,h3]
   ·have h3:x=y:=by
     rw[jd]at h h2
     exact UInt8.toNat_inj.1 wi
    subst h3
    simp[h]
