/-
  Helper text. No conditions.
-/
import Derived.Test.YtbpbocchokbggaaGreatOpenedShP
import Derived.Lib.Walk
import Derived.Lib.Bytealg
import Derived.Laws.Externs
set_option linter.all false
namespace Go.Sh
theorem aEE{s:ByteArray}{k:Nat}(h:k<s.size):s[k]? =some s[k]:=by simp[h]
theorem HZ{s:ByteArray}{k:Nat}(h:k<s.size):Xj s (k:Int)=some s[k]:=by unfold Xj;rw[if_pos jF,qH,aEE h]
theorem VL{R:Type}{N:Nat}{g:Nat->Bool}{F E:Option R}{L:Nat->Int->Option R}
  (h1:∀n (k:Nat) (hk:k<N),L (n+1) (k:Int)=if g k=true then L n ((k+1:Nat):Int)else F)(h2:∀n,L (n+1) (N:Int)=E):
  ∀(n k:Nat),N-k<n->k<=N->L n (k:Int)=if(List.range' k (N-k)).all g=true then E else F
 |0,k,j,_=>by omega
 |n+1,k,j,hk=>by
  rcases Nat.lt_or_ge k N with h|h
  ·rw[h1 n k h,VL h1 h2 n (k+1) jF h]
   have e:N-k=(N-(k+1))+1:=by omega
   rw[e,List.range'_succ,List.all_cons]
   cases g k<;>simp only[Bool.true_and,Bool.false_and,if_true,if_false,qD]
  ·have:k=N:=by omega
   subst this
   rw[h2];simp
theorem oZ{R:Type}{N:Nat}{g:Nat->Bool}{F E:Option R}{L:Nat->Int->Option R}(j:N<=maxLen)
  (h1:∀n (k:Nat) (hk:k<N),L (n+1) (k:Int)=if g k=true then L n ((k+1:Nat):Int)else F)(h2:∀n,L (n+1) (N:Int)=E):
  L fuel 0=if(List.range N).all g=true then E else F:=by
 have C:=le_max j
 have:=VL h1 h2 fuel 0 jM jF
 rw[List.range_eq_range']
 simpa using this
theorem aAC(a b:UInt8):(decide (a<b)||(a==b))= !decide (b<a):=by
 by_cases h:b<a
 ·have h1:¬a<b:=by rw[UInt8.lt_iff_toNat_lt]at*;omega
  have h2:¬a=b:=by intro e;subst e;rw[UInt8.lt_iff_toNat_lt]at h;omega
  simp[h,h1,h2]
 ·by_cases h3:a<b
  ·simp[h,h3]
  ·have:a=b:=by
    rw[UInt8.lt_iff_toNat_lt]at h h3
    exact UInt8.toNat_inj.1 jF
   subst this;simp
theorem DC:∀(a b:List UInt8),Op.bytesLess a b= !(Op.bytesLess b a||b==a)
 |[],[]=>rfl
 |[],_::_=>rfl
 |_::_,[]=>rfl
 |x::a,y::b=>by
  have j:=DC a b
  have e1:Op.bytesLess (x::a) (y::b)=(decide (x<y)||((x==y)&&Op.bytesLess a b)):=rfl
  have e2:Op.bytesLess (y::b) (x::a)=(decide (y<x)||((y==x)&&Op.bytesLess b a)):=rfl
  have e3:((y::b)==(x::a))=((y==x)&&(b==a)):=rfl
  rw[e1,e2,e3,j]
  by_cases h:x=y
  ·subst h
   have:¬x<x:=by rw[UInt8.lt_iff_toNat_lt];omega
   simp[this]
  ·have h2:¬y=x:=λe=>h e.symm
   have h3:=aAC y x
   have h4:(y==x)=false:=by simp[h2]
   have h5:(x==y)=false:=by simp[h]
   rw[h4]at h3⊢
   rw[h5]
   simp at h3⊢
   rw[h3]
   simp
theorem K0{n m:Nat}(C:n<9223372036854775808)(j:m<9223372036854775808):IntKind.i64.wrap ((BitVec.ofInt IntKind.i64.bits (n:Int)&&&BitVec.ofInt IntKind.i64.bits (m:Int)).toNat:Int)=((n&&&m:Nat):Int):=by have hb:IntKind.i64.bits=64:=rfl;rw[hb,BitVec.toNat_and,BitVec.ofInt_natCast,BitVec.ofInt_natCast,BitVec.toNat_ofNat,BitVec.toNat_ofNat,Nat.mod_eq_of_lt jF,Nat.mod_eq_of_lt jF];have:=Nat.and_le_left (n:=n) (m:=m);rw[bO jF jF]
theorem Qp{n m:Nat}(C:n<9223372036854775808)(j:m<9223372036854775808):IntKind.i64.wrap ((BitVec.ofInt IntKind.i64.bits (n:Int)|||BitVec.ofInt IntKind.i64.bits (m:Int)).toNat:Int)=((n|||m:Nat):Int):=by have hb:IntKind.i64.bits=64:=rfl;rw[hb,BitVec.toNat_or,BitVec.ofInt_natCast,BitVec.ofInt_natCast,BitVec.toNat_ofNat,BitVec.toNat_ofNat,Nat.mod_eq_of_lt jF,Nat.mod_eq_of_lt jF];have:n|||m<2^63:=Nat.or_lt_two_pow jF jF;rw[bO jF jF]
theorem XN(n:Nat):n&&&127=n%128:=by have:=Nat.and_two_pow_sub_one_eq_mod n 7;simpa using this
theorem XF(n:Nat):n&&&255=n%256:=by have:=Nat.and_two_pow_sub_one_eq_mod n 8;simpa using this
theorem aBi{n:Nat}(h:n<128):n|||128=n+128:=by have:=Nat.two_pow_add_eq_or_of_lt (i:=7) (b:=n) jF 1;rw[Nat.or_comm];have e:2^7*1=128:=rfl;rw[e]at this;omega
def uv(n:Nat):List Int:=if h:n<128 then[(n:Int)]else((n%128+128:Nat):Int)::uv (n/128)
 termination_by n
 decreasing_by omega
theorem Ky{n:Nat}(h:n<128):uv n=[(n:Int)]:=by rw[uv,dif_pos h]
theorem QH{n:Nat}(h:¬n<128):uv n=((n%128+128:Nat):Int)::uv (n/128):=by rw[uv,dif_neg h]
theorem G0:∀(n:Nat),n<2^63->(uv n).length<=9:=by
 have key:∀(j n:Nat),n<2^(7*(j+1))->(uv n).length<=j+1:=by
  intro j
  induction j with
  |zero=>intro n h;rw[Ky (by simpa using h)];simp
  |succ j C=>
   intro n h
   by_cases h1:n<128
   ·rw[Ky h1];simp
   ·rw[QH h1,qJ]
    have:n/128<2^(7*(j+1)):=by
     rw[Nat.div_lt_iff_lt_mul jF]
     have e:2^(7*(j+1+1))=2^(7*(j+1))*128:=by rw[show 7*(j+1+1)=7*(j+1)+7 by omega,Nat.pow_add]
     omega
    have:=C _ this
    omega
 intro n h
 exact key 8 n (by simpa using h)
theorem wrap_u8(n:Int):IntKind.u8.wrap n=n%256:=by simp[IntKind.wrap,IntKind.bits,IntKind.signed]
theorem dY{α:Type}{b:Nat}{xs ys:List α}(h:(xs.length+ys.length)*b<=140737488355328):app b xs ys=some (xs++ys):=by unfold app;rw[if_pos h]
end Go.Sh
namespace Go.Sh
theorem TY{α σ R:Type}{xs:List α}{step:σ->α->σ}{E:σ->Option R}{L:Nat->σ->Int->Option R}
  (h1:∀n s (k:Nat) (hk:k<xs.length),L (n+1) s (k:Int)=L n (step s xs[k]) ((k+1:Nat):Int))(h2:∀n s,L (n+1) s (xs.length:Int)=E s):
  ∀(n k:Nat) (s:σ),xs.length-k<n->k<=xs.length->L n s (k:Int)=E ((xs.drop k).foldl step s)
 |0,k,s,j,_=>by omega
 |n+1,k,s,j,hk=>by
  rcases Nat.lt_or_ge k xs.length with h|h
  ·rw[h1 n s k h,TY h1 h2 n (k+1) _ jF h,qX h,List.foldl_cons]
  ·have:k=xs.length:=by omega
   subst this
   rw[h2 n s];simp
theorem Hl{α σ R:Type}{xs:List α}{step:σ->α->σ}{E:σ->Option R}{L:Nat->σ->Int->Option R}(j:xs.length<=maxLen)
  (h1:∀n s (k:Nat) (hk:k<xs.length),L (n+1) s (k:Int)=L n (step s xs[k]) ((k+1:Nat):Int))(h2:∀n s,L (n+1) s (xs.length:Int)=E s)(s:σ):
  L fuel s 0=E (xs.foldl step s):=by
 have C:=le_max j
 have:=TY h1 h2 fuel 0 s jM jF
 simpa using this
theorem Rd{α:Type}{xs:List α}{w:α->Nat}{B:Nat}{L:Nat->Int->List Int->Option (List Int)}
  (h1:∀n (k:Nat) (hk:k<xs.length) r,r.length+w xs[k]<=B->∃j:List Int,j.length=r.length+w xs[k]/\L (n+1) (k:Int) r=L n ((k+1:Nat):Int) j)(h2:∀n r,L (n+1) (xs.length:Int) r=some r):
  ∀(n k:Nat) (r:List Int),xs.length-k<n->k<=xs.length->r.length+dG w (xs.drop k)<=B->∃l,L n (k:Int) r=some l/\l.length=r.length+dG w (xs.drop k)
 |0,k,r,I,_,_=>by omega
 |n+1,k,r,I,hk,C=>by
  rcases Nat.lt_or_ge k xs.length with h|h
  ·have e:dG w (xs.drop k)=w xs[k]+dG w (xs.drop (k+1)):=by rw[qX h];rfl
   rw[e]at C⊢
   obtain⟨j,J,e1⟩:=h1 n k h r jF
   obtain⟨l,e2,e3⟩:=Rd h1 h2 n (k+1) j jF h jF
   exact⟨l,by rw[e1,e2],jF⟩
  ·have:k=xs.length:=by omega
   subst this
   refine⟨r,h2 n r,?_⟩
   simp[dG]
theorem dR{α:Type}{w:α->Nat}{b:Nat}:∀{xs:List α},(∀x∈xs,w x<=b)->dG w xs<=xs.length*b
 |[],_=>by simp[dG]
 |x::xs,h=>by have h1:=h x jH;have h2:=dR (xs:=xs) (λy j=>h y (by simp[j]));simp only[dG,qJ,Nat.succ_mul];omega
theorem Ur{L:Nat->Int->List Int->Option (List Int)}{b c:Int->Int}
  (h1:∀m (n:Nat) r,¬n<128->n<2^63->L (m+1) (n:Int) r=(app 1 r [b n]).bind λ_=>L m ((n/128:Nat):Int) (r++[b n]))
  (h2:∀m (n:Nat) r,n<128->L (m+1) (n:Int) r=(app 1 r [c n]).bind λ_=>some (r++[c n])):
  ∀(j m n:Nat) (r:List Int),n<2^(7*(j+1))->n<2^63->j<m->r.length+(j+1)<=140737488355328->∃l,L m (n:Int) r=some l/\l.length=r.length+(uv n).length
 |j,0,n,r,_,_,I,_=>by omega
 |0,m+1,n,r,J,C,I,hr=>by
  have h:n<128:=by simpa using J
  refine⟨r++[c n],?_,?_⟩
  ·rw[h2 m n r h,dY jG,qA]
  ·rw[Ky h];simp
 |j+1,m+1,n,r,J,C,I,hr=>by
  by_cases h:n<128
  ·refine⟨r++[c n],?_,?_⟩;(rw[h2 m n r h,dY jG,qA]);·rw[Ky h];simp
  ·have U:n/128<2^(7*(j+1)):=by
    rw[Nat.div_lt_iff_lt_mul jF]
    have e:2^(7*(j+1+1))=2^(7*(j+1))*128:=by rw[show 7*(j+1+1)=7*(j+1)+7 by omega,Nat.pow_add]
    omega
   obtain⟨l,e1,e2⟩:=Ur h1 h2 j m (n/128) (r++[b n]) U jF jF jG
   refine⟨l,?_,?_⟩
   ·rw[h1 m n r h C,dY jG,qA,e1]
   ·rw[e2,QH h];simp;omega
theorem aP(s:ByteArray):(bR s).length=s.size:=by unfold bR;rw[qU,qn];rfl
theorem wrap_add(x y:Int):IntKind.i64.wrap (IntKind.i64.wrap x+y)=IntKind.i64.wrap (x+y):=by rw[IntKind.wrap_i64,IntKind.wrap_i64,IntKind.wrap_i64];omega
theorem VE(x y:Int):IntKind.i64.wrap (x+IntKind.i64.wrap y)=IntKind.i64.wrap (x+y):=by rw[IntKind.wrap_i64,IntKind.wrap_i64,IntKind.wrap_i64];omega
def bat(s:ByteArray)(k:Nat)(g:UInt8->Bool):Bool:=(s[k]?).any g
theorem aAT{s:ByteArray}{k:Nat}(h:k<s.size)(g:UInt8->Bool):bat s k g=g s[k]:=by unfold bat;rw[aEE h];rfl
def V3(s:ByteArray)(g:UInt8->Bool):Bool:=(List.range s.size).all λk=>bat s k g
theorem IM{R:Type}{s:ByteArray}{g:UInt8->Bool}{F E:Option R}{L:Nat->Int->Option R}(j:s.size<=maxLen)
  (h1:∀n (k:Nat) (hk:k<s.size),L (n+1) (k:Int)=if g s[k]=true then L n ((k+1:Nat):Int)else F)(h2:∀n,L (n+1) (s.size:Int)=E):
  L fuel 0=if V3 s g=true then E else F:=
 oZ (g:=λk=>bat s k g) j (λn k hk=>by rw[h1 n k hk];simp only[aAT hk]) h2
def inR(x a b:Int):Bool:=decide (a<=x)&&decide (x<=b)
theorem Cq{α:Type}(x:Int)(a b:α):(if x<0 then a else b)=if(decide (0<=x))=true then b else a:=by by_cases h:x<0;(rw[if_pos h,if_neg jG]);·rw[if_neg h,if_pos jG]
theorem uvf(n:Nat):Int.fdiv (n:Int) (2^(min (7:Int).toNat IntKind.i64.bits))=((n/128:Nat):Int):=by
 have e:(2:Int)^(min (7:Int).toNat IntKind.i64.bits)=128:=by decide
 rw[e,Int.fdiv_eq_ediv_of_nonneg _ jI]
 omega
theorem uvt{n:Nat}(h:n<2^63):IntKind.i64.wrap (Int.tdiv (n:Int) 128)=((n/128:Nat):Int):=by rw[Int.tdiv_eq_ediv_of_nonneg jF,bO jF jF];omega
theorem Cm{α:Type}(x:Int)(a b:α):(if x=0 then a else b)=if(decide (x=0))=true then a else b:=by by_cases h:x=0;(rw[if_pos h,if_pos (by simpa using h)]);·rw[if_neg h,if_neg (by simpa using h)]
theorem WR:fuel=18446744073709551609+7:=rfl
end Go.Sh
namespace Go.Sh
theorem iF{α:Type}{f:α->Bool}{xs:List α}(h:¬mM f xs<0):∃k:Nat,mM f xs=(k:Int)/\k<xs.length:=by
 unfold mM at h⊢
 cases e:xs.findIdx? f with
 |none=>rw[e]at h;simp at h
 |some i=>exact⟨i,rfl,(List.findIdx?_eq_some_iff_getElem.1 e).1⟩
theorem QR{b:Nat}{xs:List Int}{f:Int->Int}{L:Nat->Int->List Int->Option (List Int)}
  (h1:∀n (k:Nat) (hk:k<xs.length) r,L (n+1) (k:Int) r=(app b r [f xs[k]]).bind λ_=>L n ((k+1:Nat):Int) (r++[f xs[k]]))(h2:∀n r,L (n+1) (xs.length:Int) r=some r):
  ∀(n k:Nat) (r:List Int),xs.length-k<n->k<=xs.length->(r.length+(xs.length-k))*b<=140737488355328->L n (k:Int) r=some (r++(xs.drop k).map f)
 |0,k,r,C,_,_=>by omega
 |n+1,k,r,C,hk,j=>by
  rcases Nat.lt_or_ge k xs.length with h|h
  ·have hle:(r.length+1)*b<=(r.length+(xs.length-k))*b:=qj b jF;rw[h1 n k h r,dY (by simp only[List.length_singleton];omega),qA,QR h1 h2 n (k+1) _ jF h (by rw[qE,List.length_singleton,show r.length+1+(xs.length-(k+1))=r.length+(xs.length-k)by omega];exact j),qX h,List.map_cons,qT];rfl
  ·have:k=xs.length:=by omega
   subst this
   rw[h2];simp
def Qg(x:Int):Int:=x%2147483647
theorem M3(x:Int):0<=Qg x/\Qg x<2147483647:=by unfold Qg;omega
theorem GO{x:Int}(h:0<=x):Int.tmod x 2147483647=Qg x:=Int.tmod_eq_emod_of_nonneg h
theorem tmod_neg{x:Int}(h:x<0):Int.tmod x 2147483647= - Qg (-x):=by
 have e:x= -(-x):=by omega
 have h2:=Int.neg_tmod (-x) 2147483647
 rw[<-e]at h2
 rw[h2,GO jF]
def SS(v x:Int):Int:=Int.tmod (IntKind.i64.wrap ((IntKind.i64.wrap ((IntKind.i64.wrap (v*1000003))+Qg x))+13)) 2147483647
theorem Zj{v:Int}(x:Int)(h:0<=v/\v<2147483647):0<=SS v x/\SS v x<2147483647:=by have:=M3 x;unfold SS;rw[bO (n:=v*1000003) jF jF,bO (n:=v*1000003+Qg x) jF jF,bO jF jF,GO jF];exact M3 _
def HH(l:List Int):Int:=l.foldl SS 11
theorem QA(l:List Int):0<=HH l/\HH l<2147483647:=by
 have key:∀(l:List Int) (v:Int),0<=v/\v<2147483647->0<=l.foldl SS v/\l.foldl SS v<2147483647:=by
  intro l
  induction l with
  |nil=>intro v h;exact h
  |cons x l j=>intro v h;exact j _ (Zj x h)
 exact key l 11 jF
theorem Wb(x:Int):Int.tmod (IntKind.i64.wrap ((Int.tmod x 2147483647)+2147483647)) 2147483647=Qg x:=by by_cases h:0<=x;(have:=M3 x;rw[GO h,bO jF jF,GO jF];unfold Qg;omega);·have:=M3 (-x);rw[tmod_neg (x:=x) jF,bO jF jF,GO jF];unfold Qg;omega
theorem Xm(x:Int):(if(decide ((Int.tmod x 2147483647)<0))=true then some (IntKind.i64.wrap ((Int.tmod x 2147483647)+2147483647))else some (Int.tmod x 2147483647))=some (Qg x):=by by_cases h:0<=x;(have:=M3 x;rw[GO h,if_neg jG]);·have:=M3 (-x);rw[tmod_neg (x:=x) jF];by_cases h2:Qg (-x)=0;(rw[h2];unfold Qg at h2⊢;rw[if_neg jH];congr 1;omega);·rw[if_pos jG,bO jF jF];unfold Qg at*;congr 1;omega
theorem YY{x:Int}{e:Nat}(j:0<=x)(h1:x<2147483647):IntKind.u8.wrap (IntKind.i64.wrap ((BitVec.ofInt (IntKind.i64.bits) (Int.fdiv x (2^e))&&&BitVec.ofInt (IntKind.i64.bits) 255).toNat:Int))=IntKind.u8.wrap (Int.fdiv x (2^e)):=by
 obtain⟨n,rfl⟩:=Int.eq_ofNat_of_zero_le j
 have e2:Int.fdiv (n:Int) (2^e)=((n/2^e:Nat):Int):=by rw[Int.fdiv_eq_ediv_of_nonneg _ (by exact Int.le_of_lt (Int.pow_pos jI))];simp
 have hle:n/2^e<=n:=Nat.div_le_self _ _
 have:=K0 (n:=n/2^e) (m:=255) jF jF
 rw[e2]
 have e3:((255:Nat):Int)=255:=rfl
 rw[e3]at this
 rw[this,XF,wrap_u8,wrap_u8]
 omega
end Go.Sh
namespace Go.Sh
open Go.RowKit
theorem Q5 {P : Program} {f : FuncId} {fn : Func} {c : Code} {a b : ByteArray} {r : Int} (hf : P.funcs[f]? = some fn) (hb : fn.body = some c) (hn : (fn.name == "runtime.NumGoroutine") = false)
  (h : ∀w,Calls P f #[.string a,.string b] w λe w'=>e = .returned (.int .i64 r)/\w'=w):gL P f [(false,[.str a]),(false,[.str b])] [(false,[.ro (.int .i64 r)])]:=by
 refine .inl ⟨⟨fn,c,hf,hb,hn⟩,λw vs Fa ha => ?_⟩
 have e:vs = #[.string a,.string b]:=by
  obtain ⟨l⟩:=vs
  match l,ha with
  | [x,y],⟨_,_,_,h1,_,_,_,h2,_⟩ =>
   simp [RA,Rep] at h1 h2
   simp [h1,h2]
 subst e
 refine (h w).mono λe w' hh => ?_
 obtain ⟨rfl,rfl⟩:=hh
 exact ⟨_,rfl,⟨[],λ_=>False,⟨List.nodup_nil,jH⟩,λ_ h=>h.elim,λ_=>rfl,by simp [Ri,L8,sL,Rep]⟩,Below.refl _ _⟩
end Go.Sh
namespace Go.Sh
theorem LW:∀(a:List UInt8),Op.bytesLess a a=false
 |[]=>rfl
 |x::a=>by
  have e:Op.bytesLess (x::a) (x::a)=(decide (x<x)||((x==x)&&Op.bytesLess a a)):=rfl
  rw[e,LW a]
  have:¬x<x:=by rw[UInt8.lt_iff_toNat_lt];omega
  simp[this]
theorem FP:∀(a b:List UInt8),Lib.compareBytes a b=if Op.bytesLess a b=true then -1 else if(a==b)=true then 0 else 1
 |[],[]=>rfl
 |[],_::_=>rfl
 |_::_,[]=>rfl
 |x::a,y::b=>by
  have e1:Op.bytesLess (x::a) (y::b)=(decide (x<y)||((x==y)&&Op.bytesLess a b)):=rfl
  have e2:((x::a)==(y::b))=((x==y)&&(a==b)):=rfl
  rw[Lib.compareBytes,FP a b,e1,e2]
  by_cases h:x<y
  ·simp[h]
  ·by_cases h2:y<x
   ·have h3:¬x=y:=by intro e;subst e;exact h h2
    simp[h,h2,h3]
   ·have h3:x=y:=by
     rw[UInt8.lt_iff_toNat_lt]at h h2
     exact UInt8.toNat_inj.1 jF
    subst h3
    simp[h]
end Go.Sh
namespace Go.Sh
