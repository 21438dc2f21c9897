/-
  Helper text. No conditions.
-/
import Derived.Test.YtndidbigdalbnaaGreatNotesShP
import Derived.Lib.Walk
import Derived.Lib.Bytealg
import Derived.Laws.Externs
set_option linter.all false
namespace Go.Sh
theorem aH5{s:ByteArray}{k:Nat}(h:k<s.size):s[k]? =some s[k]:=by simp[h]
theorem KZ{s:ByteArray}{k:Nat}(h:k<s.size):aBH s (k:Int)=some s[k]:=by unfold aBH;rw[jF wg,qH,aH5 h]
theorem ZE{R:Type}{N:Nat}{g:Nat->Bool}{F E:Option R}{L:Nat->Int->Option R}
  (h1:∀n (k:Nat) (hk:k<N),L (n+1) (k:Int)=if g k=true then L n ((k+1:Nat):Int)else F)(h2:∀n,L (n+1) (N:Int)=E):
  ∀(n k:Nat),N-k<n->k<=N->L n (k:Int)=if(List.range' k (N-k)).all g=true then E else F
 |0,k,j,_=>by omega
 |n+1,k,j,hk=>by
  rcases jS k N with h|h
  ·rw[h1 n k h,ZE h1 h2 n (k+1) wg h]
   have e:N-k=(N-(k+1))+1:=by omega
   rw[e,List.range'_succ,List.all_cons]
   cases g k<;>simp only[Bool.true_and,Bool.false_and,jI,jH,qD]
  ·have:k=N:=by omega
   subst this
   rw[h2];simp
theorem rO{R:Type}{N:Nat}{g:Nat->Bool}{F E:Option R}{L:Nat->Int->Option R}(j:N<=maxLen)
  (h1:∀n (k:Nat) (hk:k<N),L (n+1) (k:Int)=if g k=true then L n ((k+1:Nat):Int)else F)(h2:∀n,L (n+1) (N:Int)=E):
  L aJ 0=if(List.range N).all g=true then E else F:=by
 have C:=aZ j
 have:=ZE h1 h2 aJ 0 wG wg
 rw[List.range_eq_range']
 simpa using this
theorem aEM(a b:UInt8):(decide (a<b)||(a==b))= !decide (b<a):=by
 by_cases h:b<a
 ·have h1:¬a<b:=by rw[je]at*;omega
  have h2:¬a=b:=by intro e;subst e;rw[je]at h;omega
  simp[h,h1,h2]
 ·by_cases h3:a<b
  ·simp[h,h3]
  ·have:a=b:=by
    rw[je]at h h3
    exact UInt8.toNat_inj.1 wg
   subst this;simp
theorem D4:∀(a b:List UInt8),Op.bytesLess a b= !(Op.bytesLess b a||b==a)
 |[],[]=>rfl
 |[],_::_=>rfl
 |_::_,[]=>rfl
 |x::a,y::b=>by
  have j:=D4 a b
  have e1:Op.bytesLess (x::a) (y::b)=(decide (x<y)||((x==y)&&Op.bytesLess a b)):=rfl
  have e2:Op.bytesLess (y::b) (x::a)=(decide (y<x)||((y==x)&&Op.bytesLess b a)):=rfl
  have e3:((y::b)==(x::a))=((y==x)&&(b==a)):=rfl
  rw[e1,e2,e3,j]
  by_cases h:x=y
  ·subst h
   have:¬x<x:=by rw[je];omega
   simp[this]
  ·have h2:¬y=x:=λe=>h e.symm
   have h3:=aEM y x
   have h4:(y==x)=false:=by simp[h2]
   have h5:(x==y)=false:=by simp[h]
   rw[h4]at h3⊢
   rw[h5]
   simp at h3⊢
   rw[h3]
   simp
theorem NZ{n m:Nat}(C:n<9223372036854775808)(j:m<9223372036854775808):IntKind.i64.wrap ((BitVec.ofInt IntKind.i64.bits (n:Int)&&&BitVec.ofInt IntKind.i64.bits (m:Int)).toNat:Int)=((n&&&m:Nat):Int):=by have hb:IntKind.i64.bits=64:=rfl;rw[hb,BitVec.toNat_and,BitVec.ofInt_natCast,BitVec.ofInt_natCast,BitVec.toNat_ofNat,BitVec.toNat_ofNat,Nat.mod_eq_of_lt wg,Nat.mod_eq_of_lt wg];have:=Nat.and_le_left (n:=n) (m:=m);rw[bO wg wg]
theorem T6{n m:Nat}(C:n<9223372036854775808)(j:m<9223372036854775808):IntKind.i64.wrap ((BitVec.ofInt IntKind.i64.bits (n:Int)|||BitVec.ofInt IntKind.i64.bits (m:Int)).toNat:Int)=((n|||m:Nat):Int):=by have hb:IntKind.i64.bits=64:=rfl;rw[hb,BitVec.toNat_or,BitVec.ofInt_natCast,BitVec.ofInt_natCast,BitVec.toNat_ofNat,BitVec.toNat_ofNat,Nat.mod_eq_of_lt wg,Nat.mod_eq_of_lt wg];have:n|||m<2^63:=Nat.or_lt_two_pow wg wg;rw[bO wg wg]
theorem aBm(n:Nat):n&&&127=n%128:=by have:=Nat.and_two_pow_sub_one_eq_mod n 7;simpa using this
theorem aBb(n:Nat):n&&&255=n%256:=by have:=Nat.and_two_pow_sub_one_eq_mod n 8;simpa using this
theorem aF0{n:Nat}(h:n<128):n|||128=n+128:=by have:=Nat.two_pow_add_eq_or_of_lt (i:=7) (b:=n) wg 1;rw[Nat.or_comm];have e:2^7*1=128:=rfl;rw[e]at this;omega
def uv(n:Nat):List Int:=if h:n<128 then[(n:Int)]else((n%128+128:Nat):Int)::uv (n/128)
 termination_by n
 decreasing_by omega
theorem DN{n:Nat}(h:n<128):uv n=[(n:Int)]:=by rw[uv,dif_pos h]
theorem KC{n:Nat}(h:¬n<128):uv n=((n%128+128:Nat):Int)::uv (n/128):=by rw[uv,dif_neg h]
theorem J6:∀(n:Nat),n<2^63->(uv n).length<=9:=by
 have key:∀(j n:Nat),n<2^(7*(j+1))->(uv n).length<=j+1:=by
  intro j
  induction j with
  |zero=>intro n h;rw[DN wM];simp
  |succ j C=>
   intro n h
   by_cases h1:n<128
   ·rw[DN h1];simp
   ·rw[KC h1,qJ]
    have:n/128<2^(7*(j+1)):=by
     rw[Nat.div_lt_iff_lt_mul wg]
     have e:2^(7*(j+1+1))=2^(7*(j+1))*128:=by rw[show 7*(j+1+1)=7*(j+1)+7 by omega,Nat.pow_add]
     omega
    have:=C _ this
    omega
 intro n h
 exact key 8 n wM
theorem wrap_u8(n:Int):IntKind.u8.wrap n=n%256:=by simp[IntKind.wrap,IntKind.bits,IntKind.signed]
theorem dK{α:Type}{b:Nat}{xs ys:List α}(h:(xs.length+ys.length)*b<=140737488355328):app b xs ys=some (xs++ys):=by unfold app;rw[jF h]
theorem XL{α σ R:Type}{xs:List α}{step:σ->α->σ}{E:σ->Option R}{L:Nat->σ->Int->Option R}
  (h1:∀n s (k:Nat) (hk:k<xs.length),L (n+1) s (k:Int)=L n (step s xs[k]) ((k+1:Nat):Int))(h2:∀n s,L (n+1) s (xs.length:Int)=E s):
  ∀(n k:Nat) (s:σ),xs.length-k<n->k<=xs.length->L n s (k:Int)=E ((xs.drop k).foldl step s)
 |0,k,s,j,_=>by omega
 |n+1,k,s,j,hk=>by
  rcases jS k xs.length with h|h
  ·rw[h1 n s k h,XL h1 h2 n (k+1) _ wg h,qX h,List.foldl_cons]
  ·have:k=xs.length:=by omega
   subst this
   rw[h2 n s];simp
theorem Ki{α σ R:Type}{xs:List α}{step:σ->α->σ}{E:σ->Option R}{L:Nat->σ->Int->Option R}(j:xs.length<=maxLen)
  (h1:∀n s (k:Nat) (hk:k<xs.length),L (n+1) s (k:Int)=L n (step s xs[k]) ((k+1:Nat):Int))(h2:∀n s,L (n+1) s (xs.length:Int)=E s)(s:σ):
  L aJ s 0=E (xs.foldl step s):=by
 have C:=aZ j
 have:=XL h1 h2 aJ 0 s wG wg
 simpa using this
theorem U0{α:Type}{xs:List α}{w:α->Nat}{B:Nat}{L:Nat->Int->List Int->Option (List Int)}
  (h1:∀n (k:Nat) (hk:k<xs.length) r,r.length+w xs[k]<=B->∃j:List Int,j.length=r.length+w xs[k]/\L (n+1) (k:Int) r=L n ((k+1:Nat):Int) j)(h2:∀n r,L (n+1) (xs.length:Int) r=some r):
  ∀(n k:Nat) (r:List Int),xs.length-k<n->k<=xs.length->r.length+dO w (xs.drop k)<=B->∃l,L n (k:Int) r=some l/\l.length=r.length+dO w (xs.drop k)
 |0,k,r,I,_,_=>by omega
 |n+1,k,r,I,hk,C=>by
  rcases jS k xs.length with h|h
  ·have e:dO w (xs.drop k)=w xs[k]+dO w (xs.drop (k+1)):=by rw[qX h];rfl
   rw[e]at C⊢
   obtain⟨j,J,e1⟩:=h1 n k h r wg
   obtain⟨l,e2,e3⟩:=U0 h1 h2 n (k+1) j wg h wg
   exact⟨l,by rw[e1,e2],wg⟩
  ·have:k=xs.length:=by omega
   subst this
   refine⟨r,h2 n r,?_⟩
   simp[dO]
theorem eN{α:Type}{w:α->Nat}{b:Nat}:∀{xs:List α},(∀x∈xs,w x<=b)->dO w xs<=xs.length*b
 |[],_=>by simp[dO]
 |x::xs,h=>by have h1:=h x wb;have h2:=eN (xs:=xs) (λy j=>h y (by simp[j]));simp only[dO,qJ,Nat.succ_mul];omega
theorem Ye{L:Nat->Int->List Int->Option (List Int)}{b c:Int->Int}
  (h1:∀m (n:Nat) r,¬n<128->n<2^63->L (m+1) (n:Int) r=(app 1 r [b n]).bind λ_=>L m ((n/128:Nat):Int) (r++[b n]))
  (h2:∀m (n:Nat) r,n<128->L (m+1) (n:Int) r=(app 1 r [c n]).bind λ_=>some (r++[c n])):
  ∀(j m n:Nat) (r:List Int),n<2^(7*(j+1))->n<2^63->j<m->r.length+(j+1)<=140737488355328->∃l,L m (n:Int) r=some l/\l.length=r.length+(uv n).length
 |j,0,n,r,_,_,I,_=>by omega
 |0,m+1,n,r,J,C,I,hr=>by
  have h:n<128:=by simpa using J
  refine⟨r++[c n],?_,?_⟩
  ·rw[h2 m n r h,dK wV,qA]
  ·rw[DN h];simp
 |j+1,m+1,n,r,J,C,I,hr=>by
  by_cases h:n<128
  ·refine⟨r++[c n],?_,?_⟩;(rw[h2 m n r h,dK wV,qA]);·rw[DN h];simp
  ·have U:n/128<2^(7*(j+1)):=by
    rw[Nat.div_lt_iff_lt_mul wg]
    have e:2^(7*(j+1+1))=2^(7*(j+1))*128:=by rw[show 7*(j+1+1)=7*(j+1)+7 by omega,Nat.pow_add]
    omega
   obtain⟨l,e1,e2⟩:=Ye h1 h2 j m (n/128) (r++[b n]) U wg wg wV
   refine⟨l,?_,?_⟩
   ·rw[h1 m n r h C,dK wV,qA,e1]
   ·rw[e2,KC h];simp;omega
theorem aP(s:ByteArray):(bF s).length=s.size:=by unfold bF;rw[qU,qn];rfl
theorem wrap_add(x y:Int):IntKind.i64.wrap (IntKind.i64.wrap x+y)=IntKind.i64.wrap (x+y):=by rw[IntKind.wrap_i64,IntKind.wrap_i64,IntKind.wrap_i64];omega
theorem Zv(x y:Int):IntKind.i64.wrap (x+IntKind.i64.wrap y)=IntKind.i64.wrap (x+y):=by rw[IntKind.wrap_i64,IntKind.wrap_i64,IntKind.wrap_i64];omega
def bat(s:ByteArray)(k:Nat)(g:UInt8->Bool):Bool:=(s[k]?).any g
theorem aB1{s:ByteArray}{k:Nat}(h:k<s.size)(g:UInt8->Bool):bat s k g=g s[k]:=by unfold bat;rw[aH5 h];rfl
def XB(s:ByteArray)(g:UInt8->Bool):Bool:=(List.range s.size).all λk=>bat s k g
theorem LZ{R:Type}{s:ByteArray}{g:UInt8->Bool}{F E:Option R}{L:Nat->Int->Option R}(j:s.size<=maxLen)
  (h1:∀n (k:Nat) (hk:k<s.size),L (n+1) (k:Int)=if g s[k]=true then L n ((k+1:Nat):Int)else F)(h2:∀n,L (n+1) (s.size:Int)=E):
  L aJ 0=if XB s g=true then E else F:=
 rO (g:=λk=>bat s k g) j (λn k hk=>by rw[h1 n k hk];simp only[aB1 hk]) h2
def inR(x a b:Int):Bool:=decide (a<=x)&&decide (x<=b)
theorem D2{α:Type}(x:Int)(a b:α):(if x<0 then a else b)=if(decide (0<=x))=true then b else a:=by by_cases h:x<0;(rw[jF h,jG wV]);·rw[jG h,jF wV]
theorem uvf(n:Nat):Int.fdiv (n:Int) (2^(min (7:Int).toNat IntKind.i64.bits))=((n/128:Nat):Int):=by
 have e:(2:Int)^(min (7:Int).toNat IntKind.i64.bits)=128:=by decide
 rw[e,Int.fdiv_eq_ediv_of_nonneg _ we]
 omega
theorem uvt{n:Nat}(h:n<2^63):IntKind.i64.wrap (Int.tdiv (n:Int) 128)=((n/128:Nat):Int):=by rw[Int.tdiv_eq_ediv_of_nonneg wg,bO wg wg];omega
theorem DX{α:Type}(x:Int)(a b:α):(if x=0 then a else b)=if(decide (x=0))=true then a else b:=by by_cases h:x=0;(rw[jF h,jF wM]);·rw[jG h,jG wM]
theorem YC:aJ=18446744073709551609+7:=rfl
theorem cT{α:Type}{f:α->Bool}{xs:List α}(h:¬gJ f xs<0):∃k:Nat,gJ f xs=(k:Int)/\k<xs.length:=by
 unfold gJ at h⊢
 cases e:xs.findIdx? f with
 |none=>rw[e]at h;simp at h
 |some i=>exact⟨i,rfl,(List.findIdx?_eq_some_iff_getElem.1 e).1⟩
theorem UB{b:Nat}{xs:List Int}{f:Int->Int}{L:Nat->Int->List Int->Option (List Int)}
  (h1:∀n (k:Nat) (hk:k<xs.length) r,L (n+1) (k:Int) r=(app b r [f xs[k]]).bind λ_=>L n ((k+1:Nat):Int) (r++[f xs[k]]))(h2:∀n r,L (n+1) (xs.length:Int) r=some r):
  ∀(n k:Nat) (r:List Int),xs.length-k<n->k<=xs.length->(r.length+(xs.length-k))*b<=140737488355328->L n (k:Int) r=some (r++(xs.drop k).map f)
 |0,k,r,C,_,_=>by omega
 |n+1,k,r,C,hk,j=>by
  rcases jS k xs.length with h|h
  ·have hle:(r.length+1)*b<=(r.length+(xs.length-k))*b:=qj b wg;rw[h1 n k h r,dK (by simp only[List.length_singleton];omega),qA,UB h1 h2 n (k+1) _ wg h (by rw[qE,List.length_singleton,show r.length+1+(xs.length-(k+1))=r.length+(xs.length-k)by omega];exact j),qX h,jJ,qT];rfl
  ·have:k=xs.length:=by omega
   subst this
   rw[h2];simp
def TR(x:Int):Int:=x%2147483647
theorem P7(x:Int):0<=TR x/\TR x<2147483647:=by unfold TR;omega
theorem JS{x:Int}(h:0<=x):Int.tmod x 2147483647=TR x:=Int.tmod_eq_emod_of_nonneg h
theorem tmod_neg{x:Int}(h:x<0):Int.tmod x 2147483647= - TR (-x):=by
 have e:x= -(-x):=by omega
 have h2:=Int.neg_tmod (-x) 2147483647
 rw[<-e]at h2
 rw[h2,JS wg]
def WK(v x:Int):Int:=Int.tmod (IntKind.i64.wrap ((IntKind.i64.wrap ((IntKind.i64.wrap (v*1000003))+TR x))+13)) 2147483647
theorem aDK{v:Int}(x:Int)(h:0<=v/\v<2147483647):0<=WK v x/\WK v x<2147483647:=by have:=P7 x;unfold WK;rw[bO (n:=v*1000003) wg wg,bO (n:=v*1000003+TR x) wg wg,bO wg wg,JS wg];exact P7 _
def J0(l:List Int):Int:=l.foldl WK 11
theorem Um(l:List Int):0<=J0 l/\J0 l<2147483647:=by
 have key:∀(l:List Int) (v:Int),0<=v/\v<2147483647->0<=l.foldl WK v/\l.foldl WK v<2147483647:=by
  intro l
  induction l with
  |nil=>intro v h;exact h
  |cons x l j=>intro v h;exact j _ (aDK x h)
 exact key l 11 wg
theorem Z4(x:Int):Int.tmod (IntKind.i64.wrap ((Int.tmod x 2147483647)+2147483647)) 2147483647=TR x:=by by_cases h:0<=x;(have:=P7 x;rw[JS h,bO wg wg,JS wg];unfold TR;omega);·have:=P7 (-x);rw[tmod_neg (x:=x) wg,bO wg wg,JS wg];unfold TR;omega
theorem aBK(x:Int):(if(decide ((Int.tmod x 2147483647)<0))=true then some (IntKind.i64.wrap ((Int.tmod x 2147483647)+2147483647))else some (Int.tmod x 2147483647))=some (TR x):=by by_cases h:0<=x;(have:=P7 x;rw[JS h,jG wV]);·have:=P7 (-x);rw[tmod_neg (x:=x) wg];by_cases h2:TR (-x)=0;(rw[h2];unfold TR at h2⊢;rw[jG wb];congr 1;omega);·rw[jF wV,bO wg wg];unfold TR at*;congr 1;omega
theorem aCq{x:Int}{e:Nat}(j:0<=x)(h1:x<2147483647):IntKind.u8.wrap (IntKind.i64.wrap ((BitVec.ofInt (IntKind.i64.bits) (Int.fdiv x (2^e))&&&BitVec.ofInt (IntKind.i64.bits) 255).toNat:Int))=IntKind.u8.wrap (Int.fdiv x (2^e)):=by
 obtain⟨n,rfl⟩:=jV j
 have e2:Int.fdiv (n:Int) (2^e)=((n/2^e:Nat):Int):=by rw[Int.fdiv_eq_ediv_of_nonneg _ jq];simp
 have hle:n/2^e<=n:=Nat.div_le_self _ _
 have:=NZ (n:=n/2^e) (m:=255) wg wg
 rw[e2]
 have e3:((255:Nat):Int)=255:=rfl
 rw[e3]at this
 rw[this,aBb,wrap_u8,wrap_u8]
 omega
open Go.RowKit
theorem UP {P : Program} {f : FuncId} {fn : Func} {c : Code} {a b : ByteArray} {r : Int} (hf : P.funcs[f]? = some fn) (hb : fn.body = some c) (hn : (fn.name == "runtime.NumGoroutine") = false)
  (h : ∀w,Calls P f #[.string a,.string b] w λe w'=>e = .returned (.int .i64 r)/\w'=w):lE P f [(false,[.str a]),(false,[.str b])] [(false,[.ro (.int .i64 r)])]:=by
 refine .inl ⟨⟨fn,c,hf,hb,hn⟩,λw vs Fa ha => ?_⟩
 have e:vs = #[.string a,.string b]:=by
  obtain ⟨l⟩:=vs
  match l,ha with
  | [x,y],⟨_,_,_,h1,_,_,_,h2,_⟩ =>
   simp [Vs,Rep] at h1 h2
   simp [h1,h2]
 subst e
 refine (h w).mono λe w' hh => ?_
 obtain ⟨rfl,rfl⟩:=hh
 exact ⟨_,rfl,⟨[],λ_=>False,⟨jb,wb⟩,λ_ h=>h.elim,λ_=>rfl,by simp [U7,Pb,tX,Rep]⟩,Below.refl _ _⟩
end Go.Sh
namespace Go.Sh
theorem OW:∀(a:List UInt8),Op.bytesLess a a=false
 |[]=>rfl
 |x::a=>by
  have e:Op.bytesLess (x::a) (x::a)=(decide (x<x)||((x==x)&&Op.bytesLess a a)):=rfl
  rw[e,OW a]
  have:¬x<x:=by rw[je];omega
  simp[this]
theorem IG:∀(a b:List UInt8),Lib.compareBytes a b=if Op.bytesLess a b=true then -1 else if(a==b)=true then 0 else 1
 |[],[]=>rfl
 |[],_::_=>rfl
 |_::_,[]=>rfl
 |x::a,y::b=>by
  have e1:Op.bytesLess (x::a) (y::b)=(decide (x<y)||((x==y)&&Op.bytesLess a b)):=rfl
  have e2:((x::a)==(y::b))=((x==y)&&(a==b)):=rfl
  rw[Lib.compareBytes,IG a b,e1,e2]
  by_cases h:x<y
  ·simp[h]
  ·by_cases h2:y<x
   ·have h3:¬x=y:=by intro e;subst e;exact h h2
    simp[h,h2,h3]
   ·have h3:x=y:=by
     rw[je]at h h2
     exact UInt8.toNat_inj.1 wg
    subst h3
    simp[h]
