/-
  Helper text. No conditions.
-/
import Derived.Test.YtndidbigdalbnaaGreatNotesShQ
import Derived.KernelRfl
import Derived.Laws.CopyRow
import Derived.Lib.Walk
import Derived.WalkKit
import Derived.Lib.AppendZerosOnto
import Derived.Lib.Overlaps
import Derived.Lib.SliceRun
import Derived.Laws.Externs
import Derived.Laws.OwnMore
import Derived.Shelf.RegionOpenPlain
import Derived.Lib.JoinLaws
set_option linter.all false
namespace Go.Sh
theorem aD4{α:Type}{l:List α}{i:Nat}{x:α}(h:l[i]? =some x):idx l (i:Int)=some x:=by unfold idx;rw[jF wg];simpa using h
theorem OA{α:Type}{c:α->Nat}{A:Nat}:∀{xs:List α},(∀x∈xs,c x<=A)->dO c xs<=A*xs.length
 |[],_=>by simp[dO]
 |x::xs,h=>by
  have h1:=h x wb
  have h2:=OA (xs:=xs) λy j=>h y (by simp[j])
  simp only[dO,qJ,Nat.mul_add]
  omega
theorem X8{α σ R:Type}{xs:List α}{step:σ->α->σ}{I:Nat->σ->Prop}{E:σ->Option R}{L:Nat->Int->σ->Option R}
  (C:∀s (k:Nat) (hk:k<xs.length),I k s->I (k+1) (step s xs[k]))
  (h1:∀n s (k:Nat) (hk:k<xs.length),I k s->L (n+1) (k:Int) s=L n ((k+1:Nat):Int) (step s xs[k]))(h2:∀n s,I xs.length s->L (n+1) (xs.length:Int) s=E s):
  ∀(n k:Nat) (s:σ),xs.length-k<n->k<=xs.length->I k s->L n (k:Int) s=E ((xs.drop k).foldl step s)/\I xs.length ((xs.drop k).foldl step s)
 |0,k,s,J,_,_=>by omega
 |n+1,k,s,J,hk,j=>by
  rcases jS k xs.length with h|h
  ·have U:=X8 C h1 h2 n (k+1) _ wg h (C s k h j);rw[h1 n s k h j,qX h,List.foldl_cons];exact U
  ·have:k=xs.length:=by omega
   subst this
   rw[h2 n s j]
   simpa using j
theorem Qa{α σ R:Type}{xs:List α}{step:σ->α->σ}{I:Nat->σ->Prop}{E:σ->Option R}{L:Nat->Int->σ->Option R}(J:xs.length<=maxLen)
  (C:∀s (k:Nat) (hk:k<xs.length),I k s->I (k+1) (step s xs[k]))
  (h1:∀n s (k:Nat) (hk:k<xs.length),I k s->L (n+1) (k:Int) s=L n ((k+1:Nat):Int) (step s xs[k]))(h2:∀n s,I xs.length s->L (n+1) (xs.length:Int) s=E s)(s:σ)(j:I 0 s):
  L aJ 0 s=E (xs.foldl step s)/\I xs.length (xs.foldl step s):=by
 have U:=aZ J
 have:=X8 C h1 h2 aJ 0 s wG wg j
 simpa using this
theorem Pw{α R:Type}{xs:List α}{f:α->Bool}{b:Nat}{E:List α->Option R}{L:Nat->Int->List α->Option R}(J:xs.length<=maxLen)(hb:xs.length*b<=140737488355328)
  (h1:∀n (r:List α) (k:Nat) (hk:k<xs.length),L (n+1) (k:Int) r=if f xs[k]=true then(app b r [xs[k]]).bind λ_=>L n ((k+1:Nat):Int) (r++[xs[k]])else L n ((k+1:Nat):Int) r)(h2:∀n r,L (n+1) (xs.length:Int) r=E r):
  L aJ 0 []=E (xs.filter f):=by
 have key:=Qa (L:=λn k r=>L n k r) (step:=λr x=>if f x=true then r++[x]else r) (I:=λk r=>r.length<=k) (E:=E) J
  (λs k hk j=>by have C:s.length<=k:=j;split<;>(try simp only[qE,qJ,qK])<;>omega) (λn s k hk j=>by rw[h1 n s k hk];by_cases h:f xs[k]=true;(rw[jF h,jF h,dK,qA];simp only[qJ,qK];refine qh (qj b (show s.length+(0+1)<=xs.length by omega)) hb);·rw[jG h,jG h]) (λn s _=>h2 n s) [] wb
 have e:∀(l:List α) (r:List α),l.foldl (λr x=>if f x=true then r++[x]else r) r=r++l.filter f:=by
  intro l
  induction l with
  |nil=>intro r;simp
  |cons x l U=>
   intro r
   rw[List.foldl_cons,U,List.filter_cons]
   split<;>simp
 rw[key.1,e]
 simp
theorem CQ{α R:Type}{xs:List α}{b:Nat}{E:List α->Option R}{L:Nat->Int->List α->Option R}(j:xs.length<=1073741824)(hb:b<=65536)
  (h1:∀n (r:List α) (k:Nat) (hk:k<xs.length),L (n+1) (k:Int) r=(app b r [xs[k]]).bind λ_=>L n ((k+1:Nat):Int) (r++[xs[k]]))(h2:∀n r,L (n+1) (xs.length:Int) r=E r):
  L aJ 0 []=E xs:=by
 have:=Pw (xs:=xs) (f:=λ_=>true) (b:=b) (E:=E) (L:=L) wD (qh (Nat.mul_le_mul j hb) wg) (λn r k hk=>by rw[jF rfl];exact h1 n r k hk) h2
 rw[this,List.filter_eq_self.2 (λ_ _=>rfl)]
theorem Ip{α:Type}{b:Nat}{ys:List α}(h:ys.length<=1073741824)(hb:b<=65536):app b [] ys=some ys:=by rw[dK];(simp);·simp only[qK,qp];exact qh (Nat.mul_le_mul h hb) wg
def LW{α:Type}(b:Nat)(xs:List α)(i:Int)(ys:List α):Option (List α):=
 if 0<=i/\i.toNat<=xs.length/\0<ys.length/\(xs.length+ys.length)*b<=140737488355328 then some (xs.take i.toNat++(ys++xs.drop i.toNat))else none
theorem Md{α:Type}{b:Nat}{xs ys zs:List α}{i:Int}(h:LW b xs i ys=some zs):0<=i/\i.toNat<=xs.length/\0<ys.length/\(xs.length+ys.length)*b<=140737488355328:=by unfold LW at h;split at h;(assumption);·cases h
theorem NX{α:Type}{b:Nat}{xs ys:List α}{i:Int}(h:0<=i/\i.toNat<=xs.length/\0<ys.length/\(xs.length+ys.length)*b<=140737488355328):LW b xs i ys=some (xs.take i.toNat++(ys++xs.drop i.toNat)):=by unfold LW;rw[jF h]
def aD0{α:Type}(xs:List α)(i j:Int):Option (List α):=if 0<=i/\i<=j/\j.toNat<=xs.length then some (xs.take i.toNat++xs.drop j.toNat)else none
theorem My{α:Type}{xs zs:List α}{i j:Int}(h:aD0 xs i j=some zs):0<=i/\i<=j/\j.toNat<=xs.length:=by unfold aD0 at h;split at h;(assumption);·cases h
theorem Gn{α:Type}{xs z:List α}{i:Int}(h:BM xs i=some z):0<=i/\i.toNat<=xs.length:=by unfold BM at h;split at h;(assumption);·cases h
theorem vU{α:Type}{xs z:List α}{i:Int}(h:B6 xs i=some z):0<=i/\i.toNat<=xs.length:=by unfold B6 at h;split at h;(assumption);·cases h
theorem I4(k:IntKind)(n:Int):strOf [[.int k n]]=bL [n]:=rfl
section
variable {P:Program}{base N:Nat}{w0:W0}{Z:St->Prop}{k:List Fr}{s s':St}
theorem rn{id:Nat}{ops:Array Oper}(hk:aft P base w0 N Z k .normal s')(h:tQ P (fM P) N ops ops.toList s (Is s'):=by(simp +decide only[E,reduceIte,Nat.reduceAdd,Nat.reduceMul,Int.reduceEq,Int.reduceLT,qB,qC,L,TB,EN, *,-h];exact Is.mk _)):SW P base w0 N (.region id ops false) s (aft P base w0 N Z k):=AA (h) hk
theorem rd(hm:P.follows .mixedOrders=true){id:Nat}{ops:Array Oper}(hk:aft P base w0 N Z k .normal s')(h:EY P (fM P) N ops ops.toList s [] (λt fps=>PJ ops fps/\Is s' t):=by(simp +decide only[E,reduceIte,Nat.reduceAdd,Nat.reduceMul,Int.reduceEq,Int.reduceLT,qB,qC,L,TB,EN, *,-h];exact⟨.mk wL,Is.mk _⟩)):SW P base w0 N (.region id ops true) s (aft P base w0 N Z k):=Em hm (h) hk
theorem rn1{X1:Prop}{id:Nat}{ops:Array Oper}(c1:X1)(hk:aft P base w0 N Z k .normal s')(h:X1->tQ P (fM P) N ops ops.toList s (Is s'):=by(intro hc1;simp +decide only[E,reduceIte,Nat.reduceAdd,Nat.reduceMul,Int.reduceEq,Int.reduceLT,qB,qC,L,TB,EN, *,-h,-hc1];(try (first | refine⟨_,hc1,?_⟩| refine⟨hc1,?_⟩| refine⟨by(have hb:=fJ hc1);simp[EN,qE,aP]at hb ⊢ <;> omega,?_⟩| refine⟨by(have hb:=gF hc1);simp[EN,qE,aP]at hb ⊢ <;> omega,?_⟩| (simp only[jL,jJ,jK,EN]at hc1;refine⟨_,hc1,?_⟩)| (simp only[jL,jJ,jK,EN, *,-h]at hc1;refine⟨_,hc1,?_⟩)));(try simp +decide only[E,reduceIte,Nat.reduceAdd,Nat.reduceMul,Int.reduceEq,Int.reduceLT,qB,qC,L,TB,EN, *,-h,-hc1]);exact Is.mk _)):SW P base w0 N (.region id ops false) s (aft P base w0 N Z k):=AA (h c1) hk
theorem rd1(hm:P.follows .mixedOrders=true){X1:Prop}{id:Nat}{ops:Array Oper}(c1:X1)(hk:aft P base w0 N Z k .normal s')(h:X1->EY P (fM P) N ops ops.toList s [] (λt fps=>PJ ops fps/\Is s' t):=by(intro hc1;simp +decide only[E,reduceIte,Nat.reduceAdd,Nat.reduceMul,Int.reduceEq,Int.reduceLT,qB,qC,L,TB,EN, *,-h,-hc1];(try (first | refine⟨_,hc1,?_⟩| refine⟨hc1,?_⟩| refine⟨by(have hb:=fJ hc1);simp[EN,qE,aP]at hb ⊢ <;> omega,?_⟩| refine⟨by(have hb:=gF hc1);simp[EN,qE,aP]at hb ⊢ <;> omega,?_⟩| (simp only[jL,jJ,jK,EN]at hc1;refine⟨_,hc1,?_⟩)| (simp only[jL,jJ,jK,EN, *,-h]at hc1;refine⟨_,hc1,?_⟩)));(try simp +decide only[E,reduceIte,Nat.reduceAdd,Nat.reduceMul,Int.reduceEq,Int.reduceLT,qB,qC,L,TB,EN, *,-h,-hc1]);exact⟨.mk wL,Is.mk _⟩)):SW P base w0 N (.region id ops true) s (aft P base w0 N Z k):=Em hm (h c1) hk
theorem rn2{X1:Prop}{X2:Prop}{id:Nat}{ops:Array Oper}(c1:X1)(c2:X2)(hk:aft P base w0 N Z k .normal s')(h:X1->X2->tQ P (fM P) N ops ops.toList s (Is s'):=by(intro hc1 hc2;simp +decide only[E,reduceIte,Nat.reduceAdd,Nat.reduceMul,Int.reduceEq,Int.reduceLT,qB,qC,L,TB,EN, *,-h,-hc1,-hc2];(try (first | refine⟨_,hc1,?_⟩| refine⟨hc1,?_⟩| refine⟨by(have hb:=fJ hc1);simp[EN,qE,aP]at hb ⊢ <;> omega,?_⟩| refine⟨by(have hb:=gF hc1);simp[EN,qE,aP]at hb ⊢ <;> omega,?_⟩| (simp only[jL,jJ,jK,EN]at hc1;refine⟨_,hc1,?_⟩)| (simp only[jL,jJ,jK,EN, *,-h]at hc1;refine⟨_,hc1,?_⟩)));(try simp +decide only[E,reduceIte,Nat.reduceAdd,Nat.reduceMul,Int.reduceEq,Int.reduceLT,qB,qC,L,TB,EN, *,-h,-hc1,-hc2]);(try (first | refine⟨_,hc2,?_⟩| refine⟨hc2,?_⟩| refine⟨by(have hb:=fJ hc2);simp[EN,qE,aP]at hb ⊢ <;> omega,?_⟩| refine⟨by(have hb:=gF hc2);simp[EN,qE,aP]at hb ⊢ <;> omega,?_⟩| (simp only[jL,jJ,jK,EN]at hc2;refine⟨_,hc2,?_⟩)| (simp only[jL,jJ,jK,EN, *,-h]at hc2;refine⟨_,hc2,?_⟩)));(try simp +decide only[E,reduceIte,Nat.reduceAdd,Nat.reduceMul,Int.reduceEq,Int.reduceLT,qB,qC,L,TB,EN, *,-h,-hc1,-hc2]);exact Is.mk _)):SW P base w0 N (.region id ops false) s (aft P base w0 N Z k):=AA (h c1 c2) hk
theorem rd2(hm:P.follows .mixedOrders=true){X1:Prop}{X2:Prop}{id:Nat}{ops:Array Oper}(c1:X1)(c2:X2)(hk:aft P base w0 N Z k .normal s')(h:X1->X2->EY P (fM P) N ops ops.toList s [] (λt fps=>PJ ops fps/\Is s' t):=by(intro hc1 hc2;simp +decide only[E,reduceIte,Nat.reduceAdd,Nat.reduceMul,Int.reduceEq,Int.reduceLT,qB,qC,L,TB,EN, *,-h,-hc1,-hc2];(try (first | refine⟨_,hc1,?_⟩| refine⟨hc1,?_⟩| refine⟨by(have hb:=fJ hc1);simp[EN,qE,aP]at hb ⊢ <;> omega,?_⟩| refine⟨by(have hb:=gF hc1);simp[EN,qE,aP]at hb ⊢ <;> omega,?_⟩| (simp only[jL,jJ,jK,EN]at hc1;refine⟨_,hc1,?_⟩)| (simp only[jL,jJ,jK,EN, *,-h]at hc1;refine⟨_,hc1,?_⟩)));(try simp +decide only[E,reduceIte,Nat.reduceAdd,Nat.reduceMul,Int.reduceEq,Int.reduceLT,qB,qC,L,TB,EN, *,-h,-hc1,-hc2]);(try (first | refine⟨_,hc2,?_⟩| refine⟨hc2,?_⟩| refine⟨by(have hb:=fJ hc2);simp[EN,qE,aP]at hb ⊢ <;> omega,?_⟩| refine⟨by(have hb:=gF hc2);simp[EN,qE,aP]at hb ⊢ <;> omega,?_⟩| (simp only[jL,jJ,jK,EN]at hc2;refine⟨_,hc2,?_⟩)| (simp only[jL,jJ,jK,EN, *,-h]at hc2;refine⟨_,hc2,?_⟩)));(try simp +decide only[E,reduceIte,Nat.reduceAdd,Nat.reduceMul,Int.reduceEq,Int.reduceLT,qB,qC,L,TB,EN, *,-h,-hc1,-hc2]);exact⟨.mk wL,Is.mk _⟩)):SW P base w0 N (.region id ops true) s (aft P base w0 N Z k):=Em hm (h c1 c2) hk
theorem rn3{X1:Prop}{X2:Prop}{X3:Prop}{id:Nat}{ops:Array Oper}(c1:X1)(c2:X2)(c3:X3)(hk:aft P base w0 N Z k .normal s')(h:X1->X2->X3->tQ P (fM P) N ops ops.toList s (Is s'):=by(intro hc1 hc2 hc3;simp +decide only[E,reduceIte,Nat.reduceAdd,Nat.reduceMul,Int.reduceEq,Int.reduceLT,qB,qC,L,TB,EN, *,-h,-hc1,-hc2,-hc3];(try (first | refine⟨_,hc1,?_⟩| refine⟨hc1,?_⟩| refine⟨by(have hb:=fJ hc1);simp[EN,qE,aP]at hb ⊢ <;> omega,?_⟩| refine⟨by(have hb:=gF hc1);simp[EN,qE,aP]at hb ⊢ <;> omega,?_⟩| (simp only[jL,jJ,jK,EN]at hc1;refine⟨_,hc1,?_⟩)| (simp only[jL,jJ,jK,EN, *,-h]at hc1;refine⟨_,hc1,?_⟩)));(try simp +decide only[E,reduceIte,Nat.reduceAdd,Nat.reduceMul,Int.reduceEq,Int.reduceLT,qB,qC,L,TB,EN, *,-h,-hc1,-hc2,-hc3]);(try (first | refine⟨_,hc2,?_⟩| refine⟨hc2,?_⟩| refine⟨by(have hb:=fJ hc2);simp[EN,qE,aP]at hb ⊢ <;> omega,?_⟩| refine⟨by(have hb:=gF hc2);simp[EN,qE,aP]at hb ⊢ <;> omega,?_⟩| (simp only[jL,jJ,jK,EN]at hc2;refine⟨_,hc2,?_⟩)| (simp only[jL,jJ,jK,EN, *,-h]at hc2;refine⟨_,hc2,?_⟩)));(try simp +decide only[E,reduceIte,Nat.reduceAdd,Nat.reduceMul,Int.reduceEq,Int.reduceLT,qB,qC,L,TB,EN, *,-h,-hc1,-hc2,-hc3]);(try (first | refine⟨_,hc3,?_⟩| refine⟨hc3,?_⟩| refine⟨by(have hb:=fJ hc3);simp[EN,qE,aP]at hb ⊢ <;> omega,?_⟩| refine⟨by(have hb:=gF hc3);simp[EN,qE,aP]at hb ⊢ <;> omega,?_⟩| (simp only[jL,jJ,jK,EN]at hc3;refine⟨_,hc3,?_⟩)| (simp only[jL,jJ,jK,EN, *,-h]at hc3;refine⟨_,hc3,?_⟩)));(try simp +decide only[E,reduceIte,Nat.reduceAdd,Nat.reduceMul,Int.reduceEq,Int.reduceLT,qB,qC,L,TB,EN, *,-h,-hc1,-hc2,-hc3]);exact Is.mk _)):SW P base w0 N (.region id ops false) s (aft P base w0 N Z k):=AA (h c1 c2 c3) hk
theorem rd3(hm:P.follows .mixedOrders=true){X1:Prop}{X2:Prop}{X3:Prop}{id:Nat}{ops:Array Oper}(c1:X1)(c2:X2)(c3:X3)(hk:aft P base w0 N Z k .normal s')(h:X1->X2->X3->EY P (fM P) N ops ops.toList s [] (λt fps=>PJ ops fps/\Is s' t):=by(intro hc1 hc2 hc3;simp +decide only[E,reduceIte,Nat.reduceAdd,Nat.reduceMul,Int.reduceEq,Int.reduceLT,qB,qC,L,TB,EN, *,-h,-hc1,-hc2,-hc3];(try (first | refine⟨_,hc1,?_⟩| refine⟨hc1,?_⟩| refine⟨by(have hb:=fJ hc1);simp[EN,qE,aP]at hb ⊢ <;> omega,?_⟩| refine⟨by(have hb:=gF hc1);simp[EN,qE,aP]at hb ⊢ <;> omega,?_⟩| (simp only[jL,jJ,jK,EN]at hc1;refine⟨_,hc1,?_⟩)| (simp only[jL,jJ,jK,EN, *,-h]at hc1;refine⟨_,hc1,?_⟩)));(try simp +decide only[E,reduceIte,Nat.reduceAdd,Nat.reduceMul,Int.reduceEq,Int.reduceLT,qB,qC,L,TB,EN, *,-h,-hc1,-hc2,-hc3]);(try (first | refine⟨_,hc2,?_⟩| refine⟨hc2,?_⟩| refine⟨by(have hb:=fJ hc2);simp[EN,qE,aP]at hb ⊢ <;> omega,?_⟩| refine⟨by(have hb:=gF hc2);simp[EN,qE,aP]at hb ⊢ <;> omega,?_⟩| (simp only[jL,jJ,jK,EN]at hc2;refine⟨_,hc2,?_⟩)| (simp only[jL,jJ,jK,EN, *,-h]at hc2;refine⟨_,hc2,?_⟩)));(try simp +decide only[E,reduceIte,Nat.reduceAdd,Nat.reduceMul,Int.reduceEq,Int.reduceLT,qB,qC,L,TB,EN, *,-h,-hc1,-hc2,-hc3]);(try (first | refine⟨_,hc3,?_⟩| refine⟨hc3,?_⟩| refine⟨by(have hb:=fJ hc3);simp[EN,qE,aP]at hb ⊢ <;> omega,?_⟩| refine⟨by(have hb:=gF hc3);simp[EN,qE,aP]at hb ⊢ <;> omega,?_⟩| (simp only[jL,jJ,jK,EN]at hc3;refine⟨_,hc3,?_⟩)| (simp only[jL,jJ,jK,EN, *,-h]at hc3;refine⟨_,hc3,?_⟩)));(try simp +decide only[E,reduceIte,Nat.reduceAdd,Nat.reduceMul,Int.reduceEq,Int.reduceLT,qB,qC,L,TB,EN, *,-h,-hc1,-hc2,-hc3]);exact⟨.mk wL,Is.mk _⟩)):SW P base w0 N (.region id ops true) s (aft P base w0 N Z k):=Em hm (h c1 c2 c3) hk
theorem rn4{X1:Prop}{X2:Prop}{X3:Prop}{X4:Prop}{id:Nat}{ops:Array Oper}(c1:X1)(c2:X2)(c3:X3)(c4:X4)(hk:aft P base w0 N Z k .normal s')(h:X1->X2->X3->X4->tQ P (fM P) N ops ops.toList s (Is s'):=by(intro hc1 hc2 hc3 hc4;simp +decide only[E,reduceIte,Nat.reduceAdd,Nat.reduceMul,Int.reduceEq,Int.reduceLT,qB,qC,L,TB,EN, *,-h,-hc1,-hc2,-hc3,-hc4];(try (first | refine⟨_,hc1,?_⟩| refine⟨hc1,?_⟩| refine⟨by(have hb:=fJ hc1);simp[EN,qE,aP]at hb ⊢ <;> omega,?_⟩| refine⟨by(have hb:=gF hc1);simp[EN,qE,aP]at hb ⊢ <;> omega,?_⟩| (simp only[jL,jJ,jK,EN]at hc1;refine⟨_,hc1,?_⟩)| (simp only[jL,jJ,jK,EN, *,-h]at hc1;refine⟨_,hc1,?_⟩)));(try simp +decide only[E,reduceIte,Nat.reduceAdd,Nat.reduceMul,Int.reduceEq,Int.reduceLT,qB,qC,L,TB,EN, *,-h,-hc1,-hc2,-hc3,-hc4]);(try (first | refine⟨_,hc2,?_⟩| refine⟨hc2,?_⟩| refine⟨by(have hb:=fJ hc2);simp[EN,qE,aP]at hb ⊢ <;> omega,?_⟩| refine⟨by(have hb:=gF hc2);simp[EN,qE,aP]at hb ⊢ <;> omega,?_⟩| (simp only[jL,jJ,jK,EN]at hc2;refine⟨_,hc2,?_⟩)| (simp only[jL,jJ,jK,EN, *,-h]at hc2;refine⟨_,hc2,?_⟩)));(try simp +decide only[E,reduceIte,Nat.reduceAdd,Nat.reduceMul,Int.reduceEq,Int.reduceLT,qB,qC,L,TB,EN, *,-h,-hc1,-hc2,-hc3,-hc4]);(try (first | refine⟨_,hc3,?_⟩| refine⟨hc3,?_⟩| refine⟨by(have hb:=fJ hc3);simp[EN,qE,aP]at hb ⊢ <;> omega,?_⟩| refine⟨by(have hb:=gF hc3);simp[EN,qE,aP]at hb ⊢ <;> omega,?_⟩| (simp only[jL,jJ,jK,EN]at hc3;refine⟨_,hc3,?_⟩)| (simp only[jL,jJ,jK,EN, *,-h]at hc3;refine⟨_,hc3,?_⟩)));(try simp +decide only[E,reduceIte,Nat.reduceAdd,Nat.reduceMul,Int.reduceEq,Int.reduceLT,qB,qC,L,TB,EN, *,-h,-hc1,-hc2,-hc3,-hc4]);(try (first | refine⟨_,hc4,?_⟩| refine⟨hc4,?_⟩| refine⟨by(have hb:=fJ hc4);simp[EN,qE,aP]at hb ⊢ <;> omega,?_⟩| refine⟨by(have hb:=gF hc4);simp[EN,qE,aP]at hb ⊢ <;> omega,?_⟩| (simp only[jL,jJ,jK,EN]at hc4;refine⟨_,hc4,?_⟩)| (simp only[jL,jJ,jK,EN, *,-h]at hc4;refine⟨_,hc4,?_⟩)));(try simp +decide only[E,reduceIte,Nat.reduceAdd,Nat.reduceMul,Int.reduceEq,Int.reduceLT,qB,qC,L,TB,EN, *,-h,-hc1,-hc2,-hc3,-hc4]);exact Is.mk _)):SW P base w0 N (.region id ops false) s (aft P base w0 N Z k):=AA (h c1 c2 c3 c4) hk
theorem xn{id:Nat}{ops:Array Oper}(hk:aft P base w0 N Z k .normal s')(h:tQ P (fM P) N ops ops.toList s (Is s'):=by(simp +decide only[LN,LI,E,reduceIte,Nat.reduceAdd,Nat.reduceMul,Int.reduceEq,Int.reduceLT,qB,qC,L,TB,EN, *,-h];exact Is.mk _)):SW P base w0 N (.region id ops false) s (aft P base w0 N Z k):=AA (h) hk
theorem xd(hm:P.follows .mixedOrders=true){id:Nat}{ops:Array Oper}(hk:aft P base w0 N Z k .normal s')(h:EY P (fM P) N ops ops.toList s [] (λt fps=>PJ ops fps/\Is s' t):=by(simp +decide only[LN,LI,E,reduceIte,Nat.reduceAdd,Nat.reduceMul,Int.reduceEq,Int.reduceLT,qB,qC,L,TB,EN, *,-h];exact⟨.mk wL,Is.mk _⟩)):SW P base w0 N (.region id ops true) s (aft P base w0 N Z k):=Em hm (h) hk
theorem xn1{X1:Prop}{id:Nat}{ops:Array Oper}(c1:X1)(hk:aft P base w0 N Z k .normal s')(h:X1->tQ P (fM P) N ops ops.toList s (Is s'):=by(intro hc1;simp +decide only[LN,LI,E,reduceIte,Nat.reduceAdd,Nat.reduceMul,Int.reduceEq,Int.reduceLT,qB,qC,L,TB,EN, *,-h,-hc1];(try (first | refine⟨_,hc1,?_⟩| refine⟨hc1,?_⟩| refine⟨by(have hb:=fJ hc1);simp[EN,qE,aP]at hb ⊢ <;> omega,?_⟩| refine⟨by(have hb:=gF hc1);simp[EN,qE,aP]at hb ⊢ <;> omega,?_⟩| (simp only[jL,jJ,jK,EN]at hc1;refine⟨_,hc1,?_⟩)| (simp only[jL,jJ,jK,EN, *,-h]at hc1;refine⟨_,hc1,?_⟩)));(try simp +decide only[LN,LI,E,reduceIte,Nat.reduceAdd,Nat.reduceMul,Int.reduceEq,Int.reduceLT,qB,qC,L,TB,EN, *,-h,-hc1]);exact Is.mk _)):SW P base w0 N (.region id ops false) s (aft P base w0 N Z k):=AA (h c1) hk
theorem xd1(hm:P.follows .mixedOrders=true){X1:Prop}{id:Nat}{ops:Array Oper}(c1:X1)(hk:aft P base w0 N Z k .normal s')(h:X1->EY P (fM P) N ops ops.toList s [] (λt fps=>PJ ops fps/\Is s' t):=by(intro hc1;simp +decide only[LN,LI,E,reduceIte,Nat.reduceAdd,Nat.reduceMul,Int.reduceEq,Int.reduceLT,qB,qC,L,TB,EN, *,-h,-hc1];(try (first | refine⟨_,hc1,?_⟩| refine⟨hc1,?_⟩| refine⟨by(have hb:=fJ hc1);simp[EN,qE,aP]at hb ⊢ <;> omega,?_⟩| refine⟨by(have hb:=gF hc1);simp[EN,qE,aP]at hb ⊢ <;> omega,?_⟩| (simp only[jL,jJ,jK,EN]at hc1;refine⟨_,hc1,?_⟩)| (simp only[jL,jJ,jK,EN, *,-h]at hc1;refine⟨_,hc1,?_⟩)));(try simp +decide only[LN,LI,E,reduceIte,Nat.reduceAdd,Nat.reduceMul,Int.reduceEq,Int.reduceLT,qB,qC,L,TB,EN, *,-h,-hc1]);exact⟨.mk wL,Is.mk _⟩)):SW P base w0 N (.region id ops true) s (aft P base w0 N Z k):=Em hm (h c1) hk
theorem xn2{X1:Prop}{X2:Prop}{id:Nat}{ops:Array Oper}(c1:X1)(c2:X2)(hk:aft P base w0 N Z k .normal s')(h:X1->X2->tQ P (fM P) N ops ops.toList s (Is s'):=by(intro hc1 hc2;simp +decide only[LN,LI,E,reduceIte,Nat.reduceAdd,Nat.reduceMul,Int.reduceEq,Int.reduceLT,qB,qC,L,TB,EN, *,-h,-hc1,-hc2];(try (first | refine⟨_,hc1,?_⟩| refine⟨hc1,?_⟩| refine⟨by(have hb:=fJ hc1);simp[EN,qE,aP]at hb ⊢ <;> omega,?_⟩| refine⟨by(have hb:=gF hc1);simp[EN,qE,aP]at hb ⊢ <;> omega,?_⟩| (simp only[jL,jJ,jK,EN]at hc1;refine⟨_,hc1,?_⟩)| (simp only[jL,jJ,jK,EN, *,-h]at hc1;refine⟨_,hc1,?_⟩)));(try simp +decide only[LN,LI,E,reduceIte,Nat.reduceAdd,Nat.reduceMul,Int.reduceEq,Int.reduceLT,qB,qC,L,TB,EN, *,-h,-hc1,-hc2]);(try (first | refine⟨_,hc2,?_⟩| refine⟨hc2,?_⟩| refine⟨by(have hb:=fJ hc2);simp[EN,qE,aP]at hb ⊢ <;> omega,?_⟩| refine⟨by(have hb:=gF hc2);simp[EN,qE,aP]at hb ⊢ <;> omega,?_⟩| (simp only[jL,jJ,jK,EN]at hc2;refine⟨_,hc2,?_⟩)| (simp only[jL,jJ,jK,EN, *,-h]at hc2;refine⟨_,hc2,?_⟩)));(try simp +decide only[LN,LI,E,reduceIte,Nat.reduceAdd,Nat.reduceMul,Int.reduceEq,Int.reduceLT,qB,qC,L,TB,EN, *,-h,-hc1,-hc2]);exact Is.mk _)):SW P base w0 N (.region id ops false) s (aft P base w0 N Z k):=AA (h c1 c2) hk
theorem Ts{P:Program}{T:Sb}{N:Nat}{ops:Array Oper}:∀(C j:List Oper) {s:St} {K:St->Prop},tQ P T N ops C s (λI=>tQ P T N ops j I K)->tQ P T N ops (C++j) s K
 |[],j,s,K,h=>h
 |o::C,j,s,K,h=>Jy _ (λI J=>Ts C j J) h
theorem T7{ops:Array Oper}{l:List Oper}{K:St->Prop}(h:tQ P (fM P) N ops l s (Is s'))(hk:K s'):tQ P (fM P) N ops l s K:=G6 l (λt j=>by have e:t=s':=j;subst e;exact hk) h
theorem ZM{ops:Array Oper}{l:List Oper}{K:St->Prop}(m:Nat)(h:tQ P (fM P) N ops (l.take m) s (Is s'))(hk:tQ P (fM P) N ops (l.drop m) s' K):tQ P (fM P) N ops l s K:=by have:=Ts (l.take m) (l.drop m) (G6 _ (K':=λt=>tQ P (fM P) N ops (l.drop m) t K) (λt j=>by have e:t=s':=j;subst e;exact hk) h);rwa [qo]at this
theorem rgo{id:Nat}{ops:Array Oper}(h:tQ P (fM P) N ops ops.toList s (λs'=>aft P base w0 N Z k .normal s')):SW P base w0 N (.region id ops false) s (aft P base w0 N Z k):=O1 h
theorem ec{ops:Array Oper}{l:List Oper}{K:St->Prop}(m:Nat)(hk:tQ P (fM P) N ops (l.drop m) s' K)(h:tQ P (fM P) N ops (l.take m) s (Is s'):=by(simp +decide only[E,reduceIte,Nat.reduceAdd,Nat.reduceMul,Int.reduceEq,Int.reduceLT,qB,qC,L,TB,EN, *,-h];exact Is.mk _)):tQ P (fM P) N ops l s K:=ZM m (h) hk
theorem ez{ops:Array Oper}{l:List Oper}{K:St->Prop}(hk:K s')(h:tQ P (fM P) N ops l s (Is s'):=by(simp +decide only[E,reduceIte,Nat.reduceAdd,Nat.reduceMul,Int.reduceEq,Int.reduceLT,qB,qC,L,TB,EN, *,-h];exact Is.mk _)):tQ P (fM P) N ops l s K:=T7 (h) hk
theorem ec1{X1:Prop}{ops:Array Oper}{l:List Oper}{K:St->Prop}(m:Nat)(c1:X1)(hk:tQ P (fM P) N ops (l.drop m) s' K)(h:X1->tQ P (fM P) N ops (l.take m) s (Is s'):=by(intro hc1;simp +decide only[E,reduceIte,Nat.reduceAdd,Nat.reduceMul,Int.reduceEq,Int.reduceLT,qB,qC,L,TB,EN, *,-h,-hc1];(try (first | refine⟨_,hc1,?_⟩| refine⟨hc1,?_⟩| refine⟨by(have hb:=fJ hc1);simp[EN,qE,aP]at hb ⊢ <;> omega,?_⟩| refine⟨by(have hb:=gF hc1);simp[EN,qE,aP]at hb ⊢ <;> omega,?_⟩| (simp only[jL,jJ,jK,EN]at hc1;refine⟨_,hc1,?_⟩)| (simp only[jL,jJ,jK,EN, *,-h]at hc1;refine⟨_,hc1,?_⟩)));(try simp +decide only[E,reduceIte,Nat.reduceAdd,Nat.reduceMul,Int.reduceEq,Int.reduceLT,qB,qC,L,TB,EN, *,-h,-hc1]);exact Is.mk _)):tQ P (fM P) N ops l s K:=ZM m (h c1) hk
theorem ez1{X1:Prop}{ops:Array Oper}{l:List Oper}{K:St->Prop}(c1:X1)(hk:K s')(h:X1->tQ P (fM P) N ops l s (Is s'):=by(intro hc1;simp +decide only[E,reduceIte,Nat.reduceAdd,Nat.reduceMul,Int.reduceEq,Int.reduceLT,qB,qC,L,TB,EN, *,-h,-hc1];(try (first | refine⟨_,hc1,?_⟩| refine⟨hc1,?_⟩| refine⟨by(have hb:=fJ hc1);simp[EN,qE,aP]at hb ⊢ <;> omega,?_⟩| refine⟨by(have hb:=gF hc1);simp[EN,qE,aP]at hb ⊢ <;> omega,?_⟩| (simp only[jL,jJ,jK,EN]at hc1;refine⟨_,hc1,?_⟩)| (simp only[jL,jJ,jK,EN, *,-h]at hc1;refine⟨_,hc1,?_⟩)));(try simp +decide only[E,reduceIte,Nat.reduceAdd,Nat.reduceMul,Int.reduceEq,Int.reduceLT,qB,qC,L,TB,EN, *,-h,-hc1]);exact Is.mk _)):tQ P (fM P) N ops l s K:=T7 (h c1) hk
theorem ec2{X1:Prop}{X2:Prop}{ops:Array Oper}{l:List Oper}{K:St->Prop}(m:Nat)(c1:X1)(c2:X2)(hk:tQ P (fM P) N ops (l.drop m) s' K)(h:X1->X2->tQ P (fM P) N ops (l.take m) s (Is s'):=by(intro hc1 hc2;simp +decide only[E,reduceIte,Nat.reduceAdd,Nat.reduceMul,Int.reduceEq,Int.reduceLT,qB,qC,L,TB,EN, *,-h,-hc1,-hc2];(try (first | refine⟨_,hc1,?_⟩| refine⟨hc1,?_⟩| refine⟨by(have hb:=fJ hc1);simp[EN,qE,aP]at hb ⊢ <;> omega,?_⟩| refine⟨by(have hb:=gF hc1);simp[EN,qE,aP]at hb ⊢ <;> omega,?_⟩| (simp only[jL,jJ,jK,EN]at hc1;refine⟨_,hc1,?_⟩)| (simp only[jL,jJ,jK,EN, *,-h]at hc1;refine⟨_,hc1,?_⟩)));(try simp +decide only[E,reduceIte,Nat.reduceAdd,Nat.reduceMul,Int.reduceEq,Int.reduceLT,qB,qC,L,TB,EN, *,-h,-hc1,-hc2]);(try (first | refine⟨_,hc2,?_⟩| refine⟨hc2,?_⟩| refine⟨by(have hb:=fJ hc2);simp[EN,qE,aP]at hb ⊢ <;> omega,?_⟩| refine⟨by(have hb:=gF hc2);simp[EN,qE,aP]at hb ⊢ <;> omega,?_⟩| (simp only[jL,jJ,jK,EN]at hc2;refine⟨_,hc2,?_⟩)| (simp only[jL,jJ,jK,EN, *,-h]at hc2;refine⟨_,hc2,?_⟩)));(try simp +decide only[E,reduceIte,Nat.reduceAdd,Nat.reduceMul,Int.reduceEq,Int.reduceLT,qB,qC,L,TB,EN, *,-h,-hc1,-hc2]);exact Is.mk _)):tQ P (fM P) N ops l s K:=ZM m (h c1 c2) hk
theorem ez2{X1:Prop}{X2:Prop}{ops:Array Oper}{l:List Oper}{K:St->Prop}(c1:X1)(c2:X2)(hk:K s')(h:X1->X2->tQ P (fM P) N ops l s (Is s'):=by(intro hc1 hc2;simp +decide only[E,reduceIte,Nat.reduceAdd,Nat.reduceMul,Int.reduceEq,Int.reduceLT,qB,qC,L,TB,EN, *,-h,-hc1,-hc2];(try (first | refine⟨_,hc1,?_⟩| refine⟨hc1,?_⟩| refine⟨by(have hb:=fJ hc1);simp[EN,qE,aP]at hb ⊢ <;> omega,?_⟩| refine⟨by(have hb:=gF hc1);simp[EN,qE,aP]at hb ⊢ <;> omega,?_⟩| (simp only[jL,jJ,jK,EN]at hc1;refine⟨_,hc1,?_⟩)| (simp only[jL,jJ,jK,EN, *,-h]at hc1;refine⟨_,hc1,?_⟩)));(try simp +decide only[E,reduceIte,Nat.reduceAdd,Nat.reduceMul,Int.reduceEq,Int.reduceLT,qB,qC,L,TB,EN, *,-h,-hc1,-hc2]);(try (first | refine⟨_,hc2,?_⟩| refine⟨hc2,?_⟩| refine⟨by(have hb:=fJ hc2);simp[EN,qE,aP]at hb ⊢ <;> omega,?_⟩| refine⟨by(have hb:=gF hc2);simp[EN,qE,aP]at hb ⊢ <;> omega,?_⟩| (simp only[jL,jJ,jK,EN]at hc2;refine⟨_,hc2,?_⟩)| (simp only[jL,jJ,jK,EN, *,-h]at hc2;refine⟨_,hc2,?_⟩)));(try simp +decide only[E,reduceIte,Nat.reduceAdd,Nat.reduceMul,Int.reduceEq,Int.reduceLT,qB,qC,L,TB,EN, *,-h,-hc1,-hc2]);exact Is.mk _)):tQ P (fM P) N ops l s K:=T7 (h c1 c2) hk
theorem ct{t:Nat}{x y:Code}(h0:SW P base w0 N x s (aft P base w0 N Z k))(hb:s.t t = .v false [.dat (.bool true)]:=by(simp +decide only[F,reduceIte,Nat.reduceAdd,qB,qC,EN, *,-h])):SW P base w0 N (.cond (.tmp t) x y) s (aft P base w0 N Z k):=yL hb h0
theorem cf{t:Nat}{x y:Code}(h0:SW P base w0 N y s (aft P base w0 N Z k))(hb:s.t t = .v false [.dat (.bool false)]:=by(simp +decide only[F,reduceIte,Nat.reduceAdd,qB,qC,EN, *,-h])):SW P base w0 N (.cond (.tmp t) x y) s (aft P base w0 N Z k):=Ay hb h0
theorem cu{c:Code}{Q:Exit->St->Prop}(J:St->Prop)(h0 : ∀s,J s->SW P base w0 N c s Q)(hj:J s:=by((repeat' (with_reducible refine⟨?_,?_⟩))<;>(first | trivial | (simp +decide only[F,reduceIte,Nat.reduceAdd,qB,qC,EN, *,-h])))):SW P base w0 N c s Q:=h0 s hj
theorem zM{p:Prop}(h:p:=by((repeat' (with_reducible refine And.intro ?_ ?_))<;>(first | trivial | (with_reducible exact h)| (simp +decide only[F,reduceIte,Nat.reduceAdd,qB,qC,EN, *,-h];done)| (simp +decide only[LN,LI,F,reduceIte,Nat.reduceAdd,qB,qC,EN, *,-h];done)| (simp +decide only[F,reduceIte,Nat.reduceAdd,qB,qC,EN, *,-h];rfl)| (simp +decide only[LN,LI,F,reduceIte,Nat.reduceAdd,qB,qC,EN, *,-h];rfl)| rfl))):p:=h
theorem zR{p:Prop}(h:p:=by(cases h;simp[Ret,TB,EN, *])):p:=h
theorem nmT(a:SV):∃v,v=a:=⟨a,rfl⟩
theorem nmH(a:Nat×E7):∃v,v=a:=⟨a,rfl⟩
theorem ghB(b c K j:Nat){vb vj:Nat}{t:TypeId}{cells:List SC}{e:TypeId}{sz:Nat}{xs:List (List D)}{dp:Bool}(h0:s.h b=(vb,.box t cells):=by(simp +decide only[F,reduceIte,Nat.reduceAdd,qB,qC,EN, *,-h];rfl))(h1:cells[c]? = some (.row j vj):=by rfl)(h2:s.h j=(vj,.row e sz xs dp):=by(simp +decide only[F,reduceIte,Nat.reduceAdd,qB,qC,EN, *,-h];rfl))(hk:b≠K:=by decide):Gho P base w0 N s (((s.fL j (vj,.none)).fL K ((s.h K).1+1,.row e sz xs dp)).fL b (vb,.box t (cells.set c (.row K ((s.h K).1+1))))):=Gho.aBM h0 h1 h2 hk
theorem ghT(i K j:Nat){vj:Nat}{e:TypeId}{sz:Nat}{xs:List (List D)}{dp:Bool}(h1:s.t i = .v false [.row j vj]:=by(simp +decide only[F,reduceIte,Nat.reduceAdd,qB,qC,EN, *,-h];rfl))(h2:s.h j=(vj,.row e sz xs dp):=by(simp +decide only[F,reduceIte,Nat.reduceAdd,qB,qC,EN, *,-h];rfl)):Gho P base w0 N s (((s.fL j (vj,.none)).fL K ((s.h K).1+1,.row e sz xs dp)).Ix i (.v false [.row K ((s.h K).1+1)])):=Gho.aDv h1 h2
end
section
end
open Go Go.RowKit Go.Lib
theorem JD{P:Program}(w:World)(dT sT ty elem:TypeId)(I:TypeInfo)(g o dLen dCap:Nat)(a:Addr)(sLen sCap:Nat)(cur:Array Value)(t:TypeId)(cs:List Value)
  (hu:P.underlying dT=some (.slice elem))(hs:P.info? elem=some I)(J:w.heap[g]? =some (.cells cur t (0,0)))(hn:cs.length=Nat.min sLen dLen*I.size)
  (hsrc:∀j v,cs[j]? =some v->w.cell? (a.add j)=some v)(hfit:o+cs.length<=cur.size)(h1:∀v∈cs,v.oneCell'=true):
  (Builtin.copy_ #[dT,sT] ty #[.slice (some ⟨g,o,none⟩) dLen dCap,.slice (some a) sLen sCap]).run P w=
   .ok (goInt (Nat.min sLen dLen)) (w.setRow g (cur.toList.take o++cs++cur.toList.drop (o+cs.length)).toArray):=by
 have U:=run_loadCells_list (P:=P) w a cs hsrc
 have C:=run_storeCells_at P g o t cs 0 cur w J (by simpa using hfit) h1
 simp[Builtin.copy_,run_underlying hu,Builtin.lenOf,Builtin.firstCells,sizeOf,typeInfo,hs,<-hn,U,C]
theorem SQ{P:Program}(w:World){o:Oper}{a:Act}{K:Act->World->Prop}{Q:Exit->Act->World->Prop}(d s:Operand)(t t':TypeId)
  (ho:o.op=.call { callee:=.builtin .copy,args:= #[d,s],argTypes:= #[t,t'] })(v u:Value)(hd:a.eval d=v)(hs:a.eval s=u){v':Value}{w':World}
  (hr:(Builtin.copy_ #[t,t'] o.type #[v,u]).run P w=.ok v' w')(h:K (a.put o.dst v') w'):o.wp P a w K Q:=by
 unfold Oper.wp execOp
 simp only[ho,resolve,invoke,builtin,qs,qu,qi,List.map_toArray,jJ,jK,hd,hs,hr]
 exact h
theorem H8{P:Program}(w:World){ops:Array Oper}{rest:List Oper}{o:Oper}{a:Act}{Q:Exit->Act->World->Prop}(hgd:o.guard=none)(d s:Operand)(t t':TypeId)
  (ho:o.op=.call { callee:=.builtin .copy,args:= #[d,s],argTypes:= #[t,t'] })(v u:Value)(hd:a.eval d=v)(hs:a.eval s=u){v':Value}{w':World}
  (hr:(Builtin.copy_ #[t,t'] o.type #[v,u]).run P w=.ok v' w')(h:wpList P ops Q rest (a.put o.dst v') w'):wpList P ops Q (o::rest) a w:=
 wpList_plain hgd λ_ hK=>SQ w d s t t' ho v u hd hs hr (hK _ _ h)
theorem J5{P:Program}{ops:Array Oper}{o:Oper}{a:Act}{w:World}{K:Act->World->Prop}{Q:Exit->Act->World->Prop}{E:Prop}
  (hg:o.guard=none)(d x:Operand)(dT sT:TypeId)(hop:o.op=Op.call { callee:=Callee.builtin Builtin.copy,args:= #[d,x],argTypes:= #[dT,sT] })
  (v u:Value)(hd:a.eval d=v)(hx:a.eval x=u){v':Value}{w':World}(hr:(Builtin.copy_ #[dT,sT] o.type #[v,u]).run P w=.ok v' w')(hK:K (a.put o.dst v') w'):
  if Region.wanted o (yielded ops a.tmps)=true then Oper.wp P o a w K Q else E:=by
 have hw:Region.wanted o (yielded ops a.tmps)=true:=by simp[Region.wanted,hg]
 rw[jF hw]
 unfold Oper.wp
 simp[execOp,hop,resolve,invoke,builtin,hd,hx,hr,Result.andThen]
 exact hK
theorem aAh{cur:List Value}{cs vs:List Value}{n m c i sz:Nat}(hi:i<n)(hroom:n+m<=c)(C:cs.length=n*sz)(I:vs.length=m*sz)(hcur:cur.length=c*sz)(htk:cur.take (n*sz)=cs){j J:Array Value}
  (h1:j=(cur.take ((i+m)*sz)++cs.drop (i*sz)++cur.drop ((i+m)*sz+(cs.drop (i*sz)).length)).toArray)
  (h2:J=(j.toList.take (i*sz)++vs++j.toList.drop (i*sz+vs.length)).toArray):
  j.size=c*sz/\J.size=c*sz/\J.toList.take ((n+m)*sz)=cs.take (i*sz)++(vs++cs.drop (i*sz)):=by
 have e1:i*sz<=n*sz:=qj _ wg
 have e2:(i+m)*sz=i*sz+m*sz:=Nat.add_mul _ _ _
 have e3:(n+m)*sz=n*sz+m*sz:=Nat.add_mul _ _ _
 have e4:(n+m)*sz<=c*sz:=qj _ hroom
 have U:(cs.drop (i*sz)).length=n*sz-i*sz:=by rw[qW,C]
 have s1:j.size=c*sz:=by rw[h1];simp only[jZ,qE,qV,qW,hcur,C];omega
 have s2:J.size=c*sz:=by rw[h2];simp only[jZ,qE,qV,qW,qn,s1,I];omega
 refine⟨s1,s2,?_⟩
 have l1:(cur.take ((i+m)*sz)).length=(i+m)*sz:=by rw[qV,hcur];omega
 have p1:j.toList.take (i*sz)=cs.take (i*sz):=by rw[h1];simp only[qT];rw[jX (by rw[l1];omega),List.take_take,<-htk,List.take_take];congr 1;omega
 have p2:j.toList.drop (i*sz+vs.length)=cs.drop (i*sz)++cur.drop ((i+m)*sz+(cs.drop (i*sz)).length):=by rw[h1];simp only[qT];rw[I,<-e2];exact List.drop_left' l1
 rw[h2,p1,p2]
 simp only[qT]
 have l2:(cs.take (i*sz)++(vs++cs.drop (i*sz))).length=(n+m)*sz:=by simp only[qE,qV,U,I,C];omega
 rw[<-qT vs,<-qT (cs.take (i*sz)),<-l2,List.take_left]
set_option maxRecDepth 20000
def aAK(P:Program)(ts C I k j:Nat):Prop:=P.underlying ts=some (.slice C)/\P.underlying I=some (.int .i64)/\∃z i,P.info? C=some i/\i.zero=some z/\i.size=k/\i.bytes=j/\z.cells.size=k
set_option maxHeartbeats 16000000 in
theorem aC5{P:Program}{ts J ti k by0:Nat}(hT:aAK P ts J ti k by0)(hk:0<k)(b n c i vb m vc:Nat)(cs vs:List Value)(cur:Array Value)(w:World)(hi:i<n)(hm:0<m)(hroom:n+m<=c)(hc63:c<=9223372036854775807)(hvb:vb≠b)
  (hcl:cs.length=n*k)(hvl:vs.length=m*k)(hb:w.heap[b]? =some (.cells cur J (0,0)))(hcur:cur.size=c*k)(htk:cur.toList.take (n*k)=cs)(vcur:Array Value)(hv:w.heap[vb]? =some (.cells vcur J (0,0)))(hvtk:vcur.toList.take (m*k)=vs)
  (h1c:∀v∈cs,v.oneCell'=true)(h1v:∀v∈vs,v.oneCell'=true):∃C I,(∀ty U sc,(Builtin.copy_ #[ts,ts] ty #[.slice (some ⟨b,(i+m)*k,none⟩) (n+m-(i+m)) U,.slice (some ⟨b,i*k,none⟩) (n+m-i) sc]).run P w.drew=.ok (goInt (Nat.min (n+m-i) (n+m-(i+m)))) (w.drew.setRow b C))/\(∀ty U,(Builtin.copy_ #[ts,ts] ty #[.slice (some ⟨b,i*k,none⟩) (n+m-i) U,.slice (some ⟨vb,0,none⟩) m vc]).run P (w.drew.setRow b C)=.ok (goInt (Nat.min m (n+m-i))) ((w.drew.setRow b C).setRow b I))/\(∃A,A.toList.take ((n+m)*k)=cs.take (i*k)++(vs++cs.drop (i*k))/\A.size=c*k/\((w.drew.setRow b C).setRow b I).heap[b]? =some (.cells A J (0,0))/\w.grownBy ((w.drew.setRow b C).setRow b I) (some b)):=by
 have f1:=Nat.add_mul i m k
 have f2:=Nat.add_mul n m k
 have f3:=Nat.sub_mul n i k
 have f4:=qj k (Nat.le_of_lt hi)
 have f5:=qj k hroom
 obtain⟨u79,u3,ze,ie,hie,hze,hsz,hby,hzz⟩:=hT
 have hdl:(cs.drop (i*k)).length=(n-i)*k:=by rw[qW,hcl];omega
 obtain⟨C,hA1⟩:∃C,C=(cur.toList.take ((i+m)*k)++cs.drop (i*k)++cur.toList.drop ((i+m)*k+(cs.drop (i*k)).length)).toArray:=⟨_,rfl⟩
 have hcp1:∀ty U sc,(Builtin.copy_ #[ts,ts] ty #[.slice (some ⟨b,(i+m)*k,none⟩) (n+m-(i+m)) U,.slice (some ⟨b,i*k,none⟩) (n+m-i) sc]).run P w.drew=.ok (goInt (Nat.min (n+m-i) (n+m-(i+m)))) (w.drew.setRow b C):=λty U sc=>by
  rw[hA1]
  exact JD w.drew ts ts ty J ie b ((i+m)*k) (n+m-(i+m)) U ⟨b,i*k,none⟩ (n+m-i) sc cur J (cs.drop (i*k)) u79 hie hb (by rw[hdl,hsz];congr 1;simp only[Nat.min_def];split<;>omega)
   (λj v hj=>by
    rw[Addr.add_lit]
    have hj':cs[i*k+j]? =some v:=by rwa [List.getElem?_drop]at hj
    have:cur.toList[i*k+j]? =some v:=by rw[<-htk,List.getElem?_take]at hj';split at hj';(exact hj');·cases hj'
    show w.cell? _=_
    simp[World.cell?,hb]
    simpa using this) (by rw[hdl];omega) (λv hv=>h1c v (qv hv))
 obtain⟨I,hA2⟩:∃I,I=(C.toList.take (i*k)++vs++C.toList.drop (i*k+vs.length)).toArray:=⟨_,rfl⟩
 obtain⟨s1,s2,s3⟩:=aAh (cur:=cur.toList) (n:=n) (m:=m) (c:=c) hi hroom hcl hvl (by simpa using hcur) htk hA1 hA2
 have hbw:b<w.heap.size:=(qm.1 hb).1
 have hbA:(w.drew.setRow b C).heap[b]? =some (.cells C J (0,0)):=setRow_heap w.drew b cur C J _ hb
 have hbA2:((w.drew.setRow b C).drew.setRow b I).heap[b]? =some (.cells I J (0,0)):=setRow_heap _ b C I J _ hbA
 have hcp2:∀ty U,(Builtin.copy_ #[ts,ts] ty #[.slice (some ⟨b,i*k,none⟩) (n+m-i) U,.slice (some ⟨vb,0,none⟩) m vc]).run P (w.drew.setRow b C)=.ok (goInt (Nat.min m (n+m-i))) ((w.drew.setRow b C).setRow b I):=λty U=>by
  rw[hA2]
  exact JD _ ts ts ty J ie b (i*k) (n+m-i) U ⟨vb,0,none⟩ m vc C J vs u79 hie hbA (by rw[hvl,hsz];congr 1;simp only[Nat.min_def];split<;>omega)
   (λj v hj=>by
    rw[Addr.add_lit]
    have:vcur.toList[j]? =some v:=by rw[<-hvtk,List.getElem?_take]at hj;split at hj;(exact hj);·cases hj
    have hv':(w.drew.setRow b C).heap[vb]? =some (.cells vcur J (0,0)):=(setRow_other w.drew b vb C hvb).trans hv
    simp only[World.cell?,hv',qp]
    simpa using this) (by rw[hvl,s1];omega) h1v
 have hfin:∃A,A.toList.take ((n+m)*k)=cs.take (i*k)++(vs++cs.drop (i*k))/\A.size=c*k/\((w.drew.setRow b C).setRow b I).heap[b]? =some (.cells A J (0,0))/\w.grownBy ((w.drew.setRow b C).setRow b I) (some b):=
  ⟨I,s3,s2,hbA2,⟨rfl,rfl,rfl,by simp[World.setRow],λk _ hk=>(setRow_other _ b k I (λe=>hk (by rw[e]))).trans (setRow_other _ b k C (λe=>hk (by rw[e])))⟩⟩
 exact⟨C,I,hcp1,hcp2,hfin⟩
set_option maxHeartbeats 16000000 in
theorem aCS{P:Program}{ts U ti k by0:Nat}(hT:aAK P ts U ti k by0)(hk:0<k)(hy0:0<by0)(b n c i vb m vc:Nat)(cs vs:List Value)(cur:Array Value)(w:World)(hi:i<n)(hm:0<m)(hnc:n<=c)(hroom:c<n+m)(hbig:(n+m)*by0<=140737488355328)(hc63:c<=9223372036854775807)
  (hcl:cs.length=n*k)(hvl:vs.length=m*k)(hb:w.heap[b]? =some (.cells cur U (0,0)))(htk:cur.toList.take (n*k)=cs)(vcur:Array Value)(hv:w.heap[vb]? =some (.cells vcur U (0,0)))(hvtk:vcur.toList.take (m*k)=vs)
  (h1c:∀v∈cs,v.oneCell'=true)(h1v:∀v∈vs,v.oneCell'=true):∃G C I A2,n+m<=G/\G<=maxLen/\(∀ty,(Builtin.append_ #[ts,ti] ty #[.slice (some ⟨b,0,none⟩) i c,.int .i64 ((n:Int)+(m:Int)-(i:Int))]).run P w=.ok (.slice (some ⟨w.heap.size,0,none⟩) (n+m) G) C)/\(∀ty dc,(Builtin.copy_ #[ts,ts] ty #[.slice (some ⟨w.heap.size,i*k,none⟩) (n+m-i) dc,.slice (some ⟨vb,0,none⟩) m vc]).run P C=.ok (goInt (Nat.min m (n+m-i))) (C.setRow w.heap.size I))/\(∀ty dc sc,(Builtin.copy_ #[ts,ts] ty #[.slice (some ⟨w.heap.size,(i+m)*k,none⟩) (n+m-(i+m)) dc,.slice (some ⟨b,i*k,none⟩) (n-i) sc]).run P (C.setRow w.heap.size I).drew=.ok (goInt (Nat.min (n-i) (n+m-(i+m)))) ((C.setRow w.heap.size I).drew.setRow w.heap.size A2))/\(∃A,A.toList.take ((n+m)*k)=cs.take (i*k)++(vs++cs.drop (i*k))/\n+m<=G/\G<=maxLen/\A.size=G*k/\((C.setRow w.heap.size I).drew.setRow w.heap.size A2).heap[w.heap.size]? =some (.cells A U (0,0))/\w.grownBy ((C.setRow w.heap.size I).drew.setRow w.heap.size A2) none):=by
 have f1:=Nat.add_mul i m k
 have f2:=Nat.add_mul n m k
 have f3:=Nat.sub_mul n i k
 have f4:=qj k (Nat.le_of_lt hi)
 have f5:=qj k hnc
 have f6:n+m<=140737488355328:=qh (Nat.le_mul_of_pos_right _ hy0) hbig
 have f7:=qj by0 (Nat.sub_le (n+m) i)
 have f8:=Nat.sub_mul (n+m) i k
 have f9:=qj k (show i<=n+m by omega)
 obtain⟨u79,u3,ze,ie,hie,hze,hsz,hby,hzz⟩:=hT
 have hbw:b<w.heap.size:=(qm.1 hb).1
 have hvw:vb<w.heap.size:=(qm.1 hv).1
 have hkk:(n:Int)+(m:Int)-(i:Int)=((n+m-i:Nat):Int):=by omega
 have hik:i+(n+m-i)=n+m:=by omega
 have hcell:∀j v,cs[j]? =some v->w.cell? ⟨b,j,none⟩=some v:=λj v hj=>by rw[<-htk,List.getElem?_take]at hj;split at hj;(simp only[World.cell?,hb];simpa using hj);·cases hj
 have hvcell:∀j v,vs[j]? =some v->w.cell? ⟨vb,j,none⟩=some v:=λj v hj=>by rw[<-hvtk,List.getElem?_take]at hj;split at hj;(simp only[World.cell?,hv];simpa using hj);·cases hj
 have hold:(Builtin.firstCells ie.size i (.slice (some ⟨b,0,none⟩) i c)).run P w.drew=.ok (cs.take (i*k)).toArray w.drew:=by rw[hsz];exact run_firstCells_some w.drew k i ⟨b,0,none⟩ i c (cs.take (i*k)) (by rw[qV,hcl];omega) (λj v hj=>by rw[Addr.add_lit,qp];rw[List.getElem?_take]at hj;split at hj;(exact hcell j v hj);·cases hj)
 have hrz:∀ty,(Builtin.append_ #[ts,ti] ty #[.slice (some ⟨b,0,none⟩) i c,.int .i64 ((n:Int)+(m:Int)-(i:Int))]).run P w=
   .ok (.slice (some ⟨w.heap.size,0,none⟩) (n+m) (grownCap w (n+m) c U)) (w.drew.alloc (.cells ((cs.take (i*k)).toArray++Builtin.zeroCells ze.cells (n+m-i)++Builtin.zeroCells ze.cells (grownCap w (n+m) c U-(n+m))) U)):=λty=>by
  have h:=Lib.run_append_grow_zeros w ts ti ty U ie ze .i64 .i64 u79 u3 hie hze (some ⟨b,0,none⟩) i c (cs.take (i*k)) hold (n+m-i) wg wg wg wg (by rw[hby];omega) (by rw[hby,hik];exact growslice_fits hroom hbig)
  rw[hik]at h
  rw[hkk]
  exact h
 obtain⟨G,hG⟩:∃G,G=grownCap w (n+m) c U:=⟨_,rfl⟩
 have hGn:n+m<=G:=by rw[hG];exact grownCap_ge w _ _ _
 have f10:=Nat.sub_mul G (n+m) k
 have f11:=qj k hGn
 have hG63':G<=maxLen:=by rw[hG];exact grownCap_le_maxLen w (n+m) c U wD
 have hG63:G<=9223372036854775807:=by have:=hG63';unfold maxLen at this;omega
 obtain⟨J,hROW⟩:∃J:Array Value,J=(cs.take (i*k)).toArray++Builtin.zeroCells ze.cells (n+m-i)++Builtin.zeroCells ze.cells (G-(n+m)):=⟨_,rfl⟩
 rw[<-hG,<-hROW]at hrz
 have hRs:J.size=G*k:=by rw[hROW];simp only[Array.size_append,jZ,qV,hcl,EJ,hzz];omega
 have hRt:J.toList.take (i*k)=cs.take (i*k):=by
  rw[hROW]
  simp only[Array.toList_append,qT]
  have hl:(cs.take (i*k)).length=i*k:=by rw[qV,hcl];omega
  exact List.take_left' hl
 have hN:w.drew.heap.size=w.heap.size:=rfl
 obtain⟨C,hW1⟩:∃C,C=w.drew.alloc (.cells J U):=⟨_,rfl⟩
 have hW1b:C.heap[w.heap.size]? =some (.cells J U (0,0)):=by rw[hW1];show(w.drew.heap.push _)[w.drew.heap.size]? =_;exact Array.getElem?_push_size
 have hW1o:∀k,k<w.heap.size->C.heap[k]? =w.heap[k]? :=λk hk=>by rw[hW1];show(w.drew.heap.push _)[k]? =_;rw[Array.getElem?_push_lt (by exact hk)];exact(Array.getElem?_eq_getElem hk).symm
 rw[<-hW1]at hrz
 obtain⟨I,hA1⟩:∃I,I=(J.toList.take (i*k)++vs++J.toList.drop (i*k+vs.length)).toArray:=⟨_,rfl⟩
 have hA1s:I.size=G*k:=by rw[hA1];simp only[jZ,qE,qV,qW,qn,hRs,hvl];omega
 have hcpA:∀ty dc,(Builtin.copy_ #[ts,ts] ty #[.slice (some ⟨w.heap.size,i*k,none⟩) (n+m-i) dc,.slice (some ⟨vb,0,none⟩) m vc]).run P C=.ok (goInt (Nat.min m (n+m-i))) (C.setRow w.heap.size I):=λty dc=>by
  rw[hA1]
  exact JD _ ts ts ty U ie w.heap.size (i*k) (n+m-i) dc ⟨vb,0,none⟩ m vc J U vs u79 hie hW1b (by rw[hvl,hsz];congr 1;simp only[Nat.min_def];split<;>omega)
   (λj v hj=>by rw[Addr.add_lit,qp];exact(World.cell?_of_block (w:=w) (w':=C) (a:=⟨vb,j,none⟩) (hW1o vb hvw)).trans (hvcell j v hj)) (by rw[hvl,hRs];omega) h1v
 have hA1b:(C.setRow w.heap.size I).heap[w.heap.size]? =some (.cells I U (0,0)):=setRow_heap C _ J I U _ hW1b
 obtain⟨A2,hA2⟩:∃A2,A2=(I.toList.take ((i+m)*k)++cs.drop (i*k)++I.toList.drop ((i+m)*k+(cs.drop (i*k)).length)).toArray:=⟨_,rfl⟩
 have hdl:(cs.drop (i*k)).length=(n-i)*k:=by rw[qW,hcl];omega
 have hA2s:A2.size=G*k:=by rw[hA2];simp only[jZ,qE,qV,qW,qn,hA1s,hcl];omega
 have hA2t:A2.toList.take ((n+m)*k)=cs.take (i*k)++(vs++cs.drop (i*k)):=by
  have hl:(cs.take (i*k)++vs).length=(i+m)*k:=by rw[qE,qV,hcl,hvl];omega
  have e1:I.toList.take ((i+m)*k)=cs.take (i*k)++vs:=by rw[hA1,hRt];exact List.take_left' hl
  rw[hA2,e1]
  have hl2:(cs.take (i*k)++vs++cs.drop (i*k)).length=(n+m)*k:=by rw[qE,hl,hdl];omega
  rw[<-qT]
  exact List.take_left' hl2
 have hcpB:∀ty dc sc,(Builtin.copy_ #[ts,ts] ty #[.slice (some ⟨w.heap.size,(i+m)*k,none⟩) (n+m-(i+m)) dc,.slice (some ⟨b,i*k,none⟩) (n-i) sc]).run P (C.setRow w.heap.size I).drew=.ok (goInt (Nat.min (n-i) (n+m-(i+m)))) ((C.setRow w.heap.size I).drew.setRow w.heap.size A2):=λty dc sc=>by
  rw[hA2]
  exact JD _ ts ts ty U ie w.heap.size ((i+m)*k) (n+m-(i+m)) dc ⟨b,i*k,none⟩ (n-i) sc I U (cs.drop (i*k)) u79 hie hA1b (by rw[hdl,hsz];congr 1;simp only[Nat.min_def];split<;>omega)
   (λj v hj=>by
    rw[Addr.add_lit]
    have hj':cs[i*k+j]? =some v:=by rwa [List.getElem?_drop]at hj
    have h1:(C.setRow w.heap.size I).drew.heap[b]? =w.heap[b]? :=(setRow_other C w.heap.size b I wg).trans (hW1o b hbw)
    exact(World.cell?_of_block (w:=w) (a:=⟨b,i*k+j,none⟩) h1).trans (hcell _ v hj')) (by rw[hdl,hA1s];omega) (λv hv=>h1c v (qv hv))
 have hfin:∃A,A.toList.take ((n+m)*k)=cs.take (i*k)++(vs++cs.drop (i*k))/\n+m<=G/\G<=maxLen/\A.size=G*k/\((C.setRow w.heap.size I).drew.setRow w.heap.size A2).heap[w.heap.size]? =some (.cells A U (0,0))/\w.grownBy ((C.setRow w.heap.size I).drew.setRow w.heap.size A2) none:=by
  refine⟨A2,hA2t,hGn,hG63',hA2s,setRow_heap _ _ I A2 U _ hA1b,⟨?_,?_,?_,?_,λk hk _=> ?_⟩⟩
  ·rw[hW1];rfl
  ·rw[hW1];rfl
  ·rw[hW1];rfl
  ·have h1:C.heap.size=w.heap.size+1:=by
    rw[hW1]
    show(w.drew.heap.push _).size=_
    rw[Array.size_push];rfl
   have h2:((C.setRow w.heap.size I).drew.setRow w.heap.size A2).heap.size=C.heap.size:=(setRow_size _ _ _).trans (setRow_size C _ _)
   omega
  ·exact(setRow_other _ w.heap.size k A2 wg).trans ((setRow_other C w.heap.size k I wg).trans (hW1o k hk))
 exact⟨G,C,I,A2,hGn,hG63',hrz,hcpA,hcpB,hfin⟩
theorem aES{P:Program}{ts I ti k C:Nat}(hT:aAK P ts I ti k C)(hk:0<k)(hy0:0<C)(base b0 n m i:Nat)(v v2:Value)(cells cells2:List Value)(w:World)(hb:base<=w.heap.size)(hown:w.ownsRow base I k v n cells)(hown2:w.ownsRow base I k v2 m cells2)(hm:0<m)(hbig:(n+m)*C<=140737488355328)(h1v:∀u∈cells2,u.oneCell'=true):(∃J U,(∀ty,(Builtin.append_ #[ts,ts] ty #[v,v2]).run P w=.ok J U)/\V0 base I k w v (n+m) (cells++cells2) (.returned J) U):=by
 obtain⟨u79,u3,ze,ie,hie,hze,hsz,hby,hzz⟩:=hT
 have f6:n+m<=140737488355328:=qh (Nat.le_mul_of_pos_right _ hy0) hbig
 have hk0:=hk
 rcases hown2.2 with⟨_,h0⟩|⟨vb,vc,vcur,rfl,hv1,hv,hv3,hv4,hv5,hvtk⟩
 ·omega
 obtain⟨J,U,q1,q2,q3,q4,q5⟩:=run_append_own_at (P:=P) w base ts ts I ie ze k C u79 hie hze hsz hby (by rw[hzz]) wg v n cells hown ⟨vb,0,none⟩ m vc cells2 hown2.1
  (λj u hu=>by rw[Addr.add_lit,qp];have:=hown2.cellAt j (by rw[<-hown2.1];exact(qe.1 hu).1);rw[this];exact hu) h1v (by simp only[maxLen];omega) hbig hb
 exact⟨J,U,λty=>q1,J,rfl,q2,q3,q5.elim .inl λh=>.inr ⟨_,qg _,h⟩⟩
set_option maxRecDepth 20000
def Rp(P:Program)(F j k:Nat):Prop:=∀(b n c i vb m vc:Nat) (cs vs:List Value) (cur:Array Value) (w:World) (hi:i<n) (hm:0<m) (hroom:n+m<=c) (hc63:c<=9223372036854775807) (hvb:vb≠b) (U:cs.length=n*k) (hvl:vs.length=m*k) (hb:w.heap[b]? =some (.cells cur j (0,0))) (hcur:cur.size=c*k) (htk:cur.toList.take (n*k)=cs) (vcur:Array Value) (hv:w.heap[vb]? =some (.cells vcur j (0,0))) (hvtk:vcur.toList.take (m*k)=vs) (I:∀v∈cs,v.oneCell'=true) (J:∀v∈vs,v.oneCell'=true),Calls P F #[.slice (some ⟨b,0,none⟩) n c,.int .i64 i,.slice (some ⟨vb,0,none⟩) m vc] w λe C=>∃A,e=.returned (.slice (some ⟨b,0,none⟩) (n+m) c)/\A.toList.take ((n+m)*k)=cs.take (i*k)++(vs++cs.drop (i*k))/\A.size=c*k/\C.heap[b]? =some (.cells A j (0,0))/\w.grownBy C (some b)
def Rn(P:Program)(F C k j:Nat):Prop:=∀(b n c i vb m vc:Nat) (cs vs:List Value) (cur:Array Value) (w:World) (hi:i<n) (hm:0<m) (hnc:n<=c) (hroom:c<n+m) (hbig:(n+m)*j<=140737488355328) (hc63:c<=9223372036854775807) (hcl:cs.length=n*k) (hvl:vs.length=m*k) (hb:w.heap[b]? =some (.cells cur C (0,0))) (htk:cur.toList.take (n*k)=cs) (vcur:Array Value) (hv:w.heap[vb]? =some (.cells vcur C (0,0))) (hvtk:vcur.toList.take (m*k)=vs) (J:∀v∈cs,v.oneCell'=true) (U:∀v∈vs,v.oneCell'=true),Calls P F #[.slice (some ⟨b,0,none⟩) n c,.int .i64 i,.slice (some ⟨vb,0,none⟩) m vc] w λe I=>∃A G,e=.returned (.slice (some ⟨w.heap.size,0,none⟩) (n+m) G)/\A.toList.take ((n+m)*k)=cs.take (i*k)++(vs++cs.drop (i*k))/\n+m<=G/\G<=maxLen/\A.size=G*k/\I.heap[w.heap.size]? =some (.cells A C (0,0))/\w.grownBy I none
def Rq(P:Program)(F C k j:Nat):Prop:=∀(base U n m i:Nat) (v I:Value) (cells cells2:List Value) (w:World) (hb:base<=w.heap.size) (hown:w.ownsRow base C k v n cells) (hown2:w.ownsRow base C k I m cells2) (hm:0<m) (hbig:(n+m)*j<=140737488355328) (J:∀u∈cells2,u.oneCell'=true),Calls P F #[v,.int .i64 n,I] w (V0 base C k w v (n+m) (cells++cells2))
theorem aCE{P:Program}{C k j:Nat}(h:(P.info? C).map (λi=>(i.size,i.bytes,i.zero.isSome,i.zero.map λz=>z.cells.size))=some (k,j,true,some k)):∃z i,P.info? C=some i/\i.zero=some z/\i.size=k/\i.bytes=j/\z.cells.size=k:=by
 cases hi:P.info? C with
 |none=>rw[hi]at h;cases h
 |some i=>
  rw[hi]at h
  simp only[Option.map_some,qc,qb]at h
  obtain⟨h1,h2,h3,h4⟩:=h
  cases hz:i.zero with
  |none=>rw[hz]at h3;cases h3
  |some z=>
   rw[hz]at h4
   exact⟨z,i,rfl,hz,h1,h2,by simpa using h4⟩
theorem aAw{P:Program}{ts J ti k j:Nat}(U:aAK P ts J ti k j):∀w,(Go.sizeOf J).run P w=.ok k w:=λw=>by obtain⟨_,_,z,i,C,_,I,_⟩:=U;simp[Go.sizeOf,typeInfo,C,I]
theorem aDj{P:Program}{ts j ti tb fo k C:Nat}(hT:aAK P ts j ti k C)(J:∀(args:Array Value) (w:World),(callFunc fo args).run P w=((Extern.SlicesOverlaps.overlaps #[ts,ts] #[tb] args).run P w).andThen λv w'=>.ok (.value v) w'){w:World}{b vb i m vc:Nat}{cur vcur:Array Value}(hvb:vb≠b)(hv:w.heap[vb]? =some (.cells vcur j (0,0)))(hb:w.heap[b]? =some (.cells cur j (0,0)))(U:cur.size≠0):∀lb I,(callFunc fo #[.slice (some ⟨vb,0,none⟩) m vc,.slice (some ⟨b,(i+m)*k,none⟩) lb I]).run P w=.ok (.value (.bool false)) w:=λlb I=>by rw[J,Lib.run_overlaps_apart w ts tb j hT.1 k (aAw hT) ⟨vb,0,none⟩ ⟨b,(i+m)*k,none⟩ m vc lb I hvb j j vcur.size cur.size (by simp[World.shape?,hv]) (by simp[World.shape?,hb]) U (by simp[World.frozen?,hv]) (by simp[World.frozen?,hv])];rfl
theorem aDt{P:Program}{ts C I k j base n:Nat}{v:Value}{cells:List Value}{w:World}(J:aAK P ts C I k j)(hown:w.ownsRow base C k v n cells):(Builtin.len_ #[ts] I #[v]).run P w=.ok (.int .i64 n) w:=by have U:=run_underlying J.1;rcases hown.2 with⟨rfl,rfl⟩|⟨g,cap,cur,rfl,_⟩<;>simp[Builtin.len_,U,goInt]
theorem aCt{P:Program}{F te k j:Nat}(hR:Rp P F te k)(hG:Rn P F te k j)(hE:Rq P F te k j)(hf:Ms P F)(args:List (Bool×List D)):lE P F args [(false,[.edit (.ins te k j)])]:=by
 refine .inr (.inl ⟨_,rfl,hf,?_⟩)
 intro base w v v2 n m cells cells2 i hb hown hown2 hne hi hm hbig J C
 by_cases hin:i=n
 ·subst hin;have hl:cells.length=i*k:=hown.1;rw[jf wg,List.drop_of_length_le wg,qY];exact hE base 0 i m i v v2 cells cells2 w hb hown hown2 hm hbig C
 ·rcases hown.2 with⟨_,h0⟩|⟨b,c,I,rfl,hb1,hb2,hb3,U,hb5,htk⟩
  ·omega
  rcases hown2.2 with⟨_,h0⟩|⟨vb,vc,vcur,rfl,hv1,hv2,hv3,hv4,hv5,hvtk⟩
  ·omega
  have hvb:vb≠b:=λe=>hne b rfl (by rw[e];rfl)
  have hc63:c<=9223372036854775807:=by unfold maxLen at U;omega
  by_cases hroom:n+m<=c
  ·refine(hR b n c i vb m vc cells cells2 I w wg hm hroom hc63 hvb hown.1 hown2.1 hb2 hb5 htk vcur hv2 hvtk J C).mono ?_;rintro e w' ⟨A,rfl,q1,q2,q3,q4⟩;refine⟨_,rfl,⟨?_,.inr ⟨b,c,A,rfl,hb1,q3,hroom,U,q2,q1⟩⟩,q4,.inl rfl⟩;have f1:=Nat.add_mul n m k;have f2:=qj k hi;simp only[qE,qV,qW,hown.1,hown2.1];omega
  ·refine(hG b n c i vb m vc cells cells2 I w wg hm hb3 wg hbig hc63 hown.1 hown2.1 hb2 htk vcur hv2 hvtk J C).mono ?_;rintro e w' ⟨A,G,rfl,q1,q2,q3,q4,q5,q6⟩;refine⟨_,rfl,⟨?_,.inr ⟨w.heap.size,G,A,rfl,hb,q5,q2,q3,q4,q1⟩⟩,⟨q6.os,q6.tape,q6.output,q6.size,λk hk _=>q6.block k hk wb⟩,.inr ⟨_,qg _,rfl⟩⟩;have f1:=Nat.add_mul n m k;have f2:=qj k hi;simp only[qE,qV,qW,hown.1,hown2.1];omega
theorem zIR {p:Prop} (h:p:=by
  intro b n c i vb m vc cs vs cur w hi hm hroom hc63 hvb hcl hvl hb hcur htk vcur hv hvtk h1c h1v
  obtain ⟨ze,ie,hie,hze,hsz,hby,hzz⟩:=iT.2.2
  have t79:=u79;have t3:=u3;have t4:=u4
  have aa:=aAw iT
  have ae:=run_underlying u79;have r3:=run_underlying u3;have r4:=run_underlying u4
  have hz1 : ¬((m:Int)=0):=by omega
  have hz2 : ¬((i:Int)=(n:Int)):=by omega
  have mixd:=mixed
  have hov:=aDj (w:=w) (m:=m) (vc:=vc) (i:=i) iT foF hvb hv hb wg
  have hw1:IntKind.i64.wrap ((i:Int)+(m:Int))=(i:Int)+(m:Int):=by rw [IntKind.wrap_i64];omega
  have hb1:(0:Int)<=(i:Int)+(m:Int):=by omega
  have hin:i<=n:=by omega
  have htn:((i:Int)+(m:Int)).toNat=i+m:=by omega
  have hb2 : ¬(c=i+m):=by omega
  have hb3:(i:Int)<=(n:Int)+(m:Int):=by omega
  have hb4 : ¬(c=i):=by omega
  obtain ⟨A1,A2,hcp1,hcp2,hfin⟩:=aC5 iT we b n c i vb m vc cs vs cur w hi hm hroom hc63 hvb hcl hvl hb hcur htk vcur hv hvtk h1c h1v
  clear htk hvtk hcur hb hv
  refine calls_of_wp fnF rfl ?_
  simp only [ntF,jZ,qJ,qK,Nat.reduceAdd,Nat.reduceSub,Array.replicate_succ,
     Array.replicate_zero,List.push_toArray,List.append_toArray,jP,jQ]
  go_wp2_with (simp only [hov])
  go_region_law_o (refine J5 rfl _ _ _ _ rfl _ _ wA wA (hcp1 _ _ _) ?_)
  go_wp2_with (at_builtin;refine H8 _ rfl _ _ _ _ rfl _ _ rfl rfl (hcp2 _ _) ?_)
  go_ret
  obtain ⟨A,hA⟩:=hfin
  exact ⟨A,rfl,hA⟩):p:=h
theorem zIG {p:Prop} (h:p:=by
  intro b n c i vb m vc cs vs cur w hi hm hnc hroom hbig hc63 hcl hvl hb htk vcur hv hvtk h1c h1v
  obtain ⟨ze,ie,hie,hze,hsz,hby,hzz⟩:=iT.2.2
  have t79:=u79;have t3:=u3;have t4:=u4
  have aa:=aAw iT
  have ae:=run_underlying u79;have r3:=run_underlying u3;have r4:=run_underlying u4
  have hz1 : ¬((m:Int)=0):=by omega
  have hz2 : ¬((i:Int)=(n:Int)):=by omega
  have hz3:(c:Int)<(n:Int)+(m:Int):=by omega
  have mixd:=mixed
  obtain ⟨G,W1,A1,A2,hGn,hG63',hrz,hcpA,hcpB,hfin⟩:=aCS iT we we b n c i vb m vc cs vs cur w hi hm hnc hroom hbig hc63 hcl hvl hb htk vcur hv hvtk h1c h1v
  have hG63:G<=9223372036854775807:=by have:=hG63';unfold maxLen at this;omega
  have hw1:IntKind.i64.wrap ((i:Int)+(m:Int))=(i:Int)+(m:Int):=by rw [IntKind.wrap_i64];omega
  have hb1:(0:Int)<=(i:Int)+(m:Int):=by omega
  have hin:i<=n:=by omega
  have htn:((i:Int)+(m:Int)).toNat=i+m:=by omega
  have hb3:(i:Int)<=(n:Int):=by omega
  have hGi : ¬(G=i):=by omega
  have hGim : ¬(G=i+m):=by omega
  have hci : ¬(c=i):=by omega
  clear hb hv htk hvtk
  refine calls_of_wp fnF rfl ?_
  simp only [ntF,jZ,qJ,qK,Nat.reduceAdd,Nat.reduceSub,Array.replicate_succ,
     Array.replicate_zero,List.push_toArray,List.append_toArray,jP,jQ]
  go_wp2_with (first
    | (at_builtin;refine Lib.wpList_append_run _ rfl _ _ _ _ rfl _ _ rfl rfl _ _ (hrz _) ?_)
    | (at_builtin;refine H8 _ rfl _ _ _ _ rfl _ _ rfl rfl (hcpA _ _) ?_))
  go_region_law_o (refine J5 rfl _ _ _ _ rfl (.slice (some ⟨w.heap.size,_,none⟩) (n+m-(i+m)) (G-(i+m))) (.slice (some ⟨b,_,none⟩) (n-i) (c-i)) wA wA (hcpB _ (G-(i+m)) (c-i)) ?_)
  go_wp2
  go_ret
  obtain ⟨A,hA⟩:=hfin
  exact ⟨A,G,rfl,hA⟩):p:=h
theorem zIE {p:Prop} (h:p:=by
  intro base b0 n m i v v2 cells cells2 w hb hown hown2 hm hbig h1v
  obtain ⟨ze,ie,hie,hze,hsz,hby,hzz⟩:=iT.2.2
  have t79:=u79;have t3:=u3;have t4:=u4
  have ae:=run_underlying u79;have r3:=run_underlying u3;have r4:=run_underlying u4
  have hz1 : ¬((m:Int)=0):=by omega
  obtain ⟨v',w',r1,post⟩:=aES iT we we base b0 n m i v v2 cells cells2 w hb hown hown2 hm hbig h1v
  rcases hown2.2 with ⟨_,h0⟩ | ⟨vb,vc,vcur,rfl,hv1,hv,hv3,hv4,hv5,hvtk⟩
  · omega
  have hlen:=aDt iT hown
  refine calls_of_wp fnF rfl ?_
  simp only [ntF,jZ,qJ,qK,Nat.reduceAdd,Nat.reduceSub,Array.replicate_succ,
     Array.replicate_zero,List.push_toArray,List.append_toArray,jP,jQ]
  have aa:=aAw iT
  rcases hown.2 with ⟨rfl,rfl⟩ | ⟨g,cap,cur,rfl,hg1,hg2,hg3,_⟩
  · clear hown hown2
    go_wp2_with (at_builtin;refine Lib.wpList_append_run _ rfl _ _ _ _ rfl _ _ rfl rfl _ _ (r1 _) ?_)
    go_ret
    exact post
  · clear hown hown2
    go_wp2_with (at_builtin;refine Lib.wpList_append_run _ rfl _ _ _ _ rfl _ _ rfl rfl _ _ (r1 _) ?_)
    all_goals (go_ret;exact post)):p:=h
end Go.Sh
namespace Go.Sh
class bU (n:Nat) (T:outParam Prop):Prop where
 pf:T
theorem nns{α:Type}{r:α}{p:Prop}(h:none=some r):p:=by cases h
theorem aDi{α:Type}{b:Bool}{x y r:α}{G:Prop}(h:(if b=true then x else y)=r)(hb:b=true)(k:x=r->G):G:=k (bQ hb h)
theorem aEP{α:Type}{b:Bool}{x y r:α}{G:Prop}(h:(if b=true then x else y)=r)(hb:b=false)(k:y=r->G):G:=k (bP hb h)
theorem aCh{P:Program}{n:FuncId}{args:List (Bool×List D)}{T:Prop}{Q:List (Bool×List RC)->Prop}[c:bU n T](h:T->∃j,lE P n args j/\Q j):∃j,lE P n args j/\Q j:=h c.pf
def Hin(I:Nat->St->Prop):Prop:=True
theorem inv(I:Nat->St->Prop):Hin I:=trivial
def aI(x:Int):Bool×List D:=(false,[.int .i64 x])
def aB(x:Bool):Bool×List D:=(false,[.bool x])
def aS(x:ByteArray):Bool×List D:=(false,[.str x])
def aL{α:Type}(f:α->List D)(x:List α):Bool×List D:=(false,[.sl (List.map f x)])
def aX(x:List D):Bool×List D:=(true,x)
def cI(x:Int):SC:=.dat (.int .i64 x)
def cB(x:Bool):SC:=.dat (.bool x)
def cS(x:ByteArray):SC:=.dat (.str x)
def cL{α:Type}(f:α->List D)(x:List α):SC:=.dat (.sl (List.map f x))
def vI(x:Int):SV:=.v false [.dat (.int .i64 x)]
def vB(x:Bool):SV:=.v false [.dat (.bool x)]
def vS(x:ByteArray):SV:=.v false [.dat (.str x)]
def vL{α:Type}(f:α->List D)(x:List α):SV:=.v false [.dat (.sl (List.map f x))]
def vR(i ver:Nat):SV:=.v false [.row i ver]
def vP(i ver o:Nat):SV:=.v false [.bp i ver o]
def oX(t:TypeId)(l:List D):E7:=.box t (l.map .dat)
def oB(t:TypeId)(l:List SC):E7:=.box t l
def oW{α:Type}(e:TypeId)(z:Nat)(f:α->List D)(x:List α):E7:=.row e z (List.map f x) true
def rI(x:Int):Bool×List RC:=(false,[.ro (.int .i64 x)])
def rB(x:Bool):Bool×List RC:=(false,[.ro (.bool x)])
def rS(x:ByteArray):Bool×List RC:=(false,[.ro (.str x)])
def rW{α:Type}(e:TypeId)(z:Nat)(f:α->List D)(x:List α):Bool×List RC:=(false,[.own e z (List.map f x)])
section
variable {P:Program}{base N:Nat}{w0:W0}{Z:St->Prop}{k:List Fr}{s:St}
theorem lpI{c:Code}{I:Nat->St->Prop}(i:Hin I)(n:Nat)(C:I n s)(h:∀m s,I m s->SW P base w0 N c s (aft P base w0 N Z (.inv (λs'=>∃j,j<m/\I j s')::k))):SW P base w0 N (.loop c) s (aft P base w0 N Z k):=HG I n C h
inductive Mv where
 |t (i K:Nat) (e:TypeId) (sz:Nat)
 |b (b c K:Nat) (e:TypeId) (sz:Nat)
def aHv(ms:List Mv)(I:Nat->St->Prop):Prop:=True
theorem He(ms:List Mv)(I:Nat->St->Prop):aHv ms I:=trivial
def GX(P:Program)(base:Nat)(C:W0)(N:Nat)(ms:List Mv)(s:St)(Q:St->Prop):Prop:=∃j,Gho P base C N s j/\Q j
section
variable {ms:List Mv}{Q:St->Prop}
theorem gx0(h:Q s):GX P base w0 N [] s Q:=⟨s,Gho.refl s,h⟩
theorem gx1{m:Mv}{s':St}(j:Gho P base w0 N s s')(h:GX P base w0 N ms s' Q):GX P base w0 N (m::ms) s Q:=by obtain⟨t,h1,h2⟩:=h;exact⟨t,Gho.trans j h1,h2⟩
theorem T5{i K:Nat}{e:TypeId}{sz:Nat}(h:GX P base w0 N ms ((s.fL K ((s.h K).1+1,.row e sz [] true)).Ix i (.v false [.row K ((s.h K).1+1)])) Q)(h1:s.t i=.v false [.nil]):GX P base w0 N (.t i K e sz::ms) s Q:=gx1 (Gho.aFb e sz h1) h
theorem Ux{i K j vj:Nat}{e e':TypeId}{sz sz':Nat}{xs:List (List D)}{dp:Bool}(h:GX P base w0 N ms (((s.fL j (vj,.none)).fL K ((s.h K).1+1,.row e' sz' xs dp)).Ix i (.v false [.row K ((s.h K).1+1)])) Q)(h1:s.t i=.v false [.row j vj])(h2:s.h j=(vj,.row e' sz' xs dp)):GX P base w0 N (.t i K e sz::ms) s Q:=gx1 (Gho.aDv h1 h2) h
theorem UM{b vb c K:Nat}{t:TypeId}{cells:List SC}{e:TypeId}{sz:Nat}(h:GX P base w0 N ms ((s.fL K ((s.h K).1+1,.row e sz [] true)).fL b (vb,.box t (cells.set c (.row K ((s.h K).1+1))))) Q)(j:s.h b=(vb,.box t cells))(h1:cells[c]? =some .nil)(hk:b≠K):GX P base w0 N (.b b c K e sz::ms) s Q:=gx1 (Gho.aFO e sz j h1 hk) h
theorem UH{b vb c j K vj:Nat}{t:TypeId}{cells:List SC}{e e':TypeId}{sz sz':Nat}{xs:List (List D)}{dp:Bool}(h:GX P base w0 N ms (((s.fL j (vj,.none)).fL K ((s.h K).1+1,.row e' sz' xs dp)).fL b (vb,.box t (cells.set c (.row K ((s.h K).1+1))))) Q)(C:s.h b=(vb,.box t cells))(h1:cells[c]? =some (.row j vj))(h2:s.h j=(vj,.row e' sz' xs dp))(hk:b≠K):GX P base w0 N (.b b c K e sz::ms) s Q:=gx1 (Gho.aBM C h1 h2 hk) h
theorem lpM{c:Code}{I:Nat->St->Prop}(i:aHv ms I)(n:Nat)(J:GX P base w0 N ms s (I n))(h:∀m s,I m s->SW P base w0 N c s (aft P base w0 N Z (.inv (λs'=>GX P base w0 N ms s' (λj=>∃C,C<m/\I C j))::k))):SW P base w0 N (.loop c) s (aft P base w0 N Z k):=by obtain⟨s',h1,h2⟩:=J;exact Cj h1 (GF I n h2 h)
theorem aEV{m:Nat}{I:Nat->St->Prop}(h:GX P base w0 N ms s (λj=>∃C,C<m/\I C j)):aft P base w0 N Z (.inv (λJ=>GX P base w0 N ms J (λj=>∃C,C<m/\I C j))::k) .normal s:=h
end
theorem frb{c:Code}{Q:Exit->St->Prop}{vb vj:Nat}{t:TypeId}{cells:List SC}{e:TypeId}{sz:Nat}{xs:List (List D)}{dp:Bool}(b i j:Nat)(h:SW P base w0 N c ((s.fL j (vj,.none)).fL b (vb,.box t (cells.set i (.dat (.sl xs))))) Q)(h0:s.h b=(vb,.box t cells):=by(first | (simp +decide only[F,reduceIte,Nat.reduceAdd,qB,qC,EN, *,-h];rfl)| (simp +decide only[LN,LI,F,reduceIte,Nat.reduceAdd,qB,qC,EN, *,-h];rfl)))(h1:cells[i]? = some (.row j vj):=by rfl)(h2:s.h j=(vj,.row e sz xs dp):=by(first | (simp +decide only[F,reduceIte,Nat.reduceAdd,qB,qC,EN, *,-h];rfl)| (simp +decide only[LN,LI,F,reduceIte,Nat.reduceAdd,qB,qC,EN, *,-h];rfl))):SW P base w0 N c s Q:=Cj (Gho.aFv h0 h1 h2) h
theorem frt{c:Code}{Q:Exit->St->Prop}{vj:Nat}{ag:Bool}{cs:List SC}{e:TypeId}{sz:Nat}{xs:List (List D)}{dp:Bool}(t i j:Nat)(h:SW P base w0 N c ((s.fL j (vj,.none)).Ix t (.v ag (cs.set i (.dat (.sl xs))))) Q)(h0:s.t t = .v ag cs:=by(first | (simp +decide only[F,reduceIte,Nat.reduceAdd,qB,qC,EN, *,-h];rfl)| (simp +decide only[LN,LI,F,reduceIte,Nat.reduceAdd,qB,qC,EN, *,-h];rfl)))(h1:cs[i]? = some (.row j vj):=by rfl)(h2:s.h j=(vj,.row e sz xs dp):=by(first | (simp +decide only[F,reduceIte,Nat.reduceAdd,qB,qC,EN, *,-h];rfl)| (simp +decide only[LN,LI,F,reduceIte,Nat.reduceAdd,qB,qC,EN, *,-h];rfl))):SW P base w0 N c s Q:=Cj (Gho.aFk h0 h1 h2) h
theorem rgK{id:Nat}{ops:Array Oper}(h:∀K:St->Prop,(∀t,aft P base w0 N Z k .normal t->K t)->tQ P (fM P) N ops ops.toList s K):SW P base w0 N (.region id ops false) s (aft P base w0 N Z k):=O1 (h _ λ_ x=>x)
theorem rgD(C:P.follows .mixedOrders=true){id:Nat}{ops:Array Oper}(h:∀K:St->Prop,(∀t,aft P base w0 N Z k .normal t->K t)->EY P (fM P) N ops ops.toList s [] (λt j=>PJ ops j/\K t)):SW P base w0 N (.region id ops true) s (aft P base w0 N Z k):=Yi C (h (λt=>aft P base w0 N Z k .normal t) λ_ x=>x)
theorem aDg{α:Type}{b:Bool}{x y z:α}(h:(if b=true then x else y)=z):b=true/\x=z\/b=false/\y=z:=by cases b;(exact .inr ⟨rfl,wM⟩);·exact .inl ⟨rfl,wM⟩
theorem rz(h:Z s):aft P base w0 N Z [] .normal s:=h
def Yes(A:Prop)(b c:Bool):Prop:=b=c->A
theorem yes{A:Prop}{b c:Bool}(h:b=c->A):Yes A b c:=h
theorem cnd{t:Nat}{x y:Code}{b:Bool}(hb:s.t t=.v false [.dat (.bool b)])(h1:Yes (SW P base w0 N x s (aft P base w0 N Z k)) b true)(h2:Yes (SW P base w0 N y s (aft P base w0 N Z k)) b false):SW P base w0 N (.cond (.tmp t) x y) s (aft P base w0 N Z k):=Up hb h1 h2
end
theorem sgX{P:Program}{base N:Nat}{w0:W0}{c:Code}{s:St}{Q:Exit->St->Prop}(h:SW P base w0 N c s Q:=by
 repeat' (first
  | (with_reducible refine an ?_)
  | (with_reducible refine sq ?_)
  | (with_reducible refine bk ?_)
  | (with_reducible refine ab ?_)
  | (with_reducible refine sk ?_)
  | (with_reducible refine xt ?_)
  | (with_reducible refine CO ?_)
  | (with_reducible refine Gs ?_)
  | ((with_reducible refine CL ?_);(try dsimp only at h))
  | (with_reducible refine aFl we ?_)
  | ((with_reducible refine hK _ ?_);clear hK;clear K)
  | ((with_reducible refine rgK λK hK => ?_);simp +decide only[E,reduceIte,Nat.reduceAdd,Nat.reduceMul,Int.reduceEq,Int.reduceLT,qB,qC,<-List.map_take,<-List.map_drop,jO,D2,DX,L,TB,EN, *,-h,-hK])
  | ((with_reducible refine rgD mixed λK hK => ?_);simp +decide only[E,reduceIte,Nat.reduceAdd,Nat.reduceMul,Int.reduceEq,Int.reduceLT,qB,qC,<-List.map_take,<-List.map_drop,jO,D2,DX,L,TB,EN, *,-h,-hK])
  | ((with_reducible refine rt ?_);cases h;simp[Ma,Ret,TB,EN, *];done)
  | ((with_reducible refine rz ?_);cases h;simp[Ma,Ret,TB,EN, *];done)
  | (with_reducible refine And.intro (.mk wL) ?_)
  | ((with_reducible refine fB ⟨_,Nat.lt_add_one _,?_⟩);(repeat (with_reducible apply Exists.intro));(with_reducible refine And.intro ?_ h);(repeat' (with_reducible refine And.intro ?_ ?_));(all_goals first | (simp +decide only[F,reduceIte,Nat.reduceAdd,qB,qC,EN, *,-h];done)| (simp +decide only[F,reduceIte,Nat.reduceAdd,qB,qC,EN, *,-h];rfl)| rfl))
  | ((with_reducible refine aEV ?_);(repeat (first | (refine T5 ?_ jh)| (refine Ux ?_ jh jh)| (refine UM ?_ jh wc we)| (refine UH ?_ jh wc jh we)));refine gx0 ⟨_,Nat.lt_add_one _,?_⟩;(repeat (with_reducible apply Exists.intro));(with_reducible refine And.intro ?_ h);(repeat' (with_reducible refine And.intro ?_ ?_));(all_goals first | (simp +decide only[F,reduceIte,Nat.reduceAdd,qB,qC,EN, *,-h];done)| (simp +decide only[F,reduceIte,Nat.reduceAdd,qB,qC,EN, *,-h];rfl)| rfl))
  | (refine cnd (b:=_) (by(simp +decide only[F,reduceIte,Nat.reduceAdd,qB,qC,EN, *,-h]);exact rfl) ?_ ?_)
  | ((with_reducible refine yes λhb => ?_);(first | exact absurd hb we | (replace h:=bQ hb h)| (replace h:=bP hb h)| clear hb))
  | ((with_reducible refine And.intro (by first | exact SU (vU (by assumption)).1 | exact(SU (vU (by assumption)).1).2) ?_);(try simp +decide only[E,reduceIte,Nat.reduceAdd,Nat.reduceMul,Int.reduceEq,Int.reduceLT,qB,qC,<-List.map_take,<-List.map_drop,jO,D2,DX,L,TB,EN, *,-h,-hK]))
  | (with_reducible exact nns h)
  | (obtain⟨x,hb,h⟩:=aA h;(first | (obtain⟨q1,q2,q3⟩:=pK hb;simp +decide only[E,reduceIte,Nat.reduceAdd,Nat.reduceMul,Int.reduceEq,Int.reduceLT,qB,qC,<-List.map_take,<-List.map_drop,jO,D2,DX,L,TB,EN, *,-h,-hK])| (obtain⟨q1,q2⟩:=XD hb;simp +decide only[E,reduceIte,Nat.reduceAdd,Nat.reduceMul,Int.reduceEq,Int.reduceLT,qB,qC,<-List.map_take,<-List.map_drop,jO,D2,DX,L,TB,EN, *,-h,-hK])| (refine aCh λhC => ?_;(first | refine⟨_,hC (h:=hb),?_⟩| (have hc:=hC (h:=hb);simp only[jL,jJ,jK,List.map_set,EN]at hc;refine⟨_,hc,?_⟩)| (have hc:=hC (h:=hb);simp only[jL,jJ,jK,List.map_set,EN, *,-h,-hK,-hC]at hc;refine⟨_,hc,?_⟩));(try clear hC);(try simp +decide only[E,reduceIte,Nat.reduceAdd,Nat.reduceMul,Int.reduceEq,Int.reduceLT,qB,qC,<-List.map_take,<-List.map_drop,jO,D2,DX,L,TB,EN, *,-h,-hK]))| (refine⟨_,hp1 _ _ hb,?_⟩;(try simp +decide only[E,reduceIte,Nat.reduceAdd,Nat.reduceMul,Int.reduceEq,Int.reduceLT,qB,qC,<-List.map_take,<-List.map_drop,jO,D2,DX,L,TB,EN, *,-h,-hK]))| (refine⟨_,hp2 _ _ _ hb,?_⟩;(try simp +decide only[E,reduceIte,Nat.reduceAdd,Nat.reduceMul,Int.reduceEq,Int.reduceLT,qB,qC,<-List.map_take,<-List.map_drop,jO,D2,DX,L,TB,EN, *,-h,-hK]))| (refine⟨aBD hb,?_⟩;(try simp +decide only[E,reduceIte,Nat.reduceAdd,Nat.reduceMul,Int.reduceEq,Int.reduceLT,qB,qC,<-List.map_take,<-List.map_drop,jO,D2,DX,L,TB,EN, *,-h,-hK]))| (refine⟨Mp hb,?_⟩;(try simp +decide only[E,reduceIte,Nat.reduceAdd,Nat.reduceMul,Int.reduceEq,Int.reduceLT,qB,qC,<-List.map_take,<-List.map_drop,jO,D2,DX,L,TB,EN, *,-h,-hK]))| (refine⟨by(have hb:=fJ hb;first | (simp[EN,qE,aP]at hb ⊢ <;> omega)| (simp[EN,Vh,ZO,qE,aP,<-List.map_take,<-List.map_drop,-List.map_take,-List.map_drop]at hb ⊢ <;> omega)),?_⟩;(try simp +decide only[E,reduceIte,Nat.reduceAdd,Nat.reduceMul,Int.reduceEq,Int.reduceLT,qB,qC,<-List.map_take,<-List.map_drop,jO,D2,DX,L,TB,EN, *,-h,-hK]))| (refine⟨by(have hb:=gF hb;simp[EN,qE,aP]at hb ⊢ <;> omega),?_⟩;(try simp +decide only[E,reduceIte,Nat.reduceAdd,Nat.reduceMul,Int.reduceEq,Int.reduceLT,qB,qC,<-List.map_take,<-List.map_drop,jO,D2,DX,L,TB,EN, *,-h,-hK]))| (have hb:=Z9 hb;refine⟨hb,?_⟩;(try simp +decide only[E,reduceIte,Nat.reduceAdd,Nat.reduceMul,Int.reduceEq,Int.reduceLT,qB,qC,<-List.map_take,<-List.map_drop,jO,D2,DX,L,TB,EN, *,-h,-hK]))| (refine⟨by first | exact Qr (λ_=>rfl) hb | exact Qh (λ_=>rfl) hb | exact Mk (λ_=>rfl) hb | exact And.right (Qr (λ_=>rfl) hb)| exact And.right (Qh (λ_=>rfl) hb)| exact And.right (Mk (λ_=>rfl) hb)| exact And.right (And.right (Mk (λ_=>rfl) hb))| exact Gn hb | exact vU hb | exact(Gn hb).2 | exact(vU hb).2,?_⟩;(try simp +decide only[E,reduceIte,Nat.reduceAdd,Nat.reduceMul,Int.reduceEq,Int.reduceLT,qB,qC,<-List.map_take,<-List.map_drop,jO,D2,DX,L,TB,EN, *,-h,-hK]))| (with_reducible refine And.intro (by first | (have hb:=Md hb;simp[EN,qE,aP]at hb ⊢ <;> omega)| (have hb:=My hb;simp[EN,qE,aP]at hb ⊢ <;> omega)) ?_;(try simp +decide only[E,reduceIte,Nat.reduceAdd,Nat.reduceMul,Int.reduceEq,Int.reduceLT,qB,qC,<-List.map_take,<-List.map_drop,jO,D2,DX,L,TB,EN, *,-h,-hK]))| (refine aCh λhC => ?_;refine⟨_,hC _,?_⟩;(try simp +decide only[E,reduceIte,Nat.reduceAdd,Nat.reduceMul,Int.reduceEq,Int.reduceLT,qB,qC,<-List.map_take,<-List.map_drop,jO,D2,DX,L,TB,EN, *,-h,-hK]);with_reducible refine And.intro (by first | (have hb:=Md hb;simp[EN,qE,aP]at hb ⊢ <;> omega)| (have hb:=My hb;simp[EN,qE,aP]at hb ⊢ <;> omega)) ?_;(try simp +decide only[E,reduceIte,Nat.reduceAdd,Nat.reduceMul,Int.reduceEq,Int.reduceLT,qB,qC,<-List.map_take,<-List.map_drop,jO,D2,DX,L,TB,EN, *,-h,-hK]))| ((first | have hb2:=My hb | have hb2:=Md hb);refine aCh λhC => ?_;refine⟨_,hC _,?_⟩;simp +decide only[E,reduceIte,Nat.reduceAdd,Nat.reduceMul,Int.reduceEq,Int.reduceLT,qB,qC,<-List.map_take,<-List.map_drop,jO,D2,DX,L,TB,EN, *,-h,-hK];clear hC;clear hb2)))
  | (refine aEP h ?_ λh => ?_;focus (simp only[qB,qC, *,-h];done))
  | (refine aDi h ?_ λh => ?_;focus (simp only[qB,qC, *,-h];done))
  | (revert hK;intro hK;(rcases aDg h with⟨hb,h⟩| ⟨hb,h⟩)<;>simp +decide only[E,reduceIte,Nat.reduceAdd,Nat.reduceMul,Int.reduceEq,Int.reduceLT,qB,qC,<-List.map_take,<-List.map_drop,jO,D2,DX,L,TB,EN, *,-h,-hK])
  | ((with_reducible apply lpI (i1 ..) aJ);(· ((repeat (with_reducible apply Exists.intro));(with_reducible refine And.intro ?_ h);(repeat' (with_reducible refine And.intro ?_ ?_));(all_goals first | (simp +decide only[F,reduceIte,Nat.reduceAdd,qB,qC,EN, *,-h];done)| (simp +decide only[F,reduceIte,Nat.reduceAdd,qB,qC,EN, *,-h];rfl)| rfl)));clear i1;intro m s1 hI;clear h;(repeat (obtain⟨v,hI⟩:=hI));have h:=hI;clear hI;rcases m with _ | m;(· cases (show none=some _ from h));(simp only[e1]at h))
  | ((with_reducible apply lpI (i2 ..) aJ);(· ((repeat (with_reducible apply Exists.intro));(with_reducible refine And.intro ?_ h);(repeat' (with_reducible refine And.intro ?_ ?_));(all_goals first | (simp +decide only[F,reduceIte,Nat.reduceAdd,qB,qC,EN, *,-h];done)| (simp +decide only[F,reduceIte,Nat.reduceAdd,qB,qC,EN, *,-h];rfl)| rfl)));clear i2;intro m s1 hI;clear h;(repeat (obtain⟨v,hI⟩:=hI));have h:=hI;clear hI;rcases m with _ | m;(· cases (show none=some _ from h));(simp only[e2]at h))
  | ((with_reducible apply lpI (i3 ..) aJ);(· ((repeat (with_reducible apply Exists.intro));(with_reducible refine And.intro ?_ h);(repeat' (with_reducible refine And.intro ?_ ?_));(all_goals first | (simp +decide only[F,reduceIte,Nat.reduceAdd,qB,qC,EN, *,-h];done)| (simp +decide only[F,reduceIte,Nat.reduceAdd,qB,qC,EN, *,-h];rfl)| rfl)));clear i3;intro m s1 hI;clear h;(repeat (obtain⟨v,hI⟩:=hI));have h:=hI;clear hI;rcases m with _ | m;(· cases (show none=some _ from h));(simp only[e3]at h))
  | ((with_reducible apply lpI (i4 ..) aJ);(· ((repeat (with_reducible apply Exists.intro));(with_reducible refine And.intro ?_ h);(repeat' (with_reducible refine And.intro ?_ ?_));(all_goals first | (simp +decide only[F,reduceIte,Nat.reduceAdd,qB,qC,EN, *,-h];done)| (simp +decide only[F,reduceIte,Nat.reduceAdd,qB,qC,EN, *,-h];rfl)| rfl)));clear i4;intro m s1 hI;clear h;(repeat (obtain⟨v,hI⟩:=hI));have h:=hI;clear hI;rcases m with _ | m;(· cases (show none=some _ from h));(simp only[e4]at h))
  | ((with_reducible apply lpI (i5 ..) aJ);(· ((repeat (with_reducible apply Exists.intro));(with_reducible refine And.intro ?_ h);(repeat' (with_reducible refine And.intro ?_ ?_));(all_goals first | (simp +decide only[F,reduceIte,Nat.reduceAdd,qB,qC,EN, *,-h];done)| (simp +decide only[F,reduceIte,Nat.reduceAdd,qB,qC,EN, *,-h];rfl)| rfl)));clear i5;intro m s1 hI;clear h;(repeat (obtain⟨v,hI⟩:=hI));have h:=hI;clear hI;rcases m with _ | m;(· cases (show none=some _ from h));(simp only[e5]at h))
  | ((with_reducible apply lpI (i6 ..) aJ);(· ((repeat (with_reducible apply Exists.intro));(with_reducible refine And.intro ?_ h);(repeat' (with_reducible refine And.intro ?_ ?_));(all_goals first | (simp +decide only[F,reduceIte,Nat.reduceAdd,qB,qC,EN, *,-h];done)| (simp +decide only[F,reduceIte,Nat.reduceAdd,qB,qC,EN, *,-h];rfl)| rfl)));clear i6;intro m s1 hI;clear h;(repeat (obtain⟨v,hI⟩:=hI));have h:=hI;clear hI;rcases m with _ | m;(· cases (show none=some _ from h));(simp only[e6]at h))
  | ((with_reducible apply lpM (i1 ..) aJ);(· ((repeat (first | (refine T5 ?_ jh)| (refine Ux ?_ jh jh)| (refine UM ?_ jh wc we)| (refine UH ?_ jh wc jh we)));refine gx0 ?_;(repeat (with_reducible apply Exists.intro));(with_reducible refine And.intro ?_ h);(repeat' (with_reducible refine And.intro ?_ ?_));(all_goals first | (simp +decide only[F,reduceIte,Nat.reduceAdd,qB,qC,EN, *,-h];done)| (simp +decide only[F,reduceIte,Nat.reduceAdd,qB,qC,EN, *,-h];rfl)| rfl)));clear i1;intro m s1 hI;clear h;(repeat (obtain⟨v,hI⟩:=hI));have h:=hI;clear hI;rcases m with _ | m;(· cases (show none=some _ from h));(simp only[e1]at h))
  | ((with_reducible apply lpM (i2 ..) aJ);(· ((repeat (first | (refine T5 ?_ jh)| (refine Ux ?_ jh jh)| (refine UM ?_ jh wc we)| (refine UH ?_ jh wc jh we)));refine gx0 ?_;(repeat (with_reducible apply Exists.intro));(with_reducible refine And.intro ?_ h);(repeat' (with_reducible refine And.intro ?_ ?_));(all_goals first | (simp +decide only[F,reduceIte,Nat.reduceAdd,qB,qC,EN, *,-h];done)| (simp +decide only[F,reduceIte,Nat.reduceAdd,qB,qC,EN, *,-h];rfl)| rfl)));clear i2;intro m s1 hI;clear h;(repeat (obtain⟨v,hI⟩:=hI));have h:=hI;clear hI;rcases m with _ | m;(· cases (show none=some _ from h));(simp only[e2]at h))
  | ((with_reducible apply lpM (i3 ..) aJ);(· ((repeat (first | (refine T5 ?_ jh)| (refine Ux ?_ jh jh)| (refine UM ?_ jh wc we)| (refine UH ?_ jh wc jh we)));refine gx0 ?_;(repeat (with_reducible apply Exists.intro));(with_reducible refine And.intro ?_ h);(repeat' (with_reducible refine And.intro ?_ ?_));(all_goals first | (simp +decide only[F,reduceIte,Nat.reduceAdd,qB,qC,EN, *,-h];done)| (simp +decide only[F,reduceIte,Nat.reduceAdd,qB,qC,EN, *,-h];rfl)| rfl)));clear i3;intro m s1 hI;clear h;(repeat (obtain⟨v,hI⟩:=hI));have h:=hI;clear hI;rcases m with _ | m;(· cases (show none=some _ from h));(simp only[e3]at h))
  | ((with_reducible apply lpM (i4 ..) aJ);(· ((repeat (first | (refine T5 ?_ jh)| (refine Ux ?_ jh jh)| (refine UM ?_ jh wc we)| (refine UH ?_ jh wc jh we)));refine gx0 ?_;(repeat (with_reducible apply Exists.intro));(with_reducible refine And.intro ?_ h);(repeat' (with_reducible refine And.intro ?_ ?_));(all_goals first | (simp +decide only[F,reduceIte,Nat.reduceAdd,qB,qC,EN, *,-h];done)| (simp +decide only[F,reduceIte,Nat.reduceAdd,qB,qC,EN, *,-h];rfl)| rfl)));clear i4;intro m s1 hI;clear h;(repeat (obtain⟨v,hI⟩:=hI));have h:=hI;clear hI;rcases m with _ | m;(· cases (show none=some _ from h));(simp only[e4]at h))
  | ((with_reducible apply lpM (i5 ..) aJ);(· ((repeat (first | (refine T5 ?_ jh)| (refine Ux ?_ jh jh)| (refine UM ?_ jh wc we)| (refine UH ?_ jh wc jh we)));refine gx0 ?_;(repeat (with_reducible apply Exists.intro));(with_reducible refine And.intro ?_ h);(repeat' (with_reducible refine And.intro ?_ ?_));(all_goals first | (simp +decide only[F,reduceIte,Nat.reduceAdd,qB,qC,EN, *,-h];done)| (simp +decide only[F,reduceIte,Nat.reduceAdd,qB,qC,EN, *,-h];rfl)| rfl)));clear i5;intro m s1 hI;clear h;(repeat (obtain⟨v,hI⟩:=hI));have h:=hI;clear hI;rcases m with _ | m;(· cases (show none=some _ from h));(simp only[e5]at h))
  | ((with_reducible apply lpM (i6 ..) aJ);(· ((repeat (first | (refine T5 ?_ jh)| (refine Ux ?_ jh jh)| (refine UM ?_ jh wc we)| (refine UH ?_ jh wc jh we)));refine gx0 ?_;(repeat (with_reducible apply Exists.intro));(with_reducible refine And.intro ?_ h);(repeat' (with_reducible refine And.intro ?_ ?_));(all_goals first | (simp +decide only[F,reduceIte,Nat.reduceAdd,qB,qC,EN, *,-h];done)| (simp +decide only[F,reduceIte,Nat.reduceAdd,qB,qC,EN, *,-h];rfl)| rfl)));clear i6;intro m s1 hI;clear h;(repeat (obtain⟨v,hI⟩:=hI));have h:=hI;clear hI;rcases m with _ | m;(· cases (show none=some _ from h));(simp only[e6]at h)))):SW P base w0 N c s Q:=h
theorem sgo {P : Program} {f : FuncId} {fn : Func} {c : Code} {args : List (Bool × List D)} {rs : List (Bool × List RC)} (N : Nat) (vars : List ResultVar) (hf : P.funcs[f]? = some fn) (hb : fn.body = some c := by exact rfl) (hN : fn.ntmps = N := by exact rfl) (hv : fn.results.toList = vars := by exact rfl) (hnm : (fn.name == "runtime.NumGoroutine") = false := by decide +kernel) (hn : args.length <= N := by exact Nat.le_of_ble_eq_true rfl)
  (h : ∀(base:Nat) (w0:W0),SW P base w0 N c (init args) (aft P base w0 N (Ret (fM P) vars rs) []):=by
 intro base wd
 (try simp only [EN])
 exact sgX):lE P f args rs:=Rf hf hb hN hv hnm hn h
theorem sgn {P : Program} {f : FuncId} {fn : Func} {c : Code} {args : List (Bool × List D)} {rs : List (Bool × List RC)} (N : Nat) (vars : List ResultVar) (hf : P.funcs[f]? = some fn) (h : ∀ (base : Nat) (w0 : W0), SW P base w0 N c (init args) (aft P base w0 N (Ret (fM P) vars rs) [])) (hb : fn.body = some c := by exact rfl) (hN : fn.ntmps = N := by exact rfl) (hv : fn.results.toList = vars := by exact rfl) (hnm : (fn.name == "runtime.NumGoroutine") = false := by decide +kernel) (hn : args.length <= N := by exact Nat.le_of_ble_eq_true rfl) : lE P f args rs := Rf hf hb hN hv hnm hn h
theorem sgO {P : Program} {f : FuncId} {fn : Func} {c : Code} {args : List (Bool × List D)} {rs : List (Bool × List RC)} (N : Nat) (vars : List ResultVar) (hf : P.funcs[f]? = some fn) (h : ∀ (base : Nat) (wd : World × (Nat -> Prop)), SW P base ⟨wd.1, ⟨wd.2, base, none, slP P⟩, noK, Ui⟩ N c (WE base args) (aft P base ⟨wd.1, ⟨wd.2, base, none, slP P⟩, noK, Ui⟩ N (Ret (fM P) vars rs) [])) (hb : fn.body = some c := by exact rfl) (hN : fn.ntmps = N := by exact rfl) (hv : fn.results.toList = vars := by exact rfl) (hnm : (fn.name == "runtime.NumGoroutine") = false := by decide +kernel) (hn : args.length <= N := by exact Nat.le_of_ble_eq_true rfl) : lE P f args rs := aCg hf hb hN hv hnm hn h
theorem sgB {P : Program} {f : FuncId} {fn : Func} {c : Code} {t : TypeId} {d0 : D} {ds es : List D} {rest : List (Bool × List D)} {rs : List (Bool × List RC)} (N : Nat) (vars : List ResultVar) (hf : P.funcs[f]? = some fn) (h : ∀ (base : Nat) (w0 : W0) (B : Nat) (v0 : Value), (B <= base /\ w0.Q.L = slP P /\ ∀ b, w0.K b -> b < base) -> SW P base w0 N c (Zi t B v0 d0 ds rest) (aft P base w0 N (Ma (fM P) vars t B v0 d0 es rs) [])) (hb : fn.body = some c := by exact rfl) (hN : fn.ntmps = N := by exact rfl) (hv : fn.results.toList = vars := by exact rfl) (hnm : (fn.name == "runtime.NumGoroutine") = false := by decide +kernel) (hn : rest.length + 1 <= N := by exact Nat.le_of_ble_eq_true rfl) (hrs : CM rs = false := by exact rfl) (hds : ds.all D.flat = true := by exact rfl) (hes : es.all D.flat = true := by exact rfl) (hl : es.length = ds.length := by exact rfl) : lE P f ((false, [.ptr (d0 :: ds)]) :: rest) ((false, [.edit (.lend t es)]) :: rs) := aCw hf hb hN hv hnm hn hrs hds hes hl h
theorem sgN {P : Program} {f : FuncId} {fn : Func} {c : Code} {t : TypeId} {es : List D} {args : List (Bool × List D)} (N : Nat) (vars : List ResultVar) (hf : P.funcs[f]? = some fn) (h : ∀ (base : Nat) (w0 : W0), SW P base w0 N c (init args) (aft P base w0 N (aF7 (fM P) vars t es) [])) (hb : fn.body = some c := by exact rfl) (hN : fn.ntmps = N := by exact rfl) (hv : fn.results.toList = vars := by exact rfl) (hnm : (fn.name == "runtime.NumGoroutine") = false := by decide +kernel) (hn : args.length <= N := by exact Nat.le_of_ble_eq_true rfl) : lE P f args [(false, [.edit (.newb t es)])] := aCF hf hb hN hv hnm hn h
