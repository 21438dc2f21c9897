/-
  Helper text. No conditions.
-/
import Derived.Test.YtnhpbpnhmapeeaaGreatClosePagePz
namespace Go.Proofs.YtnhpbpnhmapeeaaGreat.gen
open Go Go.Sh
set_option linter.unusedVariables false
set_option linter.unusedSimpArgs false
theorem aNc : ∀(n:Nat) (v:Int) (b:ByteArray),v.toNat<n→0≤v→(b.size:Int)+v≤KB → ∃t,kQ n v b=some t∧t.size≤4611686018427387905
 | 0,v,b,h,_,_=>by omega
 | n+1,v,b,h,h0,hb=>by
  unfold KB at hb
  simp only [kQ]
  by_cases hv:v>0
  ·rw [if_pos (by simp;omega)]
   have h1:=Int.tmod_nonneg 10 h0
   have h2:=Int.tmod_lt_of_pos v (show (0:Int)<10 by omega)
   have hu:=aNU (IntKind.i64.wrap (48+Int.tmod v 10))
   have hd:Int.tdiv v 10=v/10:=Int.tdiv_eq_ediv_of_nonneg h0
   have hs:toStr [IntKind.u8.wrap (IntKind.i64.wrap (48+Int.tmod v 10))]=some (aBr [IntKind.u8.wrap (IntKind.i64.wrap (48+Int.tmod v 10))]):=by
    unfold toStr;rw [if_pos (by simp;omega)]
   have hz:(aBr [IntKind.u8.wrap (IntKind.i64.wrap (48+Int.tmod v 10))]).size=1:=rfl
   rw [hs,Option.bind_some]
   unfold cat
   rw [if_pos (by rw [hz];omega),Option.bind_some,hd,iT (by omega) (by omega)]
   refine aNc n (v/10) _ (by omega) (by omega) ?_
   rw [ByteArray.size_append,hz]
   unfold KB
   omega
  ·rw [if_neg (by simp;omega)]
   have hq:cat (⟨#[109]⟩:ByteArray) b=some ((⟨#[109]⟩:ByteArray)++b):=by
    unfold cat;rw [if_pos (by show 1+b.size≤_;omega)]
   first | exact ⟨_,by rw [hq,Option.bind_some],by rw [ByteArray.size_append];show 1+b.size≤_;omega⟩ | exact ⟨_,by rw [hq];rfl,by rw [ByteArray.size_append];show 1+b.size≤_;omega⟩
theorem aN7 (k:Int) (h0:0≤k) (h:k<KB) : ∃t,aG k=some t:=by
 unfold aG
 by_cases hk:k≤0
 ·exact ⟨_,by rw [if_pos (by simpa using hk)]⟩
 ·rw [if_neg (by simpa using hk)]
  obtain ⟨t,h1,_⟩:=aNc fuel k ⟨#[]⟩ (by unfold fuel KB at *;omega) h0 (by show ((0:Nat):Int)+k≤KB;omega)
  exact ⟨t,h1⟩
def mtx (k:Int):ByteArray:=(aG k).getD ⟨#[]⟩
theorem mt {k:Int} (h0:0≤k) (h:k<KB):aG k=some (mtx k):=by
 obtain ⟨t,ht⟩:=aN7 k h0 h
 unfold mtx;rw [ht];rfl
set_option maxHeartbeats 4000000 in
theorem M.aCD.pF (x:Int) (hx:True) (k:Int) (h0:0≤k) (hB:k+(((fun _:Int=>1) x:Nat):Int)≤KB) : ∃x':Int,(∀n (pre post:List Int),(pre++x::post).length≤maxLen→dZ (n+1) k pre.length (pre++x::post)=dZ n (k+(((fun _:Int=>1) x:Nat):Int)) ((pre.length+1:Nat):Int) (pre++x'::post)) ∧ ∀n (l:List Int) (i:Nat),l[i]? = some x'→l.length≤maxLen→fD l (n+1) k i=fD l n (k+(((fun _:Int=>1) x:Nat):Int)) ((i+1:Nat):Int):=by
 unfold KB at hB;(try simp only [] at hB ⊢)
 have A:(0≤k∧k≤KB)∧(0≤k+1∧k+1≤KB):=by
  unfold KB
  refine ⟨?_,?_⟩<;>omega
 have hE:k+1=k+(((fun _:Int=>1) x:Nat):Int):=by simp
 obtain ⟨q0,q1⟩:=A
 have w0:=wk2 q0
 refine ⟨(IntKind.u8.wrap k),fun n pre post hl => ?_,fun n l i hi hl => ?_⟩
 ·have hl':=le_max hl
  have hp:pre.length<9223372036854775807:=by simp at hl';omega
  simp only [dZ]
  rw [if_pos (aAY pre post x)]
  simp (maxSteps:=2000000) only [rK,rH,Option.bind_some,bB hp,w0]
  rw [hE]
 ·have hl':=le_max hl
  have hp:i<9223372036854775807:=by have:=(List.getElem?_eq_some_iff.1 hi).1;omega
  simp only [fD]
  rw [if_pos (aCE hi)]
  simp (maxSteps:=2000000) only [aAa hi,Option.bind_some,bB hp,w0,bne_self_eq_false,beq_self_eq_true,Bool.not_true,Bool.false_eq_true,if_false]
  rw [hE]
theorem M.aCD.cl (xs:List Int):aC (fun _:Int=>1) xs=xs.length:=by
 induction xs with
 | nil=>rfl
 | cons x xs ih=>simp only [aC,ih,List.length_cons];omega
theorem M.aCD.gY (xs:List Int) (hx:okB xs) (k:Int) (h0:0≤k) (hB:k+((xs.length:Nat):Int)≤KB) : ∃ys,nN xs k=some (ys,k+((xs.length:Nat):Int))∧nG ys k=some (k+((xs.length:Nat):Int))∧ys.length=xs.length:=by
 have hm:=le_max hx.1
 rw [←M.aCD.cl xs] at hB ⊢
 obtain ⟨ys,h1,h2,h3⟩:=kV (ML:=dZ) (HL:=fD) (c:=(fun _:Int=>1)) (ok:=(fun _:Int=>True)) (fun x hx k h0 hB=>M.aCD.pF x hx k h0 hB) (fun n k l=>by simp only [dZ];rw [if_neg (by rw [aP];simp)]) (fun n k l=>by simp only [fD];rw [if_neg (by rw [aP];simp)]) xs [] fuel k (by simpa using hx.1) (by unfold fuel;omega) (fun _ _=>trivial) h0 hB
 refine ⟨ys,by unfold nN;simpa using h2,by unfold nG;simpa using h3 fuel (by unfold fuel;omega),by have:=M.aCD.cl xs;omega⟩
def M.Cached.cnt (x:M.Cached):Nat:=6+(x.Response.Body.length)
set_option maxHeartbeats 4000000 in
theorem M.Cached.pF (x:M.Cached) (hx:M.Cached.ok x) (k:Int) (h0:0≤k) (hB:k+((M.Cached.cnt x:Nat):Int)≤KB) : ∃x':M.Cached,(∀n (pre post:List M.Cached),(pre++x::post).length≤maxLen→cN (n+1) k pre.length (pre++x::post)=cN n (k+((M.Cached.cnt x:Nat):Int)) ((pre.length+1:Nat):Int) (pre++x'::post)) ∧ ∀n (l:List M.Cached) (i:Nat),l[i]? = some x'→l.length≤maxLen→dM l (n+1) k i=dM l n (k+((M.Cached.cnt x:Nat):Int)) ((i+1:Nat):Int):=by
 unfold KB at hB;unfold M.Cached.cnt at hB ⊢
 have A:(0≤k∧k≤KB)∧(0≤k+1∧k+1≤KB)∧(0≤k+1+1∧k+1+1≤KB)∧(0≤k+1+1+1∧k+1+1+1≤KB)∧(0≤k+1+1+1+1∧k+1+1+1+1≤KB)∧(0≤k+1+1+1+1+1∧k+1+1+1+1+1≤KB)∧(0≤k+1+1+1+1+1+((x.Response.Body.length:Nat):Int)∧k+1+1+1+1+1+((x.Response.Body.length:Nat):Int)≤KB)∧(0≤k+1+1+1+1+1+((x.Response.Body.length:Nat):Int)+1∧k+1+1+1+1+1+((x.Response.Body.length:Nat):Int)+1≤KB):=by
  unfold KB
  refine ⟨?_,?_,?_,?_,?_,?_,?_,?_⟩<;>omega
 have hE:k+1+1+1+1+1+((x.Response.Body.length:Nat):Int)+1=k+((M.Cached.cnt x:Nat):Int):=by unfold M.Cached.cnt;omega
 unfold M.Cached.cnt at hE
 obtain ⟨q0,q1,q2,q3,q4,q5,q6,q7⟩:=A
 have t0:aG (k)=some (mtx (k)):=mt q0.1 (Int.lt_of_add_one_le q1.2)
 have w0:=wk2 q0
 have t1:aG (k+1)=some (mtx (k+1)):=mt q1.1 (Int.lt_of_add_one_le q2.2)
 have w1:=wk2 q1
 have w2:=wk2 q2
 have w3:=wk2 q3
 have w4:=wk2 q4
 obtain ⟨y1,a1,b1,_⟩:=M.aCD.gY _ hx.Response.Body (k+1+1+1+1+1) q5.1 q6.2
 have d1:(decide (k+1+1+1+1+1+((x.Response.Body.length:Nat):Int)<0))=false:=dk q6.1
 have w6:=wk2 q6
 refine ⟨⟨(mtx (k)),(mtx (k+1)),⟨k+1+1,k+1+1+1,k+1+1+1+1,y1,((Int.tmod (k+1+1+1+1+1+((x.Response.Body.length:Nat):Int)) 3)==0)⟩⟩,fun n pre post hl => ?_,fun n l i hi hl => ?_⟩
 ·have hl':=le_max hl
  have hp:pre.length<9223372036854775807:=by simp at hl';omega
  simp only [cN]
  rw [if_pos (aAY pre post x)]
  simp (maxSteps:=2000000) only [rK,rH,Option.bind_some,bB hp,t0,w0,t1,w1,w2,w3,w4,a1,w6]
  rw [hE]
 ·have hl':=le_max hl
  have hp:i<9223372036854775807:=by have:=(List.getElem?_eq_some_iff.1 hi).1;omega
  simp only [dM]
  rw [if_pos (aCE hi)]
  simp (maxSteps:=2000000) only [aAa hi,Option.bind_some,bB hp,t0,w0,t1,w1,w2,w3,w4,b1,d1,w6,bne_self_eq_false,beq_self_eq_true,Bool.not_true,Bool.false_eq_true,if_false]
  rw [hE]
theorem M.aCF.gY (xs:List M.Cached) (hx:(xs.length≤maxLen ∧ ∀y∈xs,M.Cached.ok y)) (k:Int) (h0:0≤k) (hB:k+((aC M.Cached.cnt xs:Nat):Int)≤KB) : ∃ys,oA xs k=some (ys,k+((aC M.Cached.cnt xs:Nat):Int))∧nQ ys k=some (k+((aC M.Cached.cnt xs:Nat):Int))∧ys.length=xs.length:=by
 have hm:=le_max hx.1
 obtain ⟨ys,h1,h2,h3⟩:=kV (ML:=cN) (HL:=dM) (c:=M.Cached.cnt) (ok:=M.Cached.ok) (fun x hx k h0 hB=>M.Cached.pF x hx k h0 hB) (fun n k l=>by simp only [cN];rw [if_neg (by rw [aP];simp)]) (fun n k l=>by simp only [dM];rw [if_neg (by rw [aP];simp)]) xs [] fuel k (by simpa using hx.1) (by unfold fuel;omega) hx.2 h0 hB
 refine ⟨ys,by unfold oA;simpa using h2,by unfold nQ;simpa using h3 fuel (by unfold fuel;omega),h1⟩
def M.Cache.cnt (x:M.Cache):Nat:=1+(aC M.Cached.cnt x.Entries)
set_option maxHeartbeats 4000000 in
theorem M.Cache.pF (x:M.Cache) (hx:M.Cache.ok x) (k:Int) (h0:0≤k) (hB:k+((M.Cache.cnt x:Nat):Int)≤KB) : ∃x':M.Cache,(∀n (pre post:List M.Cache),(pre++x::post).length≤maxLen→dD (n+1) k pre.length (pre++x::post)=dD n (k+((M.Cache.cnt x:Nat):Int)) ((pre.length+1:Nat):Int) (pre++x'::post)) ∧ ∀n (l:List M.Cache) (i:Nat),l[i]? = some x'→l.length≤maxLen→eH l (n+1) k i=eH l n (k+((M.Cache.cnt x:Nat):Int)) ((i+1:Nat):Int):=by
 unfold KB at hB;unfold M.Cache.cnt at hB ⊢
 have A:(0≤k∧k≤KB)∧(0≤k+1∧k+1≤KB)∧(0≤k+1+((aC M.Cached.cnt x.Entries:Nat):Int)∧k+1+((aC M.Cached.cnt x.Entries:Nat):Int)≤KB):=by
  unfold KB
  refine ⟨?_,?_,?_⟩<;>omega
 have hE:k+1+((aC M.Cached.cnt x.Entries:Nat):Int)=k+((M.Cache.cnt x:Nat):Int):=by unfold M.Cache.cnt;omega
 unfold M.Cache.cnt at hE
 obtain ⟨q0,q1,q2⟩:=A
 have w0:=wk2 q0
 obtain ⟨y1,a1,b1,_⟩:=M.aCF.gY _ hx.Entries (k+1) q1.1 q2.2
 have d1:(decide (k+1+((aC M.Cached.cnt x.Entries:Nat):Int)<0))=false:=dk q2.1
 refine ⟨⟨k,y1⟩,fun n pre post hl => ?_,fun n l i hi hl => ?_⟩
 ·have hl':=le_max hl
  have hp:pre.length<9223372036854775807:=by simp at hl';omega
  simp only [dD]
  rw [if_pos (aAY pre post x)]
  simp (maxSteps:=2000000) only [rK,rH,Option.bind_some,bB hp,w0,a1]
  rw [hE]
 ·have hl':=le_max hl
  have hp:i<9223372036854775807:=by have:=(List.getElem?_eq_some_iff.1 hi).1;omega
  simp only [eH]
  rw [if_pos (aCE hi)]
  simp (maxSteps:=2000000) only [aAa hi,Option.bind_some,bB hp,w0,b1,d1,bne_self_eq_false,beq_self_eq_true,Bool.not_true,Bool.false_eq_true,if_false]
  rw [hE]
theorem M.aEA.gY (xs:List M.Cache) (hx:(xs.length≤maxLen ∧ ∀y∈xs,M.Cache.ok y)) (k:Int) (h0:0≤k) (hB:k+((aC M.Cache.cnt xs:Nat):Int)≤KB) : ∃ys,rG xs k=some (ys,k+((aC M.Cache.cnt xs:Nat):Int))∧pU ys k=some (k+((aC M.Cache.cnt xs:Nat):Int))∧ys.length=xs.length:=by
 have hm:=le_max hx.1
 obtain ⟨ys,h1,h2,h3⟩:=kV (ML:=dD) (HL:=eH) (c:=M.Cache.cnt) (ok:=M.Cache.ok) (fun x hx k h0 hB=>M.Cache.pF x hx k h0 hB) (fun n k l=>by simp only [dD];rw [if_neg (by rw [aP];simp)]) (fun n k l=>by simp only [eH];rw [if_neg (by rw [aP];simp)]) xs [] fuel k (by simpa using hx.1) (by unfold fuel;omega) hx.2 h0 hB
 refine ⟨ys,by unfold rG;simpa using h2,by unfold pU;simpa using h3 fuel (by unfold fuel;omega),h1⟩
def M.Field.cnt (x:M.Field):Nat:=2
set_option maxHeartbeats 4000000 in
theorem M.Field.pF (x:M.Field) (hx:M.Field.ok x) (k:Int) (h0:0≤k) (hB:k+((M.Field.cnt x:Nat):Int)≤KB) : ∃x':M.Field,(∀n (pre post:List M.Field),(pre++x::post).length≤maxLen→cY (n+1) k pre.length (pre++x::post)=cY n (k+((M.Field.cnt x:Nat):Int)) ((pre.length+1:Nat):Int) (pre++x'::post)) ∧ ∀n (l:List M.Field) (i:Nat),l[i]? = some x'→l.length≤maxLen→eL l (n+1) k i=eL l n (k+((M.Field.cnt x:Nat):Int)) ((i+1:Nat):Int):=by
 unfold KB at hB;unfold M.Field.cnt at hB ⊢
 have A:(0≤k∧k≤KB)∧(0≤k+1∧k+1≤KB)∧(0≤k+1+1∧k+1+1≤KB):=by
  unfold KB
  refine ⟨?_,?_,?_⟩<;>omega
 have hE:k+1+1=k+((M.Field.cnt x:Nat):Int):=by unfold M.Field.cnt;omega
 unfold M.Field.cnt at hE
 obtain ⟨q0,q1,q2⟩:=A
 have t0:aG (k)=some (mtx (k)):=mt q0.1 (Int.lt_of_add_one_le q1.2)
 have w0:=wk2 q0
 have w1:=wk2 q1
 refine ⟨⟨(mtx (k)),k+1⟩,fun n pre post hl => ?_,fun n l i hi hl => ?_⟩
 ·have hl':=le_max hl
  have hp:pre.length<9223372036854775807:=by simp at hl';omega
  simp only [cY]
  rw [if_pos (aAY pre post x)]
  simp (maxSteps:=2000000) only [rK,rH,Option.bind_some,bB hp,t0,w0,w1]
  rw [hE]
 ·have hl':=le_max hl
  have hp:i<9223372036854775807:=by have:=(List.getElem?_eq_some_iff.1 hi).1;omega
  simp only [eL]
  rw [if_pos (aCE hi)]
  simp (maxSteps:=2000000) only [aAa hi,Option.bind_some,bB hp,t0,w0,w1,bne_self_eq_false,beq_self_eq_true,Bool.not_true,Bool.false_eq_true,if_false]
  rw [hE]
theorem M.aEg.gY (xs:List M.Field) (hx:(xs.length≤maxLen ∧ ∀y∈xs,M.Field.ok y)) (k:Int) (h0:0≤k) (hB:k+((aC M.Field.cnt xs:Nat):Int)≤KB) : ∃ys,qX xs k=some (ys,k+((aC M.Field.cnt xs:Nat):Int))∧qE ys k=some (k+((aC M.Field.cnt xs:Nat):Int))∧ys.length=xs.length:=by
 have hm:=le_max hx.1
 obtain ⟨ys,h1,h2,h3⟩:=kV (ML:=cY) (HL:=eL) (c:=M.Field.cnt) (ok:=M.Field.ok) (fun x hx k h0 hB=>M.Field.pF x hx k h0 hB) (fun n k l=>by simp only [cY];rw [if_neg (by rw [aP];simp)]) (fun n k l=>by simp only [eL];rw [if_neg (by rw [aP];simp)]) xs [] fuel k (by simpa using hx.1) (by unfold fuel;omega) hx.2 h0 hB
 refine ⟨ys,by unfold qX;simpa using h2,by unfold qE;simpa using h3 fuel (by unfold fuel;omega),h1⟩
def M.Item.cnt (x:M.Item):Nat:=3+(aC M.Field.cnt x.aU.Fields)
set_option maxHeartbeats 4000000 in
theorem M.Item.pF (x:M.Item) (hx:M.Item.ok x) (k:Int) (h0:0≤k) (hB:k+((M.Item.cnt x:Nat):Int)≤KB) : ∃x':M.Item,(∀n (pre post:List M.Item),(pre++x::post).length≤maxLen→dX (n+1) k pre.length (pre++x::post)=dX n (k+((M.Item.cnt x:Nat):Int)) ((pre.length+1:Nat):Int) (pre++x'::post)) ∧ ∀n (l:List M.Item) (i:Nat),l[i]? = some x'→l.length≤maxLen→fF l (n+1) k i=fF l n (k+((M.Item.cnt x:Nat):Int)) ((i+1:Nat):Int):=by
 unfold KB at hB;unfold M.Item.cnt at hB ⊢
 have A:(0≤k∧k≤KB)∧(0≤k+1∧k+1≤KB)∧(0≤k+1+1∧k+1+1≤KB)∧(0≤k+1+1+1∧k+1+1+1≤KB)∧(0≤k+1+1+1+((aC M.Field.cnt x.aU.Fields:Nat):Int)∧k+1+1+1+((aC M.Field.cnt x.aU.Fields:Nat):Int)≤KB):=by
  unfold KB
  refine ⟨?_,?_,?_,?_,?_⟩<;>omega
 have hE:k+1+1+1+((aC M.Field.cnt x.aU.Fields:Nat):Int)=k+((M.Item.cnt x:Nat):Int):=by unfold M.Item.cnt;omega
 unfold M.Item.cnt at hE
 obtain ⟨q0,q1,q2,q3,q4⟩:=A
 have w0:=wk2 q0
 have w1:=wk2 q1
 have t2:aG (k+1+1)=some (mtx (k+1+1)):=mt q2.1 (Int.lt_of_add_one_le q3.2)
 have w2:=wk2 q2
 obtain ⟨y1,a1,b1,_⟩:=M.aEg.gY _ hx.aU.Fields (k+1+1+1) q3.1 q4.2
 have d1:(decide (k+1+1+1+((aC M.Field.cnt x.aU.Fields:Nat):Int)<0))=false:=dk q4.1
 refine ⟨⟨⟨k,k+1,(mtx (k+1+1))⟩,⟨y1⟩⟩,fun n pre post hl => ?_,fun n l i hi hl => ?_⟩
 ·have hl':=le_max hl
  have hp:pre.length<9223372036854775807:=by simp at hl';omega
  simp only [dX]
  rw [if_pos (aAY pre post x)]
  simp (maxSteps:=2000000) only [rK,rH,Option.bind_some,bB hp,w0,w1,t2,w2,a1]
  rw [hE]
 ·have hl':=le_max hl
  have hp:i<9223372036854775807:=by have:=(List.getElem?_eq_some_iff.1 hi).1;omega
  simp only [fF]
  rw [if_pos (aCE hi)]
  simp (maxSteps:=2000000) only [aAa hi,Option.bind_some,bB hp,w0,w1,t2,w2,b1,d1,bne_self_eq_false,beq_self_eq_true,Bool.not_true,Bool.false_eq_true,if_false]
  rw [hE]
theorem M.aEz.gY (xs:List M.Item) (hx:(xs.length≤maxLen ∧ ∀y∈xs,M.Item.ok y)) (k:Int) (h0:0≤k) (hB:k+((aC M.Item.cnt xs:Nat):Int)≤KB) : ∃ys,kY xs k=some (ys,k+((aC M.Item.cnt xs:Nat):Int))∧kZ ys k=some (k+((aC M.Item.cnt xs:Nat):Int))∧ys.length=xs.length:=by
 have hm:=le_max hx.1
 obtain ⟨ys,h1,h2,h3⟩:=kV (ML:=dX) (HL:=fF) (c:=M.Item.cnt) (ok:=M.Item.ok) (fun x hx k h0 hB=>M.Item.pF x hx k h0 hB) (fun n k l=>by simp only [dX];rw [if_neg (by rw [aP];simp)]) (fun n k l=>by simp only [fF];rw [if_neg (by rw [aP];simp)]) xs [] fuel k (by simpa using hx.1) (by unfold fuel;omega) hx.2 h0 hB
 refine ⟨ys,by unfold kY;simpa using h2,by unfold kZ;simpa using h3 fuel (by unfold fuel;omega),h1⟩
def M.aH.cnt (x:M.aH):Nat:=2+(aC M.Item.cnt x.Items)
set_option maxHeartbeats 4000000 in
theorem M.aH.pF (x:M.aH) (hx:M.aH.ok x) (k:Int) (h0:0≤k) (hB:k+((M.aH.cnt x:Nat):Int)≤KB) : ∃x':M.aH,(∀n (pre post:List M.aH),(pre++x::post).length≤maxLen→dB (n+1) k pre.length (pre++x::post)=dB n (k+((M.aH.cnt x:Nat):Int)) ((pre.length+1:Nat):Int) (pre++x'::post)) ∧ ∀n (l:List M.aH) (i:Nat),l[i]? = some x'→l.length≤maxLen→eI l (n+1) k i=eI l n (k+((M.aH.cnt x:Nat):Int)) ((i+1:Nat):Int):=by
 unfold KB at hB;unfold M.aH.cnt at hB ⊢
 have A:(0≤k∧k≤KB)∧(0≤k+1∧k+1≤KB)∧(0≤k+1+((aC M.Item.cnt x.Items:Nat):Int)∧k+1+((aC M.Item.cnt x.Items:Nat):Int)≤KB)∧(0≤k+1+((aC M.Item.cnt x.Items:Nat):Int)+1∧k+1+((aC M.Item.cnt x.Items:Nat):Int)+1≤KB):=by
  unfold KB
  refine ⟨?_,?_,?_,?_⟩<;>omega
 have hE:k+1+((aC M.Item.cnt x.Items:Nat):Int)+1=k+((M.aH.cnt x:Nat):Int):=by unfold M.aH.cnt;omega
 unfold M.aH.cnt at hE
 obtain ⟨q0,q1,q2,q3⟩:=A
 have t0:aG (k)=some (mtx (k)):=mt q0.1 (Int.lt_of_add_one_le q1.2)
 have w0:=wk2 q0
 obtain ⟨y1,a1,b1,_⟩:=M.aEz.gY _ hx.Items (k+1) q1.1 q2.2
 have d1:(decide (k+1+((aC M.Item.cnt x.Items:Nat):Int)<0))=false:=dk q2.1
 have w2:=wk2 q2
 refine ⟨⟨(mtx (k)),y1,k+1+((aC M.Item.cnt x.Items:Nat):Int)⟩,fun n pre post hl => ?_,fun n l i hi hl => ?_⟩
 ·have hl':=le_max hl
  have hp:pre.length<9223372036854775807:=by simp at hl';omega
  simp only [dB]
  rw [if_pos (aAY pre post x)]
  simp (maxSteps:=2000000) only [rK,rH,Option.bind_some,bB hp,t0,w0,a1,w2]
  rw [hE]
 ·have hl':=le_max hl
  have hp:i<9223372036854775807:=by have:=(List.getElem?_eq_some_iff.1 hi).1;omega
  simp only [eI]
  rw [if_pos (aCE hi)]
  simp (maxSteps:=2000000) only [aAa hi,Option.bind_some,bB hp,t0,w0,b1,d1,w2,bne_self_eq_false,beq_self_eq_true,Bool.not_true,Bool.false_eq_true,if_false]
  rw [hE]
theorem M.aDx.gY (xs:List M.aH) (hx:(xs.length≤maxLen ∧ ∀y∈xs,M.aH.ok y)) (k:Int) (h0:0≤k) (hB:k+((aC M.aH.cnt xs:Nat):Int)≤KB) : ∃ys,qA xs k=some (ys,k+((aC M.aH.cnt xs:Nat):Int))∧pP ys k=some (k+((aC M.aH.cnt xs:Nat):Int))∧ys.length=xs.length:=by
 have hm:=le_max hx.1
 obtain ⟨ys,h1,h2,h3⟩:=kV (ML:=dB) (HL:=eI) (c:=M.aH.cnt) (ok:=M.aH.ok) (fun x hx k h0 hB=>M.aH.pF x hx k h0 hB) (fun n k l=>by simp only [dB];rw [if_neg (by rw [aP];simp)]) (fun n k l=>by simp only [eI];rw [if_neg (by rw [aP];simp)]) xs [] fuel k (by simpa using hx.1) (by unfold fuel;omega) hx.2 h0 hB
 refine ⟨ys,by unfold qA;simpa using h2,by unfold pP;simpa using h3 fuel (by unfold fuel;omega),h1⟩
def M.aA.cnt (x:M.aA):Nat:=2
set_option maxHeartbeats 4000000 in
theorem M.aA.pF (x:M.aA) (hx:M.aA.ok x) (k:Int) (h0:0≤k) (hB:k+((M.aA.cnt x:Nat):Int)≤KB) : ∃x':M.aA,(∀n (pre post:List M.aA),(pre++x::post).length≤maxLen→bV (n+1) k pre.length (pre++x::post)=bV n (k+((M.aA.cnt x:Nat):Int)) ((pre.length+1:Nat):Int) (pre++x'::post)) ∧ ∀n (l:List M.aA) (i:Nat),l[i]? = some x'→l.length≤maxLen→cH l (n+1) k i=cH l n (k+((M.aA.cnt x:Nat):Int)) ((i+1:Nat):Int):=by
 unfold KB at hB;unfold M.aA.cnt at hB ⊢
 have A:(0≤k∧k≤KB)∧(0≤k+1∧k+1≤KB)∧(0≤k+1+1∧k+1+1≤KB):=by
  unfold KB
  refine ⟨?_,?_,?_⟩<;>omega
 have hE:k+1+1=k+((M.aA.cnt x:Nat):Int):=by unfold M.aA.cnt;omega
 unfold M.aA.cnt at hE
 obtain ⟨q0,q1,q2⟩:=A
 have t0:aG (k)=some (mtx (k)):=mt q0.1 (Int.lt_of_add_one_le q1.2)
 have w0:=wk2 q0
 have t1:aG (k+1)=some (mtx (k+1)):=mt q1.1 (Int.lt_of_add_one_le q2.2)
 have w1:=wk2 q1
 refine ⟨⟨(mtx (k)),(mtx (k+1))⟩,fun n pre post hl => ?_,fun n l i hi hl => ?_⟩
 ·have hl':=le_max hl
  have hp:pre.length<9223372036854775807:=by simp at hl';omega
  simp only [bV]
  rw [if_pos (aAY pre post x)]
  simp (maxSteps:=2000000) only [rK,rH,Option.bind_some,bB hp,t0,w0,t1,w1]
  rw [hE]
 ·have hl':=le_max hl
  have hp:i<9223372036854775807:=by have:=(List.getElem?_eq_some_iff.1 hi).1;omega
  simp only [cH]
  rw [if_pos (aCE hi)]
  simp (maxSteps:=2000000) only [aAa hi,Option.bind_some,bB hp,t0,w0,t1,w1,bne_self_eq_false,beq_self_eq_true,Bool.not_true,Bool.false_eq_true,if_false]
  rw [hE]
theorem M.aA4.gY (xs:List M.aA) (hx:(xs.length≤maxLen ∧ ∀y∈xs,M.aA.ok y)) (k:Int) (h0:0≤k) (hB:k+((aC M.aA.cnt xs:Nat):Int)≤KB) : ∃ys,lG xs k=some (ys,k+((aC M.aA.cnt xs:Nat):Int))∧lF ys k=some (k+((aC M.aA.cnt xs:Nat):Int))∧ys.length=xs.length:=by
 have hm:=le_max hx.1
 obtain ⟨ys,h1,h2,h3⟩:=kV (ML:=bV) (HL:=cH) (c:=M.aA.cnt) (ok:=M.aA.ok) (fun x hx k h0 hB=>M.aA.pF x hx k h0 hB) (fun n k l=>by simp only [bV];rw [if_neg (by rw [aP];simp)]) (fun n k l=>by simp only [cH];rw [if_neg (by rw [aP];simp)]) xs [] fuel k (by simpa using hx.1) (by unfold fuel;omega) hx.2 h0 hB
 refine ⟨ys,by unfold lG;simpa using h2,by unfold lF;simpa using h3 fuel (by unfold fuel;omega),h1⟩
def M.aY.cnt (x:M.aY):Nat:=7
set_option maxHeartbeats 4000000 in
theorem M.aY.pF (x:M.aY) (hx:M.aY.ok x) (k:Int) (h0:0≤k) (hB:k+((M.aY.cnt x:Nat):Int)≤KB) : ∃x':M.aY,(∀n (pre post:List M.aY),(pre++x::post).length≤maxLen→dA (n+1) k pre.length (pre++x::post)=dA n (k+((M.aY.cnt x:Nat):Int)) ((pre.length+1:Nat):Int) (pre++x'::post)) ∧ ∀n (l:List M.aY) (i:Nat),l[i]? = some x'→l.length≤maxLen→eF l (n+1) k i=eF l n (k+((M.aY.cnt x:Nat):Int)) ((i+1:Nat):Int):=by
 unfold KB at hB;unfold M.aY.cnt at hB ⊢
 have A:(0≤k∧k≤KB)∧(0≤k+1∧k+1≤KB)∧(0≤k+1+1∧k+1+1≤KB)∧(0≤k+1+1+1∧k+1+1+1≤KB)∧(0≤k+1+1+1+1∧k+1+1+1+1≤KB)∧(0≤k+1+1+1+1+1∧k+1+1+1+1+1≤KB)∧(0≤k+1+1+1+1+1+1∧k+1+1+1+1+1+1≤KB)∧(0≤k+1+1+1+1+1+1+1∧k+1+1+1+1+1+1+1≤KB):=by
  unfold KB
  refine ⟨?_,?_,?_,?_,?_,?_,?_,?_⟩<;>omega
 have hE:k+1+1+1+1+1+1+1=k+((M.aY.cnt x:Nat):Int):=by unfold M.aY.cnt;omega
 unfold M.aY.cnt at hE
 obtain ⟨q0,q1,q2,q3,q4,q5,q6,q7⟩:=A
 have w0:=wk2 q0
 have w1:=wk2 q1
 have w2:=wk2 q2
 have w3:=wk2 q3
 have t4:aG (k+1+1+1+1)=some (mtx (k+1+1+1+1)):=mt q4.1 (Int.lt_of_add_one_le q5.2)
 have w4:=wk2 q4
 have t5:aG (k+1+1+1+1+1)=some (mtx (k+1+1+1+1+1)):=mt q5.1 (Int.lt_of_add_one_le q6.2)
 have w5:=wk2 q5
 have w6:=wk2 q6
 refine ⟨⟨k,k+1,⟨k+1+1,k+1+1+1,(mtx (k+1+1+1+1))⟩,(mtx (k+1+1+1+1+1)),k+1+1+1+1+1+1⟩,fun n pre post hl => ?_,fun n l i hi hl => ?_⟩
 ·have hl':=le_max hl
  have hp:pre.length<9223372036854775807:=by simp at hl';omega
  simp only [dA]
  rw [if_pos (aAY pre post x)]
  simp (maxSteps:=2000000) only [rK,rH,Option.bind_some,bB hp,w0,w1,w2,w3,t4,w4,t5,w5,w6]
  rw [hE]
 ·have hl':=le_max hl
  have hp:i<9223372036854775807:=by have:=(List.getElem?_eq_some_iff.1 hi).1;omega
  simp only [eF]
  rw [if_pos (aCE hi)]
  simp (maxSteps:=2000000) only [aAa hi,Option.bind_some,bB hp,w0,w1,w2,w3,t4,w4,t5,w5,w6,bne_self_eq_false,beq_self_eq_true,Bool.not_true,Bool.false_eq_true,if_false]
  rw [hE]
theorem M.aBq.gY (xs:List M.aY) (hx:(xs.length≤maxLen ∧ ∀y∈xs,M.aY.ok y)) (k:Int) (h0:0≤k) (hB:k+((aC M.aY.cnt xs:Nat):Int)≤KB) : ∃ys,lW xs k=some (ys,k+((aC M.aY.cnt xs:Nat):Int))∧lZ ys k=some (k+((aC M.aY.cnt xs:Nat):Int))∧ys.length=xs.length:=by
 have hm:=le_max hx.1
 obtain ⟨ys,h1,h2,h3⟩:=kV (ML:=dA) (HL:=eF) (c:=M.aY.cnt) (ok:=M.aY.ok) (fun x hx k h0 hB=>M.aY.pF x hx k h0 hB) (fun n k l=>by simp only [dA];rw [if_neg (by rw [aP];simp)]) (fun n k l=>by simp only [eF];rw [if_neg (by rw [aP];simp)]) xs [] fuel k (by simpa using hx.1) (by unfold fuel;omega) hx.2 h0 hB
 refine ⟨ys,by unfold lW;simpa using h2,by unfold lZ;simpa using h3 fuel (by unfold fuel;omega),h1⟩
def M.aF.cnt (x:M.aF):Nat:=18+(aC M.Cache.cnt x.Caches.Caches)+(aC M.aH.cnt x.bE.Base.Stores)+(aC M.aA.cnt x.bE.Base.Unique)+(x.bE.Log.length)+(aC M.Item.cnt x.aD.Base.Items)+(aC M.aY.cnt x.aD.Sync.aV.Writes)
set_option maxHeartbeats 4000000 in
theorem M.aF.pF (x:M.aF) (hx:M.aF.ok x) (k:Int) (h0:0≤k) (hB:k+((M.aF.cnt x:Nat):Int)≤KB) : ∃x':M.aF,(∀n (pre post:List M.aF),(pre++x::post).length≤maxLen→cR (n+1) k pre.length (pre++x::post)=cR n (k+((M.aF.cnt x:Nat):Int)) ((pre.length+1:Nat):Int) (pre++x'::post)) ∧ ∀n (l:List M.aF) (i:Nat),l[i]? = some x'→l.length≤maxLen→cP l (n+1) k i=cP l n (k+((M.aF.cnt x:Nat):Int)) ((i+1:Nat):Int):=by
 unfold KB at hB;unfold M.aF.cnt at hB ⊢
 have A:(0≤k∧k≤KB)∧(0≤k+1∧k+1≤KB)∧(0≤k+1+1∧k+1+1≤KB)∧(0≤k+1+1+1∧k+1+1+1≤KB)∧(0≤k+1+1+1+1∧k+1+1+1+1≤KB)∧(0≤k+1+1+1+1+1∧k+1+1+1+1+1≤KB)∧(0≤k+1+1+1+1+1+1∧k+1+1+1+1+1+1≤KB)∧(0≤k+1+1+1+1+1+1+((aC M.Cache.cnt x.Caches.Caches:Nat):Int)∧k+1+1+1+1+1+1+((aC M.Cache.cnt x.Caches.Caches:Nat):Int)≤KB)∧(0≤k+1+1+1+1+1+1+((aC M.Cache.cnt x.Caches.Caches:Nat):Int)+1∧k+1+1+1+1+1+1+((aC M.Cache.cnt x.Caches.Caches:Nat):Int)+1≤KB)∧(0≤k+1+1+1+1+1+1+((aC M.Cache.cnt x.Caches.Caches:Nat):Int)+1+1∧k+1+1+1+1+1+1+((aC M.Cache.cnt x.Caches.Caches:Nat):Int)+1+1≤KB)∧(0≤k+1+1+1+1+1+1+((aC M.Cache.cnt x.Caches.Caches:Nat):Int)+1+1+((aC M.aH.cnt x.bE.Base.Stores:Nat):Int)∧k+1+1+1+1+1+1+((aC M.Cache.cnt x.Caches.Caches:Nat):Int)+1+1+((aC M.aH.cnt x.bE.Base.Stores:Nat):Int)≤KB)∧(0≤k+1+1+1+1+1+1+((aC M.Cache.cnt x.Caches.Caches:Nat):Int)+1+1+((aC M.aH.cnt x.bE.Base.Stores:Nat):Int)+((aC M.aA.cnt x.bE.Base.Unique:Nat):Int)∧k+1+1+1+1+1+1+((aC M.Cache.cnt x.Caches.Caches:Nat):Int)+1+1+((aC M.aH.cnt x.bE.Base.Stores:Nat):Int)+((aC M.aA.cnt x.bE.Base.Unique:Nat):Int)≤KB)∧(0≤k+1+1+1+1+1+1+((aC M.Cache.cnt x.Caches.Caches:Nat):Int)+1+1+((aC M.aH.cnt x.bE.Base.Stores:Nat):Int)+((aC M.aA.cnt x.bE.Base.Unique:Nat):Int)+((x.bE.Log.length:Nat):Int)∧k+1+1+1+1+1+1+((aC M.Cache.cnt x.Caches.Caches:Nat):Int)+1+1+((aC M.aH.cnt x.bE.Base.Stores:Nat):Int)+((aC M.aA.cnt x.bE.Base.Unique:Nat):Int)+((x.bE.Log.length:Nat):Int)≤KB)∧(0≤k+1+1+1+1+1+1+((aC M.Cache.cnt x.Caches.Caches:Nat):Int)+1+1+((aC M.aH.cnt x.bE.Base.Stores:Nat):Int)+((aC M.aA.cnt x.bE.Base.Unique:Nat):Int)+((x.bE.Log.length:Nat):Int)+1∧k+1+1+1+1+1+1+((aC M.Cache.cnt x.Caches.Caches:Nat):Int)+1+1+((aC M.aH.cnt x.bE.Base.Stores:Nat):Int)+((aC M.aA.cnt x.bE.Base.Unique:Nat):Int)+((x.bE.Log.length:Nat):Int)+1≤KB)∧(0≤k+1+1+1+1+1+1+((aC M.Cache.cnt x.Caches.Caches:Nat):Int)+1+1+((aC M.aH.cnt x.bE.Base.Stores:Nat):Int)+((aC M.aA.cnt x.bE.Base.Unique:Nat):Int)+((x.bE.Log.length:Nat):Int)+1+1∧k+1+1+1+1+1+1+((aC M.Cache.cnt x.Caches.Caches:Nat):Int)+1+1+((aC M.aH.cnt x.bE.Base.Stores:Nat):Int)+((aC M.aA.cnt x.bE.Base.Unique:Nat):Int)+((x.bE.Log.length:Nat):Int)+1+1≤KB)∧(0≤k+1+1+1+1+1+1+((aC M.Cache.cnt x.Caches.Caches:Nat):Int)+1+1+((aC M.aH.cnt x.bE.Base.Stores:Nat):Int)+((aC M.aA.cnt x.bE.Base.Unique:Nat):Int)+((x.bE.Log.length:Nat):Int)+1+1+((aC M.Item.cnt x.aD.Base.Items:Nat):Int)∧k+1+1+1+1+1+1+((aC M.Cache.cnt x.Caches.Caches:Nat):Int)+1+1+((aC M.aH.cnt x.bE.Base.Stores:Nat):Int)+((aC M.aA.cnt x.bE.Base.Unique:Nat):Int)+((x.bE.Log.length:Nat):Int)+1+1+((aC M.Item.cnt x.aD.Base.Items:Nat):Int)≤KB)∧(0≤k+1+1+1+1+1+1+((aC M.Cache.cnt x.Caches.Caches:Nat):Int)+1+1+((aC M.aH.cnt x.bE.Base.Stores:Nat):Int)+((aC M.aA.cnt x.bE.Base.Unique:Nat):Int)+((x.bE.Log.length:Nat):Int)+1+1+((aC M.Item.cnt x.aD.Base.Items:Nat):Int)+1∧k+1+1+1+1+1+1+((aC M.Cache.cnt x.Caches.Caches:Nat):Int)+1+1+((aC M.aH.cnt x.bE.Base.Stores:Nat):Int)+((aC M.aA.cnt x.bE.Base.Unique:Nat):Int)+((x.bE.Log.length:Nat):Int)+1+1+((aC M.Item.cnt x.aD.Base.Items:Nat):Int)+1≤KB)∧(0≤k+1+1+1+1+1+1+((aC M.Cache.cnt x.Caches.Caches:Nat):Int)+1+1+((aC M.aH.cnt x.bE.Base.Stores:Nat):Int)+((aC M.aA.cnt x.bE.Base.Unique:Nat):Int)+((x.bE.Log.length:Nat):Int)+1+1+((aC M.Item.cnt x.aD.Base.Items:Nat):Int)+1+1∧k+1+1+1+1+1+1+((aC M.Cache.cnt x.Caches.Caches:Nat):Int)+1+1+((aC M.aH.cnt x.bE.Base.Stores:Nat):Int)+((aC M.aA.cnt x.bE.Base.Unique:Nat):Int)+((x.bE.Log.length:Nat):Int)+1+1+((aC M.Item.cnt x.aD.Base.Items:Nat):Int)+1+1≤KB)∧(0≤k+1+1+1+1+1+1+((aC M.Cache.cnt x.Caches.Caches:Nat):Int)+1+1+((aC M.aH.cnt x.bE.Base.Stores:Nat):Int)+((aC M.aA.cnt x.bE.Base.Unique:Nat):Int)+((x.bE.Log.length:Nat):Int)+1+1+((aC M.Item.cnt x.aD.Base.Items:Nat):Int)+1+1+1∧k+1+1+1+1+1+1+((aC M.Cache.cnt x.Caches.Caches:Nat):Int)+1+1+((aC M.aH.cnt x.bE.Base.Stores:Nat):Int)+((aC M.aA.cnt x.bE.Base.Unique:Nat):Int)+((x.bE.Log.length:Nat):Int)+1+1+((aC M.Item.cnt x.aD.Base.Items:Nat):Int)+1+1+1≤KB)∧(0≤k+1+1+1+1+1+1+((aC M.Cache.cnt x.Caches.Caches:Nat):Int)+1+1+((aC M.aH.cnt x.bE.Base.Stores:Nat):Int)+((aC M.aA.cnt x.bE.Base.Unique:Nat):Int)+((x.bE.Log.length:Nat):Int)+1+1+((aC M.Item.cnt x.aD.Base.Items:Nat):Int)+1+1+1+1∧k+1+1+1+1+1+1+((aC M.Cache.cnt x.Caches.Caches:Nat):Int)+1+1+((aC M.aH.cnt x.bE.Base.Stores:Nat):Int)+((aC M.aA.cnt x.bE.Base.Unique:Nat):Int)+((x.bE.Log.length:Nat):Int)+1+1+((aC M.Item.cnt x.aD.Base.Items:Nat):Int)+1+1+1+1≤KB)∧(0≤k+1+1+1+1+1+1+((aC M.Cache.cnt x.Caches.Caches:Nat):Int)+1+1+((aC M.aH.cnt x.bE.Base.Stores:Nat):Int)+((aC M.aA.cnt x.bE.Base.Unique:Nat):Int)+((x.bE.Log.length:Nat):Int)+1+1+((aC M.Item.cnt x.aD.Base.Items:Nat):Int)+1+1+1+1+((aC M.aY.cnt x.aD.Sync.aV.Writes:Nat):Int)∧k+1+1+1+1+1+1+((aC M.Cache.cnt x.Caches.Caches:Nat):Int)+1+1+((aC M.aH.cnt x.bE.Base.Stores:Nat):Int)+((aC M.aA.cnt x.bE.Base.Unique:Nat):Int)+((x.bE.Log.length:Nat):Int)+1+1+((aC M.Item.cnt x.aD.Base.Items:Nat):Int)+1+1+1+1+((aC M.aY.cnt x.aD.Sync.aV.Writes:Nat):Int)≤KB)∧(0≤k+1+1+1+1+1+1+((aC M.Cache.cnt x.Caches.Caches:Nat):Int)+1+1+((aC M.aH.cnt x.bE.Base.Stores:Nat):Int)+((aC M.aA.cnt x.bE.Base.Unique:Nat):Int)+((x.bE.Log.length:Nat):Int)+1+1+((aC M.Item.cnt x.aD.Base.Items:Nat):Int)+1+1+1+1+((aC M.aY.cnt x.aD.Sync.aV.Writes:Nat):Int)+1∧k+1+1+1+1+1+1+((aC M.Cache.cnt x.Caches.Caches:Nat):Int)+1+1+((aC M.aH.cnt x.bE.Base.Stores:Nat):Int)+((aC M.aA.cnt x.bE.Base.Unique:Nat):Int)+((x.bE.Log.length:Nat):Int)+1+1+((aC M.Item.cnt x.aD.Base.Items:Nat):Int)+1+1+1+1+((aC M.aY.cnt x.aD.Sync.aV.Writes:Nat):Int)+1≤KB)∧(0≤k+1+1+1+1+1+1+((aC M.Cache.cnt x.Caches.Caches:Nat):Int)+1+1+((aC M.aH.cnt x.bE.Base.Stores:Nat):Int)+((aC M.aA.cnt x.bE.Base.Unique:Nat):Int)+((x.bE.Log.length:Nat):Int)+1+1+((aC M.Item.cnt x.aD.Base.Items:Nat):Int)+1+1+1+1+((aC M.aY.cnt x.aD.Sync.aV.Writes:Nat):Int)+1+1∧k+1+1+1+1+1+1+((aC M.Cache.cnt x.Caches.Caches:Nat):Int)+1+1+((aC M.aH.cnt x.bE.Base.Stores:Nat):Int)+((aC M.aA.cnt x.bE.Base.Unique:Nat):Int)+((x.bE.Log.length:Nat):Int)+1+1+((aC M.Item.cnt x.aD.Base.Items:Nat):Int)+1+1+1+1+((aC M.aY.cnt x.aD.Sync.aV.Writes:Nat):Int)+1+1≤KB)∧(0≤k+1+1+1+1+1+1+((aC M.Cache.cnt x.Caches.Caches:Nat):Int)+1+1+((aC M.aH.cnt x.bE.Base.Stores:Nat):Int)+((aC M.aA.cnt x.bE.Base.Unique:Nat):Int)+((x.bE.Log.length:Nat):Int)+1+1+((aC M.Item.cnt x.aD.Base.Items:Nat):Int)+1+1+1+1+((aC M.aY.cnt x.aD.Sync.aV.Writes:Nat):Int)+1+1+1∧k+1+1+1+1+1+1+((aC M.Cache.cnt x.Caches.Caches:Nat):Int)+1+1+((aC M.aH.cnt x.bE.Base.Stores:Nat):Int)+((aC M.aA.cnt x.bE.Base.Unique:Nat):Int)+((x.bE.Log.length:Nat):Int)+1+1+((aC M.Item.cnt x.aD.Base.Items:Nat):Int)+1+1+1+1+((aC M.aY.cnt x.aD.Sync.aV.Writes:Nat):Int)+1+1+1≤KB)∧(0≤k+1+1+1+1+1+1+((aC M.Cache.cnt x.Caches.Caches:Nat):Int)+1+1+((aC M.aH.cnt x.bE.Base.Stores:Nat):Int)+((aC M.aA.cnt x.bE.Base.Unique:Nat):Int)+((x.bE.Log.length:Nat):Int)+1+1+((aC M.Item.cnt x.aD.Base.Items:Nat):Int)+1+1+1+1+((aC M.aY.cnt x.aD.Sync.aV.Writes:Nat):Int)+1+1+1+1∧k+1+1+1+1+1+1+((aC M.Cache.cnt x.Caches.Caches:Nat):Int)+1+1+((aC M.aH.cnt x.bE.Base.Stores:Nat):Int)+((aC M.aA.cnt x.bE.Base.Unique:Nat):Int)+((x.bE.Log.length:Nat):Int)+1+1+((aC M.Item.cnt x.aD.Base.Items:Nat):Int)+1+1+1+1+((aC M.aY.cnt x.aD.Sync.aV.Writes:Nat):Int)+1+1+1+1≤KB):=by
  unfold KB
  refine ⟨?_,?_,?_,?_,?_,?_,?_,?_,?_,?_,?_,?_,?_,?_,?_,?_,?_,?_,?_,?_,?_,?_,?_,?_,?_⟩<;>omega
 have hE:k+1+1+1+1+1+1+((aC M.Cache.cnt x.Caches.Caches:Nat):Int)+1+1+((aC M.aH.cnt x.bE.Base.Stores:Nat):Int)+((aC M.aA.cnt x.bE.Base.Unique:Nat):Int)+((x.bE.Log.length:Nat):Int)+1+1+((aC M.Item.cnt x.aD.Base.Items:Nat):Int)+1+1+1+1+((aC M.aY.cnt x.aD.Sync.aV.Writes:Nat):Int)+1+1+1+1=k+((M.aF.cnt x:Nat):Int):=by unfold M.aF.cnt;omega
 unfold M.aF.cnt at hE
 obtain ⟨q0,q1,q2,q3,q4,q5,q6,q7,q8,q9,q10,q11,q12,q13,q14,q15,q16,q17,q18,q19,q20,q21,q22,q23,q24⟩:=A
 have t0:aG (k)=some (mtx (k)):=mt q0.1 (Int.lt_of_add_one_le q1.2)
 have w0:=wk2 q0
 have t1:aG (k+1)=some (mtx (k+1)):=mt q1.1 (Int.lt_of_add_one_le q2.2)
 have w1:=wk2 q1
 have t2:aG (k+1+1)=some (mtx (k+1+1)):=mt q2.1 (Int.lt_of_add_one_le q3.2)
 have w2:=wk2 q2
 have w3:=wk2 q3
 have w4:=wk2 q4
 have w5:=wk2 q5
 obtain ⟨y1,a1,b1,_⟩:=M.aEA.gY _ hx.Caches.Caches (k+1+1+1+1+1+1) q6.1 q7.2
 have d1:(decide (k+1+1+1+1+1+1+((aC M.Cache.cnt x.Caches.Caches:Nat):Int)<0))=false:=dk q7.1
 have t7:aG (k+1+1+1+1+1+1+((aC M.Cache.cnt x.Caches.Caches:Nat):Int))=some (mtx (k+1+1+1+1+1+1+((aC M.Cache.cnt x.Caches.Caches:Nat):Int))):=mt q7.1 (Int.lt_of_add_one_le q8.2)
 have w7:=wk2 q7
 have w8:=wk2 q8
 obtain ⟨y2,a2,b2,_⟩:=M.aDx.gY _ hx.bE.Base.Stores (k+1+1+1+1+1+1+((aC M.Cache.cnt x.Caches.Caches:Nat):Int)+1+1) q9.1 q10.2
 have d2:(decide (k+1+1+1+1+1+1+((aC M.Cache.cnt x.Caches.Caches:Nat):Int)+1+1+((aC M.aH.cnt x.bE.Base.Stores:Nat):Int)<0))=false:=dk q10.1
 obtain ⟨y3,a3,b3,_⟩:=M.aA4.gY _ hx.bE.Base.Unique (k+1+1+1+1+1+1+((aC M.Cache.cnt x.Caches.Caches:Nat):Int)+1+1+((aC M.aH.cnt x.bE.Base.Stores:Nat):Int)) q10.1 q11.2
 have d3:(decide (k+1+1+1+1+1+1+((aC M.Cache.cnt x.Caches.Caches:Nat):Int)+1+1+((aC M.aH.cnt x.bE.Base.Stores:Nat):Int)+((aC M.aA.cnt x.bE.Base.Unique:Nat):Int)<0))=false:=dk q11.1
 obtain ⟨y4,a4,b4,_⟩:=M.aCD.gY _ hx.bE.Log (k+1+1+1+1+1+1+((aC M.Cache.cnt x.Caches.Caches:Nat):Int)+1+1+((aC M.aH.cnt x.bE.Base.Stores:Nat):Int)+((aC M.aA.cnt x.bE.Base.Unique:Nat):Int)) q11.1 q12.2
 have d4:(decide (k+1+1+1+1+1+1+((aC M.Cache.cnt x.Caches.Caches:Nat):Int)+1+1+((aC M.aH.cnt x.bE.Base.Stores:Nat):Int)+((aC M.aA.cnt x.bE.Base.Unique:Nat):Int)+((x.bE.Log.length:Nat):Int)<0))=false:=dk q12.1
 have w12:=wk2 q12
 have t13:aG (k+1+1+1+1+1+1+((aC M.Cache.cnt x.Caches.Caches:Nat):Int)+1+1+((aC M.aH.cnt x.bE.Base.Stores:Nat):Int)+((aC M.aA.cnt x.bE.Base.Unique:Nat):Int)+((x.bE.Log.length:Nat):Int)+1)=some (mtx (k+1+1+1+1+1+1+((aC M.Cache.cnt x.Caches.Caches:Nat):Int)+1+1+((aC M.aH.cnt x.bE.Base.Stores:Nat):Int)+((aC M.aA.cnt x.bE.Base.Unique:Nat):Int)+((x.bE.Log.length:Nat):Int)+1)):=mt q13.1 (Int.lt_of_add_one_le q14.2)
 have w13:=wk2 q13
 obtain ⟨y5,a5,b5,_⟩:=M.aEz.gY _ hx.aD.Base.Items (k+1+1+1+1+1+1+((aC M.Cache.cnt x.Caches.Caches:Nat):Int)+1+1+((aC M.aH.cnt x.bE.Base.Stores:Nat):Int)+((aC M.aA.cnt x.bE.Base.Unique:Nat):Int)+((x.bE.Log.length:Nat):Int)+1+1) q14.1 q15.2
 have d5:(decide (k+1+1+1+1+1+1+((aC M.Cache.cnt x.Caches.Caches:Nat):Int)+1+1+((aC M.aH.cnt x.bE.Base.Stores:Nat):Int)+((aC M.aA.cnt x.bE.Base.Unique:Nat):Int)+((x.bE.Log.length:Nat):Int)+1+1+((aC M.Item.cnt x.aD.Base.Items:Nat):Int)<0))=false:=dk q15.1
 have w15:=wk2 q15
 have w16:=wk2 q16
 have w17:=wk2 q17
 have w18:=wk2 q18
 obtain ⟨y6,a6,b6,_⟩:=M.aBq.gY _ hx.aD.Sync.aV.Writes (k+1+1+1+1+1+1+((aC M.Cache.cnt x.Caches.Caches:Nat):Int)+1+1+((aC M.aH.cnt x.bE.Base.Stores:Nat):Int)+((aC M.aA.cnt x.bE.Base.Unique:Nat):Int)+((x.bE.Log.length:Nat):Int)+1+1+((aC M.Item.cnt x.aD.Base.Items:Nat):Int)+1+1+1+1) q19.1 q20.2
 have d6:(decide (k+1+1+1+1+1+1+((aC M.Cache.cnt x.Caches.Caches:Nat):Int)+1+1+((aC M.aH.cnt x.bE.Base.Stores:Nat):Int)+((aC M.aA.cnt x.bE.Base.Unique:Nat):Int)+((x.bE.Log.length:Nat):Int)+1+1+((aC M.Item.cnt x.aD.Base.Items:Nat):Int)+1+1+1+1+((aC M.aY.cnt x.aD.Sync.aV.Writes:Nat):Int)<0))=false:=dk q20.1
 have w20:=wk2 q20
 have w21:=wk2 q21
 have w22:=wk2 q22
 have w23:=wk2 q23
 refine ⟨⟨(mtx (k)),(mtx (k+1)),⟨(mtx (k+1+1)),k+1+1+1,k+1+1+1+1,k+1+1+1+1+1⟩,⟨y1⟩,⟨⟨(mtx (k+1+1+1+1+1+1+((aC M.Cache.cnt x.Caches.Caches:Nat):Int))),k+1+1+1+1+1+1+((aC M.Cache.cnt x.Caches.Caches:Nat):Int)+1,y2,y3⟩,y4,k+1+1+1+1+1+1+((aC M.Cache.cnt x.Caches.Caches:Nat):Int)+1+1+((aC M.aH.cnt x.bE.Base.Stores:Nat):Int)+((aC M.aA.cnt x.bE.Base.Unique:Nat):Int)+((x.bE.Log.length:Nat):Int)⟩,⟨⟨(mtx (k+1+1+1+1+1+1+((aC M.Cache.cnt x.Caches.Caches:Nat):Int)+1+1+((aC M.aH.cnt x.bE.Base.Stores:Nat):Int)+((aC M.aA.cnt x.bE.Base.Unique:Nat):Int)+((x.bE.Log.length:Nat):Int)+1)),y5,k+1+1+1+1+1+1+((aC M.Cache.cnt x.Caches.Caches:Nat):Int)+1+1+((aC M.aH.cnt x.bE.Base.Stores:Nat):Int)+((aC M.aA.cnt x.bE.Base.Unique:Nat):Int)+((x.bE.Log.length:Nat):Int)+1+1+((aC M.Item.cnt x.aD.Base.Items:Nat):Int)⟩,k+1+1+1+1+1+1+((aC M.Cache.cnt x.Caches.Caches:Nat):Int)+1+1+((aC M.aH.cnt x.bE.Base.Stores:Nat):Int)+((aC M.aA.cnt x.bE.Base.Unique:Nat):Int)+((x.bE.Log.length:Nat):Int)+1+1+((aC M.Item.cnt x.aD.Base.Items:Nat):Int)+1,⟨⟨k+1+1+1+1+1+1+((aC M.Cache.cnt x.Caches.Caches:Nat):Int)+1+1+((aC M.aH.cnt x.bE.Base.Stores:Nat):Int)+((aC M.aA.cnt x.bE.Base.Unique:Nat):Int)+((x.bE.Log.length:Nat):Int)+1+1+((aC M.Item.cnt x.aD.Base.Items:Nat):Int)+1+1,k+1+1+1+1+1+1+((aC M.Cache.cnt x.Caches.Caches:Nat):Int)+1+1+((aC M.aH.cnt x.bE.Base.Stores:Nat):Int)+((aC M.aA.cnt x.bE.Base.Unique:Nat):Int)+((x.bE.Log.length:Nat):Int)+1+1+((aC M.Item.cnt x.aD.Base.Items:Nat):Int)+1+1+1,y6⟩,k+1+1+1+1+1+1+((aC M.Cache.cnt x.Caches.Caches:Nat):Int)+1+1+((aC M.aH.cnt x.bE.Base.Stores:Nat):Int)+((aC M.aA.cnt x.bE.Base.Unique:Nat):Int)+((x.bE.Log.length:Nat):Int)+1+1+((aC M.Item.cnt x.aD.Base.Items:Nat):Int)+1+1+1+1+((aC M.aY.cnt x.aD.Sync.aV.Writes:Nat):Int),k+1+1+1+1+1+1+((aC M.Cache.cnt x.Caches.Caches:Nat):Int)+1+1+((aC M.aH.cnt x.bE.Base.Stores:Nat):Int)+((aC M.aA.cnt x.bE.Base.Unique:Nat):Int)+((x.bE.Log.length:Nat):Int)+1+1+((aC M.Item.cnt x.aD.Base.Items:Nat):Int)+1+1+1+1+((aC M.aY.cnt x.aD.Sync.aV.Writes:Nat):Int)+1⟩⟩,k+1+1+1+1+1+1+((aC M.Cache.cnt x.Caches.Caches:Nat):Int)+1+1+((aC M.aH.cnt x.bE.Base.Stores:Nat):Int)+((aC M.aA.cnt x.bE.Base.Unique:Nat):Int)+((x.bE.Log.length:Nat):Int)+1+1+((aC M.Item.cnt x.aD.Base.Items:Nat):Int)+1+1+1+1+((aC M.aY.cnt x.aD.Sync.aV.Writes:Nat):Int)+1+1,((Int.tmod (k+1+1+1+1+1+1+((aC M.Cache.cnt x.Caches.Caches:Nat):Int)+1+1+((aC M.aH.cnt x.bE.Base.Stores:Nat):Int)+((aC M.aA.cnt x.bE.Base.Unique:Nat):Int)+((x.bE.Log.length:Nat):Int)+1+1+((aC M.Item.cnt x.aD.Base.Items:Nat):Int)+1+1+1+1+((aC M.aY.cnt x.aD.Sync.aV.Writes:Nat):Int)+1+1+1) 3)==0)⟩,fun n pre post hl => ?_,fun n l i hi hl => ?_⟩
 ·have hl':=le_max hl
  have hp:pre.length<9223372036854775807:=by simp at hl';omega
  simp only [cR]
  rw [if_pos (aAY pre post x)]
  simp (maxSteps:=2000000) only [rK,rH,Option.bind_some,bB hp,t0,w0,t1,w1,t2,w2,w3,w4,w5,a1,t7,w7,w8,a2,a3,a4,w12,t13,w13,a5,w15,w16,w17,w18,a6,w20,w21,w22,w23]
  rw [hE]
 ·have hl':=le_max hl
  have hp:i<9223372036854775807:=by have:=(List.getElem?_eq_some_iff.1 hi).1;omega
  simp only [cP]
  rw [if_pos (aCE hi)]
  simp (maxSteps:=2000000) only [aAa hi,Option.bind_some,bB hp,t0,w0,t1,w1,t2,w2,w3,w4,w5,b1,d1,t7,w7,w8,b2,d2,b3,d3,b4,d4,w12,t13,w13,b5,d5,w15,w16,w17,w18,b6,d6,w20,w21,w22,w23,bne_self_eq_false,beq_self_eq_true,Bool.not_true,Bool.false_eq_true,if_false]
  rw [hE]
theorem M.aCJ.gY (xs:List M.aF) (hx:(xs.length≤maxLen ∧ ∀y∈xs,M.aF.ok y)) (k:Int) (h0:0≤k) (hB:k+((aC M.aF.cnt xs:Nat):Int)≤KB) : ∃ys,oV xs k=some (ys,k+((aC M.aF.cnt xs:Nat):Int))∧oJ ys k=some (k+((aC M.aF.cnt xs:Nat):Int))∧ys.length=xs.length:=by
 have hm:=le_max hx.1
 obtain ⟨ys,h1,h2,h3⟩:=kV (ML:=cR) (HL:=cP) (c:=M.aF.cnt) (ok:=M.aF.ok) (fun x hx k h0 hB=>M.aF.pF x hx k h0 hB) (fun n k l=>by simp only [cR];rw [if_neg (by rw [aP];simp)]) (fun n k l=>by simp only [cP];rw [if_neg (by rw [aP];simp)]) xs [] fuel k (by simpa using hx.1) (by unfold fuel;omega) hx.2 h0 hB
 refine ⟨ys,by unfold oV;simpa using h2,by unfold oJ;simpa using h3 fuel (by unfold fuel;omega),h1⟩
def M.aN.cnt (x:M.aN):Nat:=2
set_option maxHeartbeats 4000000 in
theorem M.aN.pF (x:M.aN) (hx:M.aN.ok x) (k:Int) (h0:0≤k) (hB:k+((M.aN.cnt x:Nat):Int)≤KB) : ∃x':M.aN,(∀n (pre post:List M.aN),(pre++x::post).length≤maxLen→cM (n+1) k pre.length (pre++x::post)=cM n (k+((M.aN.cnt x:Nat):Int)) ((pre.length+1:Nat):Int) (pre++x'::post)) ∧ ∀n (l:List M.aN) (i:Nat),l[i]? = some x'→l.length≤maxLen→dL l (n+1) k i=dL l n (k+((M.aN.cnt x:Nat):Int)) ((i+1:Nat):Int):=by
 unfold KB at hB;unfold M.aN.cnt at hB ⊢
 have A:(0≤k∧k≤KB)∧(0≤k+1∧k+1≤KB)∧(0≤k+1+1∧k+1+1≤KB):=by
  unfold KB
  refine ⟨?_,?_,?_⟩<;>omega
 have hE:k+1+1=k+((M.aN.cnt x:Nat):Int):=by unfold M.aN.cnt;omega
 unfold M.aN.cnt at hE
 obtain ⟨q0,q1,q2⟩:=A
 have t0:aG (k)=some (mtx (k)):=mt q0.1 (Int.lt_of_add_one_le q1.2)
 have w0:=wk2 q0
 have w1:=wk2 q1
 refine ⟨⟨(mtx (k)),k+1⟩,fun n pre post hl => ?_,fun n l i hi hl => ?_⟩
 ·have hl':=le_max hl
  have hp:pre.length<9223372036854775807:=by simp at hl';omega
  simp only [cM]
  rw [if_pos (aAY pre post x)]
  simp (maxSteps:=2000000) only [rK,rH,Option.bind_some,bB hp,t0,w0,w1]
  rw [hE]
 ·have hl':=le_max hl
  have hp:i<9223372036854775807:=by have:=(List.getElem?_eq_some_iff.1 hi).1;omega
  simp only [dL]
  rw [if_pos (aCE hi)]
  simp (maxSteps:=2000000) only [aAa hi,Option.bind_some,bB hp,t0,w0,w1,bne_self_eq_false,beq_self_eq_true,Bool.not_true,Bool.false_eq_true,if_false]
  rw [hE]
theorem M.aCH.gY (xs:List M.aN) (hx:(xs.length≤maxLen ∧ ∀y∈xs,M.aN.ok y)) (k:Int) (h0:0≤k) (hB:k+((aC M.aN.cnt xs:Nat):Int)≤KB) : ∃ys,oT xs k=some (ys,k+((aC M.aN.cnt xs:Nat):Int))∧oQ ys k=some (k+((aC M.aN.cnt xs:Nat):Int))∧ys.length=xs.length:=by
 have hm:=le_max hx.1
 obtain ⟨ys,h1,h2,h3⟩:=kV (ML:=cM) (HL:=dL) (c:=M.aN.cnt) (ok:=M.aN.ok) (fun x hx k h0 hB=>M.aN.pF x hx k h0 hB) (fun n k l=>by simp only [cM];rw [if_neg (by rw [aP];simp)]) (fun n k l=>by simp only [dL];rw [if_neg (by rw [aP];simp)]) xs [] fuel k (by simpa using hx.1) (by unfold fuel;omega) hx.2 h0 hB
 refine ⟨ys,by unfold oT;simpa using h2,by unfold oQ;simpa using h3 fuel (by unfold fuel;omega),h1⟩
def M.Instr.cnt (x:M.Instr):Nat:=4
set_option maxHeartbeats 4000000 in
theorem M.Instr.pF (x:M.Instr) (hx:M.Instr.ok x) (k:Int) (h0:0≤k) (hB:k+((M.Instr.cnt x:Nat):Int)≤KB) : ∃x':M.Instr,(∀n (pre post:List M.Instr),(pre++x::post).length≤maxLen→cX (n+1) k pre.length (pre++x::post)=cX n (k+((M.Instr.cnt x:Nat):Int)) ((pre.length+1:Nat):Int) (pre++x'::post)) ∧ ∀n (l:List M.Instr) (i:Nat),l[i]? = some x'→l.length≤maxLen→eE l (n+1) k i=eE l n (k+((M.Instr.cnt x:Nat):Int)) ((i+1:Nat):Int):=by
 unfold KB at hB;unfold M.Instr.cnt at hB ⊢
 have A:(0≤k∧k≤KB)∧(0≤k+1∧k+1≤KB)∧(0≤k+1+1∧k+1+1≤KB)∧(0≤k+1+1+1∧k+1+1+1≤KB)∧(0≤k+1+1+1+1∧k+1+1+1+1≤KB):=by
  unfold KB
  refine ⟨?_,?_,?_,?_,?_⟩<;>omega
 have hE:k+1+1+1+1=k+((M.Instr.cnt x:Nat):Int):=by unfold M.Instr.cnt;omega
 unfold M.Instr.cnt at hE
 obtain ⟨q0,q1,q2,q3,q4⟩:=A
 have w0:=wk2 q0
 have w1:=wk2 q1
 have w2:=wk2 q2
 have t3:aG (k+1+1+1)=some (mtx (k+1+1+1)):=mt q3.1 (Int.lt_of_add_one_le q4.2)
 have w3:=wk2 q3
 refine ⟨⟨k,k+1,k+1+1,(mtx (k+1+1+1))⟩,fun n pre post hl => ?_,fun n l i hi hl => ?_⟩
 ·have hl':=le_max hl
  have hp:pre.length<9223372036854775807:=by simp at hl';omega
  simp only [cX]
  rw [if_pos (aAY pre post x)]
  simp (maxSteps:=2000000) only [rK,rH,Option.bind_some,bB hp,w0,w1,w2,t3,w3]
  rw [hE]
 ·have hl':=le_max hl
  have hp:i<9223372036854775807:=by have:=(List.getElem?_eq_some_iff.1 hi).1;omega
  simp only [eE]
  rw [if_pos (aCE hi)]
  simp (maxSteps:=2000000) only [aAa hi,Option.bind_some,bB hp,w0,w1,w2,t3,w3,bne_self_eq_false,beq_self_eq_true,Bool.not_true,Bool.false_eq_true,if_false]
  rw [hE]
theorem M.aEO.gY (xs:List M.Instr) (hx:(xs.length≤maxLen ∧ ∀y∈xs,M.Instr.ok y)) (k:Int) (h0:0≤k) (hB:k+((aC M.Instr.cnt xs:Nat):Int)≤KB) : ∃ys,qW xs k=some (ys,k+((aC M.Instr.cnt xs:Nat):Int))∧qO ys k=some (k+((aC M.Instr.cnt xs:Nat):Int))∧ys.length=xs.length:=by
 have hm:=le_max hx.1
 obtain ⟨ys,h1,h2,h3⟩:=kV (ML:=cX) (HL:=eE) (c:=M.Instr.cnt) (ok:=M.Instr.ok) (fun x hx k h0 hB=>M.Instr.pF x hx k h0 hB) (fun n k l=>by simp only [cX];rw [if_neg (by rw [aP];simp)]) (fun n k l=>by simp only [eE];rw [if_neg (by rw [aP];simp)]) xs [] fuel k (by simpa using hx.1) (by unfold fuel;omega) hx.2 h0 hB
 refine ⟨ys,by unfold qW;simpa using h2,by unfold qO;simpa using h3 fuel (by unfold fuel;omega),h1⟩
set_option maxHeartbeats 4000000 in
theorem M.aKP.pF (x:Int) (hx:True) (k:Int) (h0:0≤k) (hB:k+(((fun _:Int=>1) x:Nat):Int)≤KB) : ∃x':Int,(∀n (pre post:List Int),(pre++x::post).length≤maxLen→eW (n+1) k pre.length (pre++x::post)=eW n (k+(((fun _:Int=>1) x:Nat):Int)) ((pre.length+1:Nat):Int) (pre++x'::post)) ∧ ∀n (l:List Int) (i:Nat),l[i]? = some x'→l.length≤maxLen→fV l (n+1) k i=fV l n (k+(((fun _:Int=>1) x:Nat):Int)) ((i+1:Nat):Int):=by
 unfold KB at hB;(try simp only [] at hB ⊢)
 have A:(0≤k∧k≤KB)∧(0≤k+1∧k+1≤KB):=by
  unfold KB
  refine ⟨?_,?_⟩<;>omega
 have hE:k+1=k+(((fun _:Int=>1) x:Nat):Int):=by simp
 obtain ⟨q0,q1⟩:=A
 have w0:=wk2 q0
 refine ⟨k,fun n pre post hl => ?_,fun n l i hi hl => ?_⟩
 ·have hl':=le_max hl
  have hp:pre.length<9223372036854775807:=by simp at hl';omega
  simp only [eW]
  rw [if_pos (aAY pre post x)]
  simp (maxSteps:=2000000) only [rK,rH,Option.bind_some,bB hp,w0]
  rw [hE]
 ·have hl':=le_max hl
  have hp:i<9223372036854775807:=by have:=(List.getElem?_eq_some_iff.1 hi).1;omega
  simp only [fV]
  rw [if_pos (aCE hi)]
  simp (maxSteps:=2000000) only [aAa hi,Option.bind_some,bB hp,w0,bne_self_eq_false,beq_self_eq_true,Bool.not_true,Bool.false_eq_true,if_false]
  rw [hE]
theorem M.aKP.cl (xs:List Int):aC (fun _:Int=>1) xs=xs.length:=by
 induction xs with
 | nil=>rfl
 | cons x xs ih=>simp only [aC,ih,List.length_cons];omega
theorem M.aKP.gY (xs:List Int) (hx:okI xs) (k:Int) (h0:0≤k) (hB:k+((xs.length:Nat):Int)≤KB) : ∃ys,wF xs k=some (ys,k+((xs.length:Nat):Int))∧wB ys k=some (k+((xs.length:Nat):Int))∧ys.length=xs.length:=by
 have hm:=le_max hx.1
 rw [←M.aKP.cl xs] at hB ⊢
 obtain ⟨ys,h1,h2,h3⟩:=kV (ML:=eW) (HL:=fV) (c:=(fun _:Int=>1)) (ok:=(fun _:Int=>True)) (fun x hx k h0 hB=>M.aKP.pF x hx k h0 hB) (fun n k l=>by simp only [eW];rw [if_neg (by rw [aP];simp)]) (fun n k l=>by simp only [fV];rw [if_neg (by rw [aP];simp)]) xs [] fuel k (by simpa using hx.1) (by unfold fuel;omega) (fun _ _=>trivial) h0 hB
 refine ⟨ys,by unfold wF;simpa using h2,by unfold wB;simpa using h3 fuel (by unfold fuel;omega),by have:=M.aKP.cl xs;omega⟩
def M.bG.cnt (x:M.bG):Nat:=8+(aC M.aN.cnt x.aN)+(aC M.Instr.cnt x.Machine.Script)+(x.Machine.Regs.length)
set_option maxHeartbeats 4000000 in
theorem M.bG.pF (x:M.bG) (hx:M.bG.ok x) (k:Int) (h0:0≤k) (hB:k+((M.bG.cnt x:Nat):Int)≤KB) : ∃x':M.bG,(∀n (pre post:List M.bG),(pre++x::post).length≤maxLen→dU (n+1) k pre.length (pre++x::post)=dU n (k+((M.bG.cnt x:Nat):Int)) ((pre.length+1:Nat):Int) (pre++x'::post)) ∧ ∀n (l:List M.bG) (i:Nat),l[i]? = some x'→l.length≤maxLen→dW l (n+1) k i=dW l n (k+((M.bG.cnt x:Nat):Int)) ((i+1:Nat):Int):=by
 unfold KB at hB;unfold M.bG.cnt at hB ⊢
 have A:(0≤k∧k≤KB)∧(0≤k+1∧k+1≤KB)∧(0≤k+1+1∧k+1+1≤KB)∧(0≤k+1+1+1∧k+1+1+1≤KB)∧(0≤k+1+1+1+1∧k+1+1+1+1≤KB)∧(0≤k+1+1+1+1+((aC M.aN.cnt x.aN:Nat):Int)∧k+1+1+1+1+((aC M.aN.cnt x.aN:Nat):Int)≤KB)∧(0≤k+1+1+1+1+((aC M.aN.cnt x.aN:Nat):Int)+((aC M.Instr.cnt x.Machine.Script:Nat):Int)∧k+1+1+1+1+((aC M.aN.cnt x.aN:Nat):Int)+((aC M.Instr.cnt x.Machine.Script:Nat):Int)≤KB)∧(0≤k+1+1+1+1+((aC M.aN.cnt x.aN:Nat):Int)+((aC M.Instr.cnt x.Machine.Script:Nat):Int)+1∧k+1+1+1+1+((aC M.aN.cnt x.aN:Nat):Int)+((aC M.Instr.cnt x.Machine.Script:Nat):Int)+1≤KB)∧(0≤k+1+1+1+1+((aC M.aN.cnt x.aN:Nat):Int)+((aC M.Instr.cnt x.Machine.Script:Nat):Int)+1+((x.Machine.Regs.length:Nat):Int)∧k+1+1+1+1+((aC M.aN.cnt x.aN:Nat):Int)+((aC M.Instr.cnt x.Machine.Script:Nat):Int)+1+((x.Machine.Regs.length:Nat):Int)≤KB)∧(0≤k+1+1+1+1+((aC M.aN.cnt x.aN:Nat):Int)+((aC M.Instr.cnt x.Machine.Script:Nat):Int)+1+((x.Machine.Regs.length:Nat):Int)+1∧k+1+1+1+1+((aC M.aN.cnt x.aN:Nat):Int)+((aC M.Instr.cnt x.Machine.Script:Nat):Int)+1+((x.Machine.Regs.length:Nat):Int)+1≤KB)∧(0≤k+1+1+1+1+((aC M.aN.cnt x.aN:Nat):Int)+((aC M.Instr.cnt x.Machine.Script:Nat):Int)+1+((x.Machine.Regs.length:Nat):Int)+1+1∧k+1+1+1+1+((aC M.aN.cnt x.aN:Nat):Int)+((aC M.Instr.cnt x.Machine.Script:Nat):Int)+1+((x.Machine.Regs.length:Nat):Int)+1+1≤KB)∧(0≤k+1+1+1+1+((aC M.aN.cnt x.aN:Nat):Int)+((aC M.Instr.cnt x.Machine.Script:Nat):Int)+1+((x.Machine.Regs.length:Nat):Int)+1+1+1∧k+1+1+1+1+((aC M.aN.cnt x.aN:Nat):Int)+((aC M.Instr.cnt x.Machine.Script:Nat):Int)+1+((x.Machine.Regs.length:Nat):Int)+1+1+1≤KB):=by
  unfold KB
  refine ⟨?_,?_,?_,?_,?_,?_,?_,?_,?_,?_,?_,?_⟩<;>omega
 have hE:k+1+1+1+1+((aC M.aN.cnt x.aN:Nat):Int)+((aC M.Instr.cnt x.Machine.Script:Nat):Int)+1+((x.Machine.Regs.length:Nat):Int)+1+1+1=k+((M.bG.cnt x:Nat):Int):=by unfold M.bG.cnt;omega
 unfold M.bG.cnt at hE
 obtain ⟨q0,q1,q2,q3,q4,q5,q6,q7,q8,q9,q10,q11⟩:=A
 have w0:=wk2 q0
 have t1:aG (k+1)=some (mtx (k+1)):=mt q1.1 (Int.lt_of_add_one_le q2.2)
 have w1:=wk2 q1
 have t2:aG (k+1+1)=some (mtx (k+1+1)):=mt q2.1 (Int.lt_of_add_one_le q3.2)
 have w2:=wk2 q2
 have w3:=wk2 q3
 obtain ⟨y1,a1,b1,_⟩:=M.aCH.gY _ hx.aN (k+1+1+1+1) q4.1 q5.2
 have d1:(decide (k+1+1+1+1+((aC M.aN.cnt x.aN:Nat):Int)<0))=false:=dk q5.1
 obtain ⟨y2,a2,b2,_⟩:=M.aEO.gY _ hx.Machine.Script (k+1+1+1+1+((aC M.aN.cnt x.aN:Nat):Int)) q5.1 q6.2
 have d2:(decide (k+1+1+1+1+((aC M.aN.cnt x.aN:Nat):Int)+((aC M.Instr.cnt x.Machine.Script:Nat):Int)<0))=false:=dk q6.1
 have w6:=wk2 q6
 obtain ⟨y3,a3,b3,_⟩:=M.aKP.gY _ hx.Machine.Regs (k+1+1+1+1+((aC M.aN.cnt x.aN:Nat):Int)+((aC M.Instr.cnt x.Machine.Script:Nat):Int)+1) q7.1 q8.2
 have d3:(decide (k+1+1+1+1+((aC M.aN.cnt x.aN:Nat):Int)+((aC M.Instr.cnt x.Machine.Script:Nat):Int)+1+((x.Machine.Regs.length:Nat):Int)<0))=false:=dk q8.1
 have w8:=wk2 q8
 have w9:=wk2 q9
 have w10:=wk2 q10
 refine ⟨⟨k,(mtx (k+1)),(mtx (k+1+1)),k+1+1+1,y1,⟨y2,k+1+1+1+1+((aC M.aN.cnt x.aN:Nat):Int)+((aC M.Instr.cnt x.Machine.Script:Nat):Int),y3,k+1+1+1+1+((aC M.aN.cnt x.aN:Nat):Int)+((aC M.Instr.cnt x.Machine.Script:Nat):Int)+1+((x.Machine.Regs.length:Nat):Int),((Int.tmod (k+1+1+1+1+((aC M.aN.cnt x.aN:Nat):Int)+((aC M.Instr.cnt x.Machine.Script:Nat):Int)+1+((x.Machine.Regs.length:Nat):Int)+1) 3)==0),((Int.tmod (k+1+1+1+1+((aC M.aN.cnt x.aN:Nat):Int)+((aC M.Instr.cnt x.Machine.Script:Nat):Int)+1+((x.Machine.Regs.length:Nat):Int)+1+1) 3)==0)⟩⟩,fun n pre post hl => ?_,fun n l i hi hl => ?_⟩
 ·have hl':=le_max hl
  have hp:pre.length<9223372036854775807:=by simp at hl';omega
  simp only [dU]
  rw [if_pos (aAY pre post x)]
  simp (maxSteps:=2000000) only [rK,rH,Option.bind_some,bB hp,w0,t1,w1,t2,w2,w3,a1,a2,w6,a3,w8,w9,w10]
  rw [hE]
 ·have hl':=le_max hl
  have hp:i<9223372036854775807:=by have:=(List.getElem?_eq_some_iff.1 hi).1;omega
  simp only [dW]
  rw [if_pos (aCE hi)]
  simp (maxSteps:=2000000) only [aAa hi,Option.bind_some,bB hp,w0,t1,w1,t2,w2,w3,b1,d1,b2,d2,w6,b3,d3,w8,w9,w10,bne_self_eq_false,beq_self_eq_true,Bool.not_true,Bool.false_eq_true,if_false]
  rw [hE]
theorem M.aID.gY (xs:List M.bG) (hx:(xs.length≤maxLen ∧ ∀y∈xs,M.bG.ok y)) (k:Int) (h0:0≤k) (hB:k+((aC M.bG.cnt xs:Nat):Int)≤KB) : ∃ys,sC xs k=some (ys,k+((aC M.bG.cnt xs:Nat):Int))∧sE ys k=some (k+((aC M.bG.cnt xs:Nat):Int))∧ys.length=xs.length:=by
 have hm:=le_max hx.1
 obtain ⟨ys,h1,h2,h3⟩:=kV (ML:=dU) (HL:=dW) (c:=M.bG.cnt) (ok:=M.bG.ok) (fun x hx k h0 hB=>M.bG.pF x hx k h0 hB) (fun n k l=>by simp only [dU];rw [if_neg (by rw [aP];simp)]) (fun n k l=>by simp only [dW];rw [if_neg (by rw [aP];simp)]) xs [] fuel k (by simpa using hx.1) (by unfold fuel;omega) hx.2 h0 hB
 refine ⟨ys,by unfold sC;simpa using h2,by unfold sE;simpa using h3 fuel (by unfold fuel;omega),h1⟩
def M.bF.cnt (x:M.bF):Nat:=4
set_option maxHeartbeats 4000000 in
theorem M.bF.pF (x:M.bF) (hx:M.bF.ok x) (k:Int) (h0:0≤k) (hB:k+((M.bF.cnt x:Nat):Int)≤KB) : ∃x':M.bF,(∀n (pre post:List M.bF),(pre++x::post).length≤maxLen→dS (n+1) k pre.length (pre++x::post)=dS n (k+((M.bF.cnt x:Nat):Int)) ((pre.length+1:Nat):Int) (pre++x'::post)) ∧ ∀n (l:List M.bF) (i:Nat),l[i]? = some x'→l.length≤maxLen→fE l (n+1) k i=fE l n (k+((M.bF.cnt x:Nat):Int)) ((i+1:Nat):Int):=by
 unfold KB at hB;unfold M.bF.cnt at hB ⊢
 have A:(0≤k∧k≤KB)∧(0≤k+1∧k+1≤KB)∧(0≤k+1+1∧k+1+1≤KB)∧(0≤k+1+1+1∧k+1+1+1≤KB)∧(0≤k+1+1+1+1∧k+1+1+1+1≤KB):=by
  unfold KB
  refine ⟨?_,?_,?_,?_,?_⟩<;>omega
 have hE:k+1+1+1+1=k+((M.bF.cnt x:Nat):Int):=by unfold M.bF.cnt;omega
 unfold M.bF.cnt at hE
 obtain ⟨q0,q1,q2,q3,q4⟩:=A
 have t0:aG (k)=some (mtx (k)):=mt q0.1 (Int.lt_of_add_one_le q1.2)
 have w0:=wk2 q0
 have w1:=wk2 q1
 have w2:=wk2 q2
 have w3:=wk2 q3
 refine ⟨⟨(mtx (k)),k+1,((Int.tmod (k+1+1) 3)==0),((Int.tmod (k+1+1+1) 3)==0)⟩,fun n pre post hl => ?_,fun n l i hi hl => ?_⟩
 ·have hl':=le_max hl
  have hp:pre.length<9223372036854775807:=by simp at hl';omega
  simp only [dS]
  rw [if_pos (aAY pre post x)]
  simp (maxSteps:=2000000) only [rK,rH,Option.bind_some,bB hp,t0,w0,w1,w2,w3]
  rw [hE]
 ·have hl':=le_max hl
  have hp:i<9223372036854775807:=by have:=(List.getElem?_eq_some_iff.1 hi).1;omega
  simp only [fE]
  rw [if_pos (aCE hi)]
  simp (maxSteps:=2000000) only [aAa hi,Option.bind_some,bB hp,t0,w0,w1,w2,w3,bne_self_eq_false,beq_self_eq_true,Bool.not_true,Bool.false_eq_true,if_false]
  rw [hE]
theorem M.aIF.gY (xs:List M.bF) (hx:(xs.length≤maxLen ∧ ∀y∈xs,M.bF.ok y)) (k:Int) (h0:0≤k) (hB:k+((aC M.bF.cnt xs:Nat):Int)≤KB) : ∃ys,tG xs k=some (ys,k+((aC M.bF.cnt xs:Nat):Int))∧tE ys k=some (k+((aC M.bF.cnt xs:Nat):Int))∧ys.length=xs.length:=by
 have hm:=le_max hx.1
 obtain ⟨ys,h1,h2,h3⟩:=kV (ML:=dS) (HL:=fE) (c:=M.bF.cnt) (ok:=M.bF.ok) (fun x hx k h0 hB=>M.bF.pF x hx k h0 hB) (fun n k l=>by simp only [dS];rw [if_neg (by rw [aP];simp)]) (fun n k l=>by simp only [fE];rw [if_neg (by rw [aP];simp)]) xs [] fuel k (by simpa using hx.1) (by unfold fuel;omega) hx.2 h0 hB
 refine ⟨ys,by unfold tG;simpa using h2,by unfold tE;simpa using h3 fuel (by unfold fuel;omega),h1⟩
def M.bU.cnt (x:M.bU):Nat:=3
set_option maxHeartbeats 4000000 in
theorem M.bU.pF (x:M.bU) (hx:M.bU.ok x) (k:Int) (h0:0≤k) (hB:k+((M.bU.cnt x:Nat):Int)≤KB) : ∃x':M.bU,(∀n (pre post:List M.bU),(pre++x::post).length≤maxLen→dQ (n+1) k pre.length (pre++x::post)=dQ n (k+((M.bU.cnt x:Nat):Int)) ((pre.length+1:Nat):Int) (pre++x'::post)) ∧ ∀n (l:List M.bU) (i:Nat),l[i]? = some x'→l.length≤maxLen→fH l (n+1) k i=fH l n (k+((M.bU.cnt x:Nat):Int)) ((i+1:Nat):Int):=by
 unfold KB at hB;unfold M.bU.cnt at hB ⊢
 have A:(0≤k∧k≤KB)∧(0≤k+1∧k+1≤KB)∧(0≤k+1+1∧k+1+1≤KB)∧(0≤k+1+1+1∧k+1+1+1≤KB):=by
  unfold KB
  refine ⟨?_,?_,?_,?_⟩<;>omega
 have hE:k+1+1+1=k+((M.bU.cnt x:Nat):Int):=by unfold M.bU.cnt;omega
 unfold M.bU.cnt at hE
 obtain ⟨q0,q1,q2,q3⟩:=A
 have w0:=wk2 q0
 have w1:=wk2 q1
 have w2:=wk2 q2
 refine ⟨⟨k,k+1,k+1+1⟩,fun n pre post hl => ?_,fun n l i hi hl => ?_⟩
 ·have hl':=le_max hl
  have hp:pre.length<9223372036854775807:=by simp at hl';omega
  simp only [dQ]
  rw [if_pos (aAY pre post x)]
  simp (maxSteps:=2000000) only [rK,rH,Option.bind_some,bB hp,w0,w1,w2]
  rw [hE]
 ·have hl':=le_max hl
  have hp:i<9223372036854775807:=by have:=(List.getElem?_eq_some_iff.1 hi).1;omega
  simp only [fH]
  rw [if_pos (aCE hi)]
  simp (maxSteps:=2000000) only [aAa hi,Option.bind_some,bB hp,w0,w1,w2,bne_self_eq_false,beq_self_eq_true,Bool.not_true,Bool.false_eq_true,if_false]
  rw [hE]
theorem M.aId.gY (xs:List M.bU) (hx:(xs.length≤maxLen ∧ ∀y∈xs,M.bU.ok y)) (k:Int) (h0:0≤k) (hB:k+((aC M.bU.cnt xs:Nat):Int)≤KB) : ∃ys,tK xs k=some (ys,k+((aC M.bU.cnt xs:Nat):Int))∧tP ys k=some (k+((aC M.bU.cnt xs:Nat):Int))∧ys.length=xs.length:=by
 have hm:=le_max hx.1
 obtain ⟨ys,h1,h2,h3⟩:=kV (ML:=dQ) (HL:=fH) (c:=M.bU.cnt) (ok:=M.bU.ok) (fun x hx k h0 hB=>M.bU.pF x hx k h0 hB) (fun n k l=>by simp only [dQ];rw [if_neg (by rw [aP];simp)]) (fun n k l=>by simp only [fH];rw [if_neg (by rw [aP];simp)]) xs [] fuel k (by simpa using hx.1) (by unfold fuel;omega) hx.2 h0 hB
 refine ⟨ys,by unfold tK;simpa using h2,by unfold tP;simpa using h3 fuel (by unfold fuel;omega),h1⟩
set_option maxHeartbeats 4000000 in
theorem M.aAH.pF (x:ByteArray) (hx:True) (k:Int) (h0:0≤k) (hB:k+(((fun _:ByteArray=>1) x:Nat):Int)≤KB) : ∃x':ByteArray,(∀n (pre post:List ByteArray),(pre++x::post).length≤maxLen→cQ (n+1) k pre.length (pre++x::post)=cQ n (k+(((fun _:ByteArray=>1) x:Nat):Int)) ((pre.length+1:Nat):Int) (pre++x'::post)) ∧ ∀n (l:List ByteArray) (i:Nat),l[i]? = some x'→l.length≤maxLen→dK l (n+1) k i=dK l n (k+(((fun _:ByteArray=>1) x:Nat):Int)) ((i+1:Nat):Int):=by
 unfold KB at hB;(try simp only [] at hB ⊢)
 have A:(0≤k∧k≤KB)∧(0≤k+1∧k+1≤KB):=by
  unfold KB
  refine ⟨?_,?_⟩<;>omega
 have hE:k+1=k+(((fun _:ByteArray=>1) x:Nat):Int):=by simp
 obtain ⟨q0,q1⟩:=A
 have t0:aG (k)=some (mtx (k)):=mt q0.1 (Int.lt_of_add_one_le q1.2)
 have w0:=wk2 q0
 refine ⟨(mtx (k)),fun n pre post hl => ?_,fun n l i hi hl => ?_⟩
 ·have hl':=le_max hl
  have hp:pre.length<9223372036854775807:=by simp at hl';omega
  simp only [cQ]
  rw [if_pos (aAY pre post x)]
  simp (maxSteps:=2000000) only [rK,rH,Option.bind_some,bB hp,t0,w0]
  rw [hE]
 ·have hl':=le_max hl
  have hp:i<9223372036854775807:=by have:=(List.getElem?_eq_some_iff.1 hi).1;omega
  simp only [dK]
  rw [if_pos (aCE hi)]
  simp (maxSteps:=2000000) only [aAa hi,Option.bind_some,bB hp,t0,w0,bne_self_eq_false,beq_self_eq_true,Bool.not_true,Bool.false_eq_true,if_false]
  rw [hE]
theorem M.aAH.cl (xs:List ByteArray):aC (fun _:ByteArray=>1) xs=xs.length:=by
 induction xs with
 | nil=>rfl
 | cons x xs ih=>simp only [aC,ih,List.length_cons];omega
theorem M.aAH.gY (xs:List ByteArray) (hx:okS xs) (k:Int) (h0:0≤k) (hB:k+((xs.length:Nat):Int)≤KB) : ∃ys,nR xs k=some (ys,k+((xs.length:Nat):Int))∧nZ ys k=some (k+((xs.length:Nat):Int))∧ys.length=xs.length:=by
 have hm:=le_max hx.1
 rw [←M.aAH.cl xs] at hB ⊢
 obtain ⟨ys,h1,h2,h3⟩:=kV (ML:=cQ) (HL:=dK) (c:=(fun _:ByteArray=>1)) (ok:=(fun _:ByteArray=>True)) (fun x hx k h0 hB=>M.aAH.pF x hx k h0 hB) (fun n k l=>by simp only [cQ];rw [if_neg (by rw [aP];simp)]) (fun n k l=>by simp only [dK];rw [if_neg (by rw [aP];simp)]) xs [] fuel k (by simpa using hx.1) (by unfold fuel;omega) (fun _ _=>trivial) h0 hB
 refine ⟨ys,by unfold nR;simpa using h2,by unfold nZ;simpa using h3 fuel (by unfold fuel;omega),by have:=M.aAH.cl xs;omega⟩
def M.Site.cnt (x:M.Site):Nat:=3+(x.Files.length)
set_option maxHeartbeats 4000000 in
theorem M.Site.pF (x:M.Site) (hx:M.Site.ok x) (k:Int) (h0:0≤k) (hB:k+((M.Site.cnt x:Nat):Int)≤KB) : ∃x':M.Site,(∀n (pre post:List M.Site),(pre++x::post).length≤maxLen→dY (n+1) k pre.length (pre++x::post)=dY n (k+((M.Site.cnt x:Nat):Int)) ((pre.length+1:Nat):Int) (pre++x'::post)) ∧ ∀n (l:List M.Site) (i:Nat),l[i]? = some x'→l.length≤maxLen→eZ l (n+1) k i=eZ l n (k+((M.Site.cnt x:Nat):Int)) ((i+1:Nat):Int):=by
 unfold KB at hB;unfold M.Site.cnt at hB ⊢
 have A:(0≤k∧k≤KB)∧(0≤k+1∧k+1≤KB)∧(0≤k+1+1∧k+1+1≤KB)∧(0≤k+1+1+((x.Files.length:Nat):Int)∧k+1+1+((x.Files.length:Nat):Int)≤KB)∧(0≤k+1+1+((x.Files.length:Nat):Int)+1∧k+1+1+((x.Files.length:Nat):Int)+1≤KB):=by
  unfold KB
  refine ⟨?_,?_,?_,?_,?_⟩<;>omega
 have hE:k+1+1+((x.Files.length:Nat):Int)+1=k+((M.Site.cnt x:Nat):Int):=by unfold M.Site.cnt;omega
 unfold M.Site.cnt at hE
 obtain ⟨q0,q1,q2,q3,q4⟩:=A
 have t0:aG (k)=some (mtx (k)):=mt q0.1 (Int.lt_of_add_one_le q1.2)
 have w0:=wk2 q0
 have w1:=wk2 q1
 obtain ⟨y1,a1,b1,_⟩:=M.aAH.gY _ hx.Files (k+1+1) q2.1 q3.2
 have d1:(decide (k+1+1+((x.Files.length:Nat):Int)<0))=false:=dk q3.1
 have w3:=wk2 q3
 refine ⟨⟨(mtx (k)),k+1,y1,((Int.tmod (k+1+1+((x.Files.length:Nat):Int)) 3)==0)⟩,fun n pre post hl => ?_,fun n l i hi hl => ?_⟩
 ·have hl':=le_max hl
  have hp:pre.length<9223372036854775807:=by simp at hl';omega
  simp only [dY]
  rw [if_pos (aAY pre post x)]
  simp (maxSteps:=2000000) only [rK,rH,Option.bind_some,bB hp,t0,w0,w1,a1,w3]
  rw [hE]
 ·have hl':=le_max hl
  have hp:i<9223372036854775807:=by have:=(List.getElem?_eq_some_iff.1 hi).1;omega
  simp only [eZ]
  rw [if_pos (aCE hi)]
  simp (maxSteps:=2000000) only [aAa hi,Option.bind_some,bB hp,t0,w0,w1,b1,d1,w3,bne_self_eq_false,beq_self_eq_true,Bool.not_true,Bool.false_eq_true,if_false]
  rw [hE]
theorem M.aH8.gY (xs:List M.Site) (hx:(xs.length≤maxLen ∧ ∀y∈xs,M.Site.ok y)) (k:Int) (h0:0≤k) (hB:k+((aC M.Site.cnt xs:Nat):Int)≤KB) : ∃ys,sZ xs k=some (ys,k+((aC M.Site.cnt xs:Nat):Int))∧uI ys k=some (k+((aC M.Site.cnt xs:Nat):Int))∧ys.length=xs.length:=by
 have hm:=le_max hx.1
 obtain ⟨ys,h1,h2,h3⟩:=kV (ML:=dY) (HL:=eZ) (c:=M.Site.cnt) (ok:=M.Site.ok) (fun x hx k h0 hB=>M.Site.pF x hx k h0 hB) (fun n k l=>by simp only [dY];rw [if_neg (by rw [aP];simp)]) (fun n k l=>by simp only [eZ];rw [if_neg (by rw [aP];simp)]) xs [] fuel k (by simpa using hx.1) (by unfold fuel;omega) hx.2 h0 hB
 refine ⟨ys,by unfold sZ;simpa using h2,by unfold uI;simpa using h3 fuel (by unfold fuel;omega),h1⟩
def M.aJ.cnt (x:M.aJ):Nat:=2
set_option maxHeartbeats 4000000 in
theorem M.aJ.pF (x:M.aJ) (hx:M.aJ.ok x) (k:Int) (h0:0≤k) (hB:k+((M.aJ.cnt x:Nat):Int)≤KB) : ∃x':M.aJ,(∀n (pre post:List M.aJ),(pre++x::post).length≤maxLen→cC (n+1) k pre.length (pre++x::post)=cC n (k+((M.aJ.cnt x:Nat):Int)) ((pre.length+1:Nat):Int) (pre++x'::post)) ∧ ∀n (l:List M.aJ) (i:Nat),l[i]? = some x'→l.length≤maxLen→cV l (n+1) k i=cV l n (k+((M.aJ.cnt x:Nat):Int)) ((i+1:Nat):Int):=by
 unfold KB at hB;unfold M.aJ.cnt at hB ⊢
 have A:(0≤k∧k≤KB)∧(0≤k+1∧k+1≤KB)∧(0≤k+1+1∧k+1+1≤KB):=by
  unfold KB
  refine ⟨?_,?_,?_⟩<;>omega
 have hE:k+1+1=k+((M.aJ.cnt x:Nat):Int):=by unfold M.aJ.cnt;omega
 unfold M.aJ.cnt at hE
 obtain ⟨q0,q1,q2⟩:=A
 have w0:=wk2 q0
 have w1:=wk2 q1
 refine ⟨⟨k,k+1⟩,fun n pre post hl => ?_,fun n l i hi hl => ?_⟩
 ·have hl':=le_max hl
  have hp:pre.length<9223372036854775807:=by simp at hl';omega
  simp only [cC]
  rw [if_pos (aAY pre post x)]
  simp (maxSteps:=2000000) only [rK,rH,Option.bind_some,bB hp,w0,w1]
  rw [hE]
 ·have hl':=le_max hl
  have hp:i<9223372036854775807:=by have:=(List.getElem?_eq_some_iff.1 hi).1;omega
  simp only [cV]
  rw [if_pos (aCE hi)]
  simp (maxSteps:=2000000) only [aAa hi,Option.bind_some,bB hp,w0,w1,bne_self_eq_false,beq_self_eq_true,Bool.not_true,Bool.false_eq_true,if_false]
  rw [hE]
theorem M.aBb.gY (xs:List M.aJ) (hx:(xs.length≤maxLen ∧ ∀y∈xs,M.aJ.ok y)) (k:Int) (h0:0≤k) (hB:k+((aC M.aJ.cnt xs:Nat):Int)≤KB) : ∃ys,mS xs k=some (ys,k+((aC M.aJ.cnt xs:Nat):Int))∧mR ys k=some (k+((aC M.aJ.cnt xs:Nat):Int))∧ys.length=xs.length:=by
 have hm:=le_max hx.1
 obtain ⟨ys,h1,h2,h3⟩:=kV (ML:=cC) (HL:=cV) (c:=M.aJ.cnt) (ok:=M.aJ.ok) (fun x hx k h0 hB=>M.aJ.pF x hx k h0 hB) (fun n k l=>by simp only [cC];rw [if_neg (by rw [aP];simp)]) (fun n k l=>by simp only [cV];rw [if_neg (by rw [aP];simp)]) xs [] fuel k (by simpa using hx.1) (by unfold fuel;omega) hx.2 h0 hB
 refine ⟨ys,by unfold mS;simpa using h2,by unfold mR;simpa using h3 fuel (by unfold fuel;omega),h1⟩
def M.Server.cnt (x:M.Server):Nat:=2+(aC M.Item.cnt x.aH.Items)+(aC M.aJ.cnt x.aJ)+(aC M.aY.cnt x.Changes)
set_option maxHeartbeats 4000000 in
theorem M.Server.pF (x:M.Server) (hx:M.Server.ok x) (k:Int) (h0:0≤k) (hB:k+((M.Server.cnt x:Nat):Int)≤KB) : ∃x':M.Server,(∀n (pre post:List M.Server),(pre++x::post).length≤maxLen→cK (n+1) k pre.length (pre++x::post)=cK n (k+((M.Server.cnt x:Nat):Int)) ((pre.length+1:Nat):Int) (pre++x'::post)) ∧ ∀n (l:List M.Server) (i:Nat),l[i]? = some x'→l.length≤maxLen→cO l (n+1) k i=cO l n (k+((M.Server.cnt x:Nat):Int)) ((i+1:Nat):Int):=by
 unfold KB at hB;unfold M.Server.cnt at hB ⊢
 have A:(0≤k∧k≤KB)∧(0≤k+1∧k+1≤KB)∧(0≤k+1+((aC M.Item.cnt x.aH.Items:Nat):Int)∧k+1+((aC M.Item.cnt x.aH.Items:Nat):Int)≤KB)∧(0≤k+1+((aC M.Item.cnt x.aH.Items:Nat):Int)+1∧k+1+((aC M.Item.cnt x.aH.Items:Nat):Int)+1≤KB)∧(0≤k+1+((aC M.Item.cnt x.aH.Items:Nat):Int)+1+((aC M.aJ.cnt x.aJ:Nat):Int)∧k+1+((aC M.Item.cnt x.aH.Items:Nat):Int)+1+((aC M.aJ.cnt x.aJ:Nat):Int)≤KB)∧(0≤k+1+((aC M.Item.cnt x.aH.Items:Nat):Int)+1+((aC M.aJ.cnt x.aJ:Nat):Int)+((aC M.aY.cnt x.Changes:Nat):Int)∧k+1+((aC M.Item.cnt x.aH.Items:Nat):Int)+1+((aC M.aJ.cnt x.aJ:Nat):Int)+((aC M.aY.cnt x.Changes:Nat):Int)≤KB):=by
  unfold KB
  refine ⟨?_,?_,?_,?_,?_,?_⟩<;>omega
 have hE:k+1+((aC M.Item.cnt x.aH.Items:Nat):Int)+1+((aC M.aJ.cnt x.aJ:Nat):Int)+((aC M.aY.cnt x.Changes:Nat):Int)=k+((M.Server.cnt x:Nat):Int):=by unfold M.Server.cnt;omega
 unfold M.Server.cnt at hE
 obtain ⟨q0,q1,q2,q3,q4,q5⟩:=A
 have t0:aG (k)=some (mtx (k)):=mt q0.1 (Int.lt_of_add_one_le q1.2)
 have w0:=wk2 q0
 obtain ⟨y1,a1,b1,_⟩:=M.aEz.gY _ hx.aH.Items (k+1) q1.1 q2.2
 have d1:(decide (k+1+((aC M.Item.cnt x.aH.Items:Nat):Int)<0))=false:=dk q2.1
 have w2:=wk2 q2
 obtain ⟨y2,a2,b2,_⟩:=M.aBb.gY _ hx.aJ (k+1+((aC M.Item.cnt x.aH.Items:Nat):Int)+1) q3.1 q4.2
 have d2:(decide (k+1+((aC M.Item.cnt x.aH.Items:Nat):Int)+1+((aC M.aJ.cnt x.aJ:Nat):Int)<0))=false:=dk q4.1
 obtain ⟨y3,a3,b3,_⟩:=M.aBq.gY _ hx.Changes (k+1+((aC M.Item.cnt x.aH.Items:Nat):Int)+1+((aC M.aJ.cnt x.aJ:Nat):Int)) q4.1 q5.2
 have d3:(decide (k+1+((aC M.Item.cnt x.aH.Items:Nat):Int)+1+((aC M.aJ.cnt x.aJ:Nat):Int)+((aC M.aY.cnt x.Changes:Nat):Int)<0))=false:=dk q5.1
 refine ⟨⟨⟨(mtx (k)),y1,k+1+((aC M.Item.cnt x.aH.Items:Nat):Int)⟩,y2,y3⟩,fun n pre post hl => ?_,fun n l i hi hl => ?_⟩
 ·have hl':=le_max hl
  have hp:pre.length<9223372036854775807:=by simp at hl';omega
  simp only [cK]
  rw [if_pos (aAY pre post x)]
  simp (maxSteps:=2000000) only [rK,rH,Option.bind_some,bB hp,t0,w0,a1,w2,a2,a3]
  rw [hE]
 ·have hl':=le_max hl
  have hp:i<9223372036854775807:=by have:=(List.getElem?_eq_some_iff.1 hi).1;omega
  simp only [cO]
  rw [if_pos (aCE hi)]
  simp (maxSteps:=2000000) only [aAa hi,Option.bind_some,bB hp,t0,w0,b1,d1,w2,b2,d2,b3,d3,bne_self_eq_false,beq_self_eq_true,Bool.not_true,Bool.false_eq_true,if_false]
  rw [hE]
theorem M.aCK.gY (xs:List M.Server) (hx:(xs.length≤maxLen ∧ ∀y∈xs,M.Server.ok y)) (k:Int) (h0:0≤k) (hB:k+((aC M.Server.cnt xs:Nat):Int)≤KB) : ∃ys,oK xs k=some (ys,k+((aC M.Server.cnt xs:Nat):Int))∧oZ ys k=some (k+((aC M.Server.cnt xs:Nat):Int))∧ys.length=xs.length:=by
 have hm:=le_max hx.1
 obtain ⟨ys,h1,h2,h3⟩:=kV (ML:=cK) (HL:=cO) (c:=M.Server.cnt) (ok:=M.Server.ok) (fun x hx k h0 hB=>M.Server.pF x hx k h0 hB) (fun n k l=>by simp only [cK];rw [if_neg (by rw [aP];simp)]) (fun n k l=>by simp only [cO];rw [if_neg (by rw [aP];simp)]) xs [] fuel k (by simpa using hx.1) (by unfold fuel;omega) hx.2 h0 hB
 refine ⟨ys,by unfold oK;simpa using h2,by unfold oZ;simpa using h3 fuel (by unfold fuel;omega),h1⟩
def M.World.aNb (x:M.World):Nat:=(aC M.aF.cnt x.aM.Buckets)+(aC M.bG.cnt x.Pages)+(aC M.bF.cnt x.Locks.Locks)+(aC M.bU.cnt x.Channel.Mails)+(aC M.Site.cnt x.Sites)+(aC M.Server.cnt x.Servers)
theorem M.World.gY (x:M.World) (hx:M.World.ok x) (k:Int) (h0:0≤k) (hB:k+((M.World.aNb x:Nat):Int)≤KB) : ∃y1 y2 y3 y4 y5 y6,nK x k=some (y1,y2,y3,y4,y5,y6,k+((M.World.aNb x:Nat):Int))∧nO (⟨x.Now,x.Online,x.Device,⟨y1⟩,y2,x.NextPage,⟨y3⟩,⟨y4⟩,y5,y6⟩:M.World) k=some (k+((M.World.aNb x:Nat):Int)):=by
 unfold KB at hB;unfold M.World.aNb at hB ⊢
 obtain ⟨y1,a1,b1,_⟩:=M.aCJ.gY _ hx.aM.Buckets (k) (by omega) (by unfold KB;omega)
 obtain ⟨y2,a2,b2,_⟩:=M.aID.gY _ hx.Pages (k+((aC M.aF.cnt x.aM.Buckets:Nat):Int)) (by omega) (by unfold KB;omega)
 obtain ⟨y3,a3,b3,_⟩:=M.aIF.gY _ hx.Locks.Locks (k+((aC M.aF.cnt x.aM.Buckets:Nat):Int)+((aC M.bG.cnt x.Pages:Nat):Int)) (by omega) (by unfold KB;omega)
 obtain ⟨y4,a4,b4,_⟩:=M.aId.gY _ hx.Channel.Mails (k+((aC M.aF.cnt x.aM.Buckets:Nat):Int)+((aC M.bG.cnt x.Pages:Nat):Int)+((aC M.bF.cnt x.Locks.Locks:Nat):Int)) (by omega) (by unfold KB;omega)
 obtain ⟨y5,a5,b5,_⟩:=M.aH8.gY _ hx.Sites (k+((aC M.aF.cnt x.aM.Buckets:Nat):Int)+((aC M.bG.cnt x.Pages:Nat):Int)+((aC M.bF.cnt x.Locks.Locks:Nat):Int)+((aC M.bU.cnt x.Channel.Mails:Nat):Int)) (by omega) (by unfold KB;omega)
 obtain ⟨y6,a6,b6,_⟩:=M.aCK.gY _ hx.Servers (k+((aC M.aF.cnt x.aM.Buckets:Nat):Int)+((aC M.bG.cnt x.Pages:Nat):Int)+((aC M.bF.cnt x.Locks.Locks:Nat):Int)+((aC M.bU.cnt x.Channel.Mails:Nat):Int)+((aC M.Site.cnt x.Sites:Nat):Int)) (by omega) (by unfold KB;omega)
 refine ⟨y1,y2,y3,y4,y5,y6,?_,?_⟩
 ·unfold nK
  simp only [vC,pL,uV,a1,a2,a3,a4,a5,a6,Option.bind_some]
  try (simp only [Option.some.injEq,Prod.mk.injEq,true_and];omega)
 ·unfold nO
  simp (disch:=(first | omega | (unfold KB;omega))) only [uU,pM,uZ,b1,b2,b3,b4,b5,b6,Option.bind_some,dk,Bool.false_eq_true,if_false]
  try (simp only [Option.some.injEq];omega)
theorem M.aCD.fZ (xs:List Int):xs.length≤40*(xs.length):=by omega
theorem M.Cached.fZ (x:M.Cached):M.Cached.cnt x≤40+40*M.Cached.sz x:=by
 unfold M.Cached.cnt
 simp only [M.Cached.sz,M.Response.sz]
 have:=M.aCD.fZ x.Response.Body
 omega
theorem M.aCF.fZ (xs:List M.Cached):aC M.Cached.cnt xs≤40*((xs.length+aC M.Cached.sz xs)):=mO (fun x _=>M.Cached.fZ x)
theorem M.Cache.fZ (x:M.Cache):M.Cache.cnt x≤40+40*M.Cache.sz x:=by
 unfold M.Cache.cnt
 simp only [M.Cache.sz]
 have:=M.aCF.fZ x.Entries
 omega
theorem M.aEA.fZ (xs:List M.Cache):aC M.Cache.cnt xs≤40*((xs.length+aC M.Cache.sz xs)):=mO (fun x _=>M.Cache.fZ x)
theorem M.Field.fZ (x:M.Field):M.Field.cnt x≤40+40*M.Field.sz x:=by
 unfold M.Field.cnt
 simp only [M.Field.sz]
 omega
theorem M.aEg.fZ (xs:List M.Field):aC M.Field.cnt xs≤40*((xs.length+aC M.Field.sz xs)):=mO (fun x _=>M.Field.fZ x)
theorem M.Item.fZ (x:M.Item):M.Item.cnt x≤40+40*M.Item.sz x:=by
 unfold M.Item.cnt
 simp only [M.Item.sz,M.Key.sz,M.aU.sz]
 have:=M.aEg.fZ x.aU.Fields
 omega
theorem M.aEz.fZ (xs:List M.Item):aC M.Item.cnt xs≤40*((xs.length+aC M.Item.sz xs)):=mO (fun x _=>M.Item.fZ x)
theorem M.aH.fZ (x:M.aH):M.aH.cnt x≤40+40*M.aH.sz x:=by
 unfold M.aH.cnt
 simp only [M.aH.sz]
 have:=M.aEz.fZ x.Items
 omega
theorem M.aDx.fZ (xs:List M.aH):aC M.aH.cnt xs≤40*((xs.length+aC M.aH.sz xs)):=mO (fun x _=>M.aH.fZ x)
theorem M.aA.fZ (x:M.aA):M.aA.cnt x≤40+40*M.aA.sz x:=by
 unfold M.aA.cnt
 simp only [M.aA.sz]
 omega
theorem M.aA4.fZ (xs:List M.aA):aC M.aA.cnt xs≤40*((xs.length+aC M.aA.sz xs)):=mO (fun x _=>M.aA.fZ x)
theorem M.aY.fZ (x:M.aY):M.aY.cnt x≤40+40*M.aY.sz x:=by
 unfold M.aY.cnt
 simp only [M.aY.sz,M.Key.sz]
 omega
theorem M.aBq.fZ (xs:List M.aY):aC M.aY.cnt xs≤40*((xs.length+aC M.aY.sz xs)):=mO (fun x _=>M.aY.fZ x)
theorem M.aF.fZ (x:M.aF):M.aF.cnt x≤40+40*M.aF.sz x:=by
 unfold M.aF.cnt
 simp only [M.aF.sz,M.Registration.sz,M.aT.sz,M.bE.sz,M.Database.sz,M.aD.sz,M.aH.sz,M.Sync.sz,M.aV.sz]
 have:=M.aEA.fZ x.Caches.Caches
 have:=M.aDx.fZ x.bE.Base.Stores
 have:=M.aA4.fZ x.bE.Base.Unique
 have:=M.aCD.fZ x.bE.Log
 have:=M.aEz.fZ x.aD.Base.Items
 have:=M.aBq.fZ x.aD.Sync.aV.Writes
 omega
theorem M.aCJ.fZ (xs:List M.aF):aC M.aF.cnt xs≤40*((xs.length+aC M.aF.sz xs)):=mO (fun x _=>M.aF.fZ x)
theorem M.aN.fZ (x:M.aN):M.aN.cnt x≤40+40*M.aN.sz x:=by
 unfold M.aN.cnt
 simp only [M.aN.sz]
 omega
theorem M.aCH.fZ (xs:List M.aN):aC M.aN.cnt xs≤40*((xs.length+aC M.aN.sz xs)):=mO (fun x _=>M.aN.fZ x)
theorem M.Instr.fZ (x:M.Instr):M.Instr.cnt x≤40+40*M.Instr.sz x:=by
 unfold M.Instr.cnt
 simp only [M.Instr.sz]
 omega
theorem M.aEO.fZ (xs:List M.Instr):aC M.Instr.cnt xs≤40*((xs.length+aC M.Instr.sz xs)):=mO (fun x _=>M.Instr.fZ x)
theorem M.aKP.fZ (xs:List Int):xs.length≤40*(xs.length):=by omega
theorem M.bG.fZ (x:M.bG):M.bG.cnt x≤40+40*M.bG.sz x:=by
 unfold M.bG.cnt
 simp only [M.bG.sz,M.Machine.sz]
 have:=M.aCH.fZ x.aN
 have:=M.aEO.fZ x.Machine.Script
 have:=M.aKP.fZ x.Machine.Regs
 omega
theorem M.aID.fZ (xs:List M.bG):aC M.bG.cnt xs≤40*((xs.length+aC M.bG.sz xs)):=mO (fun x _=>M.bG.fZ x)
theorem M.bF.fZ (x:M.bF):M.bF.cnt x≤40+40*M.bF.sz x:=by
 unfold M.bF.cnt
 simp only [M.bF.sz]
 omega
theorem M.aIF.fZ (xs:List M.bF):aC M.bF.cnt xs≤40*((xs.length+aC M.bF.sz xs)):=mO (fun x _=>M.bF.fZ x)
theorem M.bU.fZ (x:M.bU):M.bU.cnt x≤40:=by
 unfold M.bU.cnt
 omega
theorem M.aId.fZ (xs:List M.bU):aC M.bU.cnt xs≤40*(xs.length):=Nat.le_trans (aDe (fun x _=>M.bU.fZ x)) (by omega)
theorem M.aAH.fZ (xs:List ByteArray):xs.length≤40*((xs.length+aC ByteArray.size xs)):=by omega
theorem M.Site.fZ (x:M.Site):M.Site.cnt x≤40+40*M.Site.sz x:=by
 unfold M.Site.cnt
 simp only [M.Site.sz]
 have:=M.aAH.fZ x.Files
 omega
theorem M.aH8.fZ (xs:List M.Site):aC M.Site.cnt xs≤40*((xs.length+aC M.Site.sz xs)):=mO (fun x _=>M.Site.fZ x)
theorem M.aJ.fZ (x:M.aJ):M.aJ.cnt x≤40:=by
 unfold M.aJ.cnt
 omega
theorem M.aBb.fZ (xs:List M.aJ):aC M.aJ.cnt xs≤40*(xs.length):=Nat.le_trans (aDe (fun x _=>M.aJ.fZ x)) (by omega)
theorem M.Server.fZ (x:M.Server):M.Server.cnt x≤40+40*M.Server.sz x:=by
 unfold M.Server.cnt
 simp only [M.Server.sz,M.aH.sz]
 have:=M.aEz.fZ x.aH.Items
 have:=M.aBb.fZ x.aJ
 have:=M.aBq.fZ x.Changes
 omega
theorem M.aCK.fZ (xs:List M.Server):aC M.Server.cnt xs≤40*((xs.length+aC M.Server.sz xs)):=mO (fun x _=>M.Server.fZ x)
theorem M.World.aNd (x:M.World):M.World.aNb x≤40*M.World.sz x:=by
 unfold M.World.aNb
 simp only [M.World.sz,M.aM.sz,M.aE.sz,M.Channel.sz]
 have:=M.aCJ.fZ x.aM.Buckets
 have:=M.aID.fZ x.Pages
 have:=M.aIF.fZ x.Locks.Locks
 have:=M.aId.fZ x.Channel.Mails
 have:=M.aH8.fZ x.Sites
 have:=M.aCK.fZ x.Servers
 omega
end Go.Proofs.YtnhpbpnhmapeeaaGreat.gen
