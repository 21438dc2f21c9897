/-
  Helper text. No conditions.
-/
import Derived.Test.YtidhkhdnjonjfaaGreatUpdateWorkerPz
set_option linter.unusedVariables false
set_option linter.unusedSimpArgs false
namespace Go.Proofs.YtidhkhdnjonjfaaGreat.gen
open Go Go.Sh
theorem aQz : ∀(n:Nat) (v:Int) (b:ByteArray),v.toNat<n→0≤v→(b.size:Int)+v≤KB → ∃t,mD n v b=some t∧t.size≤4611686018427387905
 | 0,v,b,h,_,_=>by omega
 | n+1,v,b,h,h0,hb=>by
  unfold KB at hb
  simp only [mD]
  by_cases hv:v>0
  ·rw [if_pos (by simp;omega)]
   have h1:=Int.tmod_nonneg 10 h0
   have h2:=Int.tmod_lt_of_pos v (show (0:Int)<10 by omega)
   have hu:=aQl (IntKind.i64.wrap (48+Int.tmod v 10))
   have hd:Int.tdiv v 10=v/10:=Int.tdiv_eq_ediv_of_nonneg h0
   have hs:toStr [IntKind.u8.wrap (IntKind.i64.wrap (48+Int.tmod v 10))]=some (aDP [IntKind.u8.wrap (IntKind.i64.wrap (48+Int.tmod v 10))]):=by
    unfold toStr;rw [if_pos (by simp;omega)]
   have hz:(aDP [IntKind.u8.wrap (IntKind.i64.wrap (48+Int.tmod v 10))]).size=1:=rfl
   rw [hs,qA]
   unfold cat
   rw [if_pos (by rw [hz];omega),qA,hd,fB (by omega) (by omega)]
   refine aQz n (v/10) _ (by omega) (by omega) ?_
   rw [ByteArray.size_append,hz]
   unfold KB
   omega
  ·rw [if_neg (by simp;omega)]
   have hq:cat (⟨#[109]⟩:ByteArray) b=some ((⟨#[109]⟩:ByteArray)++b):=by
    unfold cat;rw [if_pos (by show 1+b.size≤_;omega)]
   first | exact ⟨_,by rw [hq,qA],by rw [ByteArray.size_append];show 1+b.size≤_;omega⟩ | exact ⟨_,by rw [hq];rfl,by rw [ByteArray.size_append];show 1+b.size≤_;omega⟩
theorem aRf (k:Int) (h0:0≤k) (h:k<KB) : ∃t,aH k=some t:=by
 unfold aH
 by_cases hk:k≤0
 ·exact ⟨_,by rw [if_pos (by simpa using hk)]⟩
 ·rw [if_neg (by simpa using hk)]
  obtain ⟨t,h1,_⟩:=aQz fuel k ⟨#[]⟩ (by unfold fuel KB at *;omega) h0 (by show ((0:Nat):Int)+k≤KB;omega)
  exact ⟨t,h1⟩
def mtx (k:Int):ByteArray:=(aH k).getD ⟨#[]⟩
theorem mt {k:Int} (h0:0≤k) (h:k<KB):aH k=some (mtx k):=by
 obtain ⟨t,ht⟩:=aRf k h0 h
 unfold mtx;rw [ht];rfl
set_option maxHeartbeats 4000000 in
theorem M.aD0.sO (x:Int) (hx:True) (k:Int) (h0:0≤k) (hB:k+(((fun _:Int=>1) x:Nat):Int)≤KB) : ∃x':Int,(∀n (pre post:List Int),(pre++x::post).length≤maxLen→eE (n+1) k pre.length (pre++x::post)=eE n (k+(((fun _:Int=>1) x:Nat):Int)) ((pre.length+1:Nat):Int) (pre++x'::post)) ∧ ∀n (l:List Int) (i:Nat),l[i]? = some x'→l.length≤maxLen→fP l (n+1) k i=fP l n (k+(((fun _:Int=>1) x:Nat):Int)) ((i+1:Nat):Int):=by
 unfold KB at hB;(try simp only [] at hB ⊢)
 have A:(0≤k∧k≤KB)∧(0≤k+1∧k+1≤KB):=by
  unfold KB
  refine ⟨?_,?_⟩<;>omega
 have hE:k+1=k+(((fun _:Int=>1) x:Nat):Int):=by simp
 obtain ⟨q0,q1⟩:=A
 have w0:=wk2 q0
 refine ⟨(IntKind.u8.wrap k),fun n pre post hl => ?_,fun n l i hi hl => ?_⟩
 ·have hl':=le_max hl
  have hp:pre.length<9223372036854775807:=by simp at hl';omega
  simp only [eE]
  rw [if_pos (aBt pre post x)]
  simp (maxSteps:=2000000) only [uW,uV,qA,bC hp,w0]
  rw [hE]
 ·have hl':=le_max hl
  have hp:i<9223372036854775807:=by have:=(List.getElem?_eq_some_iff.1 hi).1;omega
  simp only [fP]
  rw [if_pos (aD1 hi)]
  simp (maxSteps:=2000000) only [aBv hi,qA,bC hp,w0,bne_self_eq_false,beq_self_eq_true,qB,qD,if_false]
  rw [hE]
theorem M.aD0.cl (xs:List Int):aF (fun _:Int=>1) xs=xs.length:=by
 induction xs with
 | nil=>rfl
 | cons x xs ih=>simp only [aF,ih,qJ];omega
theorem M.aD0.iD (xs:List Int) (hx:okB xs) (k:Int) (h0:0≤k) (hB:k+((xs.length:Nat):Int)≤KB) : ∃ys,pK xs k=some (ys,k+((xs.length:Nat):Int))∧oY ys k=some (k+((xs.length:Nat):Int))∧ys.length=xs.length:=by
 have hm:=le_max hx.1
 rw [←M.aD0.cl xs] at hB ⊢
 obtain ⟨ys,h1,h2,h3⟩:=mH (ML:=eE) (HL:=fP) (c:=(fun _:Int=>1)) (ok:=(fun _:Int=>True)) (fun x hx k h0 hB=>M.aD0.sO x hx k h0 hB) (fun n k l=>by simp only [eE];rw [if_neg (by rw [aO];simp)]) (fun n k l=>by simp only [fP];rw [if_neg (by rw [aO];simp)]) xs [] fuel k (by simpa using hx.1) (by unfold fuel;omega) (fun _ _=>trivial) h0 hB
 refine ⟨ys,by unfold pK;simpa using h2,by unfold oY;simpa using h3 fuel (by unfold fuel;omega),by have:=M.aD0.cl xs;omega⟩
def M.Cached.cnt (x:M.Cached):Nat:=6+(x.Response.Body.length)
set_option maxHeartbeats 4000000 in
theorem M.Cached.sO (x:M.Cached) (hx:M.Cached.ok x) (k:Int) (h0:0≤k) (hB:k+((M.Cached.cnt x:Nat):Int)≤KB) : ∃x':M.Cached,(∀n (pre post:List M.Cached),(pre++x::post).length≤maxLen→cU (n+1) k pre.length (pre++x::post)=cU n (k+((M.Cached.cnt x:Nat):Int)) ((pre.length+1:Nat):Int) (pre++x'::post)) ∧ ∀n (l:List M.Cached) (i:Nat),l[i]? = some x'→l.length≤maxLen→dU l (n+1) k i=dU l n (k+((M.Cached.cnt x:Nat):Int)) ((i+1:Nat):Int):=by
 unfold KB at hB;unfold M.Cached.cnt at hB ⊢
 have A:(0≤k∧k≤KB)∧(0≤k+1∧k+1≤KB)∧(0≤k+1+1∧k+1+1≤KB)∧(0≤k+1+1+1∧k+1+1+1≤KB)∧(0≤k+1+1+1+1∧k+1+1+1+1≤KB)∧(0≤k+1+1+1+1+1∧k+1+1+1+1+1≤KB)∧(0≤k+1+1+1+1+1+((x.Response.Body.length:Nat):Int)∧k+1+1+1+1+1+((x.Response.Body.length:Nat):Int)≤KB)∧(0≤k+1+1+1+1+1+((x.Response.Body.length:Nat):Int)+1∧k+1+1+1+1+1+((x.Response.Body.length:Nat):Int)+1≤KB):=by
  unfold KB
  refine ⟨?_,?_,?_,?_,?_,?_,?_,?_⟩<;>omega
 have hE:k+1+1+1+1+1+((x.Response.Body.length:Nat):Int)+1=k+((M.Cached.cnt x:Nat):Int):=by unfold M.Cached.cnt;omega
 unfold M.Cached.cnt at hE
 obtain ⟨q0,q1,q2,q3,q4,q5,q6,q7⟩:=A
 have t0:aH (k)=some (mtx (k)):=mt q0.1 (Int.lt_of_add_one_le q1.2)
 have w0:=wk2 q0
 have t1:aH (k+1)=some (mtx (k+1)):=mt q1.1 (Int.lt_of_add_one_le q2.2)
 have w1:=wk2 q1
 have w2:=wk2 q2
 have w3:=wk2 q3
 have w4:=wk2 q4
 obtain ⟨y1,a1,b1,_⟩:=M.aD0.iD _ hx.Response.Body (k+1+1+1+1+1) q5.1 q6.2
 have d1:(decide (k+1+1+1+1+1+((x.Response.Body.length:Nat):Int)<0))=false:=dk q6.1
 have w6:=wk2 q6
 refine ⟨⟨(mtx (k)),(mtx (k+1)),⟨k+1+1,k+1+1+1,k+1+1+1+1,y1,((Int.tmod (k+1+1+1+1+1+((x.Response.Body.length:Nat):Int)) 3)==0)⟩⟩,fun n pre post hl => ?_,fun n l i hi hl => ?_⟩
 ·have hl':=le_max hl
  have hp:pre.length<9223372036854775807:=by simp at hl';omega
  simp only [cU]
  rw [if_pos (aBt pre post x)]
  simp (maxSteps:=2000000) only [uW,uV,qA,bC hp,t0,w0,t1,w1,w2,w3,w4,a1,w6]
  rw [hE]
 ·have hl':=le_max hl
  have hp:i<9223372036854775807:=by have:=(List.getElem?_eq_some_iff.1 hi).1;omega
  simp only [dU]
  rw [if_pos (aD1 hi)]
  simp (maxSteps:=2000000) only [aBv hi,qA,bC hp,t0,w0,t1,w1,w2,w3,w4,b1,d1,w6,bne_self_eq_false,beq_self_eq_true,qB,qD,if_false]
  rw [hE]
theorem M.aD3.iD (xs:List M.Cached) (hx:(xs.length≤maxLen ∧ ∀y∈xs,M.Cached.ok y)) (k:Int) (h0:0≤k) (hB:k+((aF M.Cached.cnt xs:Nat):Int)≤KB) : ∃ys,pX xs k=some (ys,k+((aF M.Cached.cnt xs:Nat):Int))∧pP ys k=some (k+((aF M.Cached.cnt xs:Nat):Int))∧ys.length=xs.length:=by
 have hm:=le_max hx.1
 obtain ⟨ys,h1,h2,h3⟩:=mH (ML:=cU) (HL:=dU) (c:=M.Cached.cnt) (ok:=M.Cached.ok) (fun x hx k h0 hB=>M.Cached.sO x hx k h0 hB) (fun n k l=>by simp only [cU];rw [if_neg (by rw [aO];simp)]) (fun n k l=>by simp only [dU];rw [if_neg (by rw [aO];simp)]) xs [] fuel k (by simpa using hx.1) (by unfold fuel;omega) hx.2 h0 hB
 refine ⟨ys,by unfold pX;simpa using h2,by unfold pP;simpa using h3 fuel (by unfold fuel;omega),h1⟩
def M.Cache.cnt (x:M.Cache):Nat:=1+(aF M.Cached.cnt x.Entries)
set_option maxHeartbeats 4000000 in
theorem M.Cache.sO (x:M.Cache) (hx:M.Cache.ok x) (k:Int) (h0:0≤k) (hB:k+((M.Cache.cnt x:Nat):Int)≤KB) : ∃x':M.Cache,(∀n (pre post:List M.Cache),(pre++x::post).length≤maxLen→dM (n+1) k pre.length (pre++x::post)=dM n (k+((M.Cache.cnt x:Nat):Int)) ((pre.length+1:Nat):Int) (pre++x'::post)) ∧ ∀n (l:List M.Cache) (i:Nat),l[i]? = some x'→l.length≤maxLen→eM l (n+1) k i=eM l n (k+((M.Cache.cnt x:Nat):Int)) ((i+1:Nat):Int):=by
 unfold KB at hB;unfold M.Cache.cnt at hB ⊢
 have A:(0≤k∧k≤KB)∧(0≤k+1∧k+1≤KB)∧(0≤k+1+((aF M.Cached.cnt x.Entries:Nat):Int)∧k+1+((aF M.Cached.cnt x.Entries:Nat):Int)≤KB):=by
  unfold KB
  refine ⟨?_,?_,?_⟩<;>omega
 have hE:k+1+((aF M.Cached.cnt x.Entries:Nat):Int)=k+((M.Cache.cnt x:Nat):Int):=by unfold M.Cache.cnt;omega
 unfold M.Cache.cnt at hE
 obtain ⟨q0,q1,q2⟩:=A
 have w0:=wk2 q0
 obtain ⟨y1,a1,b1,_⟩:=M.aD3.iD _ hx.Entries (k+1) q1.1 q2.2
 have d1:(decide (k+1+((aF M.Cached.cnt x.Entries:Nat):Int)<0))=false:=dk q2.1
 refine ⟨⟨k,y1⟩,fun n pre post hl => ?_,fun n l i hi hl => ?_⟩
 ·have hl':=le_max hl
  have hp:pre.length<9223372036854775807:=by simp at hl';omega
  simp only [dM]
  rw [if_pos (aBt pre post x)]
  simp (maxSteps:=2000000) only [uW,uV,qA,bC hp,w0,a1]
  rw [hE]
 ·have hl':=le_max hl
  have hp:i<9223372036854775807:=by have:=(List.getElem?_eq_some_iff.1 hi).1;omega
  simp only [eM]
  rw [if_pos (aD1 hi)]
  simp (maxSteps:=2000000) only [aBv hi,qA,bC hp,w0,b1,d1,bne_self_eq_false,beq_self_eq_true,qB,qD,if_false]
  rw [hE]
theorem M.aGB.iD (xs:List M.Cache) (hx:(xs.length≤maxLen ∧ ∀y∈xs,M.Cache.ok y)) (k:Int) (h0:0≤k) (hB:k+((aF M.Cache.cnt xs:Nat):Int)≤KB) : ∃ys,uS xs k=some (ys,k+((aF M.Cache.cnt xs:Nat):Int))∧tC ys k=some (k+((aF M.Cache.cnt xs:Nat):Int))∧ys.length=xs.length:=by
 have hm:=le_max hx.1
 obtain ⟨ys,h1,h2,h3⟩:=mH (ML:=dM) (HL:=eM) (c:=M.Cache.cnt) (ok:=M.Cache.ok) (fun x hx k h0 hB=>M.Cache.sO x hx k h0 hB) (fun n k l=>by simp only [dM];rw [if_neg (by rw [aO];simp)]) (fun n k l=>by simp only [eM];rw [if_neg (by rw [aO];simp)]) xs [] fuel k (by simpa using hx.1) (by unfold fuel;omega) hx.2 h0 hB
 refine ⟨ys,by unfold uS;simpa using h2,by unfold tC;simpa using h3 fuel (by unfold fuel;omega),h1⟩
def M.Field.cnt (x:M.Field):Nat:=2
set_option maxHeartbeats 4000000 in
theorem M.Field.sO (x:M.Field) (hx:M.Field.ok x) (k:Int) (h0:0≤k) (hB:k+((M.Field.cnt x:Nat):Int)≤KB) : ∃x':M.Field,(∀n (pre post:List M.Field),(pre++x::post).length≤maxLen→dI (n+1) k pre.length (pre++x::post)=dI n (k+((M.Field.cnt x:Nat):Int)) ((pre.length+1:Nat):Int) (pre++x'::post)) ∧ ∀n (l:List M.Field) (i:Nat),l[i]? = some x'→l.length≤maxLen→eP l (n+1) k i=eP l n (k+((M.Field.cnt x:Nat):Int)) ((i+1:Nat):Int):=by
 unfold KB at hB;unfold M.Field.cnt at hB ⊢
 have A:(0≤k∧k≤KB)∧(0≤k+1∧k+1≤KB)∧(0≤k+1+1∧k+1+1≤KB):=by
  unfold KB
  refine ⟨?_,?_,?_⟩<;>omega
 have hE:k+1+1=k+((M.Field.cnt x:Nat):Int):=by unfold M.Field.cnt;omega
 unfold M.Field.cnt at hE
 obtain ⟨q0,q1,q2⟩:=A
 have t0:aH (k)=some (mtx (k)):=mt q0.1 (Int.lt_of_add_one_le q1.2)
 have w0:=wk2 q0
 have w1:=wk2 q1
 refine ⟨⟨(mtx (k)),k+1⟩,fun n pre post hl => ?_,fun n l i hi hl => ?_⟩
 ·have hl':=le_max hl
  have hp:pre.length<9223372036854775807:=by simp at hl';omega
  simp only [dI]
  rw [if_pos (aBt pre post x)]
  simp (maxSteps:=2000000) only [uW,uV,qA,bC hp,t0,w0,w1]
  rw [hE]
 ·have hl':=le_max hl
  have hp:i<9223372036854775807:=by have:=(List.getElem?_eq_some_iff.1 hi).1;omega
  simp only [eP]
  rw [if_pos (aD1 hi)]
  simp (maxSteps:=2000000) only [aBv hi,qA,bC hp,t0,w0,w1,bne_self_eq_false,beq_self_eq_true,qB,qD,if_false]
  rw [hE]
theorem M.aGh.iD (xs:List M.Field) (hx:(xs.length≤maxLen ∧ ∀y∈xs,M.Field.ok y)) (k:Int) (h0:0≤k) (hB:k+((aF M.Field.cnt xs:Nat):Int)≤KB) : ∃ys,uJ xs k=some (ys,k+((aF M.Field.cnt xs:Nat):Int))∧tP ys k=some (k+((aF M.Field.cnt xs:Nat):Int))∧ys.length=xs.length:=by
 have hm:=le_max hx.1
 obtain ⟨ys,h1,h2,h3⟩:=mH (ML:=dI) (HL:=eP) (c:=M.Field.cnt) (ok:=M.Field.ok) (fun x hx k h0 hB=>M.Field.sO x hx k h0 hB) (fun n k l=>by simp only [dI];rw [if_neg (by rw [aO];simp)]) (fun n k l=>by simp only [eP];rw [if_neg (by rw [aO];simp)]) xs [] fuel k (by simpa using hx.1) (by unfold fuel;omega) hx.2 h0 hB
 refine ⟨ys,by unfold uJ;simpa using h2,by unfold tP;simpa using h3 fuel (by unfold fuel;omega),h1⟩
def M.Item.cnt (x:M.Item):Nat:=3+(aF M.Field.cnt x.aU.Fields)
set_option maxHeartbeats 4000000 in
theorem M.Item.sO (x:M.Item) (hx:M.Item.ok x) (k:Int) (h0:0≤k) (hB:k+((M.Item.cnt x:Nat):Int)≤KB) : ∃x':M.Item,(∀n (pre post:List M.Item),(pre++x::post).length≤maxLen→eC (n+1) k pre.length (pre++x::post)=eC n (k+((M.Item.cnt x:Nat):Int)) ((pre.length+1:Nat):Int) (pre++x'::post)) ∧ ∀n (l:List M.Item) (i:Nat),l[i]? = some x'→l.length≤maxLen→fR l (n+1) k i=fR l n (k+((M.Item.cnt x:Nat):Int)) ((i+1:Nat):Int):=by
 unfold KB at hB;unfold M.Item.cnt at hB ⊢
 have A:(0≤k∧k≤KB)∧(0≤k+1∧k+1≤KB)∧(0≤k+1+1∧k+1+1≤KB)∧(0≤k+1+1+1∧k+1+1+1≤KB)∧(0≤k+1+1+1+((aF M.Field.cnt x.aU.Fields:Nat):Int)∧k+1+1+1+((aF M.Field.cnt x.aU.Fields:Nat):Int)≤KB):=by
  unfold KB
  refine ⟨?_,?_,?_,?_,?_⟩<;>omega
 have hE:k+1+1+1+((aF M.Field.cnt x.aU.Fields:Nat):Int)=k+((M.Item.cnt x:Nat):Int):=by unfold M.Item.cnt;omega
 unfold M.Item.cnt at hE
 obtain ⟨q0,q1,q2,q3,q4⟩:=A
 have w0:=wk2 q0
 have w1:=wk2 q1
 have t2:aH (k+1+1)=some (mtx (k+1+1)):=mt q2.1 (Int.lt_of_add_one_le q3.2)
 have w2:=wk2 q2
 obtain ⟨y1,a1,b1,_⟩:=M.aGh.iD _ hx.aU.Fields (k+1+1+1) q3.1 q4.2
 have d1:(decide (k+1+1+1+((aF M.Field.cnt x.aU.Fields:Nat):Int)<0))=false:=dk q4.1
 refine ⟨⟨⟨k,k+1,(mtx (k+1+1))⟩,⟨y1⟩⟩,fun n pre post hl => ?_,fun n l i hi hl => ?_⟩
 ·have hl':=le_max hl
  have hp:pre.length<9223372036854775807:=by simp at hl';omega
  simp only [eC]
  rw [if_pos (aBt pre post x)]
  simp (maxSteps:=2000000) only [uW,uV,qA,bC hp,w0,w1,t2,w2,a1]
  rw [hE]
 ·have hl':=le_max hl
  have hp:i<9223372036854775807:=by have:=(List.getElem?_eq_some_iff.1 hi).1;omega
  simp only [fR]
  rw [if_pos (aD1 hi)]
  simp (maxSteps:=2000000) only [aBv hi,qA,bC hp,w0,w1,t2,w2,b1,d1,bne_self_eq_false,beq_self_eq_true,qB,qD,if_false]
  rw [hE]
theorem M.aG1.iD (xs:List M.Item) (hx:(xs.length≤maxLen ∧ ∀y∈xs,M.Item.ok y)) (k:Int) (h0:0≤k) (hB:k+((aF M.Item.cnt xs:Nat):Int)≤KB) : ∃ys,mJ xs k=some (ys,k+((aF M.Item.cnt xs:Nat):Int))∧mK ys k=some (k+((aF M.Item.cnt xs:Nat):Int))∧ys.length=xs.length:=by
 have hm:=le_max hx.1
 obtain ⟨ys,h1,h2,h3⟩:=mH (ML:=eC) (HL:=fR) (c:=M.Item.cnt) (ok:=M.Item.ok) (fun x hx k h0 hB=>M.Item.sO x hx k h0 hB) (fun n k l=>by simp only [eC];rw [if_neg (by rw [aO];simp)]) (fun n k l=>by simp only [fR];rw [if_neg (by rw [aO];simp)]) xs [] fuel k (by simpa using hx.1) (by unfold fuel;omega) hx.2 h0 hB
 refine ⟨ys,by unfold mJ;simpa using h2,by unfold mK;simpa using h3 fuel (by unfold fuel;omega),h1⟩
def M.aJ.cnt (x:M.aJ):Nat:=2+(aF M.Item.cnt x.Items)
set_option maxHeartbeats 4000000 in
theorem M.aJ.sO (x:M.aJ) (hx:M.aJ.ok x) (k:Int) (h0:0≤k) (hB:k+((M.aJ.cnt x:Nat):Int)≤KB) : ∃x':M.aJ,(∀n (pre post:List M.aJ),(pre++x::post).length≤maxLen→dL (n+1) k pre.length (pre++x::post)=dL n (k+((M.aJ.cnt x:Nat):Int)) ((pre.length+1:Nat):Int) (pre++x'::post)) ∧ ∀n (l:List M.aJ) (i:Nat),l[i]? = some x'→l.length≤maxLen→eN l (n+1) k i=eN l n (k+((M.aJ.cnt x:Nat):Int)) ((i+1:Nat):Int):=by
 unfold KB at hB;unfold M.aJ.cnt at hB ⊢
 have A:(0≤k∧k≤KB)∧(0≤k+1∧k+1≤KB)∧(0≤k+1+((aF M.Item.cnt x.Items:Nat):Int)∧k+1+((aF M.Item.cnt x.Items:Nat):Int)≤KB)∧(0≤k+1+((aF M.Item.cnt x.Items:Nat):Int)+1∧k+1+((aF M.Item.cnt x.Items:Nat):Int)+1≤KB):=by
  unfold KB
  refine ⟨?_,?_,?_,?_⟩<;>omega
 have hE:k+1+((aF M.Item.cnt x.Items:Nat):Int)+1=k+((M.aJ.cnt x:Nat):Int):=by unfold M.aJ.cnt;omega
 unfold M.aJ.cnt at hE
 obtain ⟨q0,q1,q2,q3⟩:=A
 have t0:aH (k)=some (mtx (k)):=mt q0.1 (Int.lt_of_add_one_le q1.2)
 have w0:=wk2 q0
 obtain ⟨y1,a1,b1,_⟩:=M.aG1.iD _ hx.Items (k+1) q1.1 q2.2
 have d1:(decide (k+1+((aF M.Item.cnt x.Items:Nat):Int)<0))=false:=dk q2.1
 have w2:=wk2 q2
 refine ⟨⟨(mtx (k)),y1,k+1+((aF M.Item.cnt x.Items:Nat):Int)⟩,fun n pre post hl => ?_,fun n l i hi hl => ?_⟩
 ·have hl':=le_max hl
  have hp:pre.length<9223372036854775807:=by simp at hl';omega
  simp only [dL]
  rw [if_pos (aBt pre post x)]
  simp (maxSteps:=2000000) only [uW,uV,qA,bC hp,t0,w0,a1,w2]
  rw [hE]
 ·have hl':=le_max hl
  have hp:i<9223372036854775807:=by have:=(List.getElem?_eq_some_iff.1 hi).1;omega
  simp only [eN]
  rw [if_pos (aD1 hi)]
  simp (maxSteps:=2000000) only [aBv hi,qA,bC hp,t0,w0,b1,d1,w2,bne_self_eq_false,beq_self_eq_true,qB,qD,if_false]
  rw [hE]
theorem M.aF0.iD (xs:List M.aJ) (hx:(xs.length≤maxLen ∧ ∀y∈xs,M.aJ.ok y)) (k:Int) (h0:0≤k) (hB:k+((aF M.aJ.cnt xs:Nat):Int)≤KB) : ∃ys,tL xs k=some (ys,k+((aF M.aJ.cnt xs:Nat):Int))∧sW ys k=some (k+((aF M.aJ.cnt xs:Nat):Int))∧ys.length=xs.length:=by
 have hm:=le_max hx.1
 obtain ⟨ys,h1,h2,h3⟩:=mH (ML:=dL) (HL:=eN) (c:=M.aJ.cnt) (ok:=M.aJ.ok) (fun x hx k h0 hB=>M.aJ.sO x hx k h0 hB) (fun n k l=>by simp only [dL];rw [if_neg (by rw [aO];simp)]) (fun n k l=>by simp only [eN];rw [if_neg (by rw [aO];simp)]) xs [] fuel k (by simpa using hx.1) (by unfold fuel;omega) hx.2 h0 hB
 refine ⟨ys,by unfold tL;simpa using h2,by unfold sW;simpa using h3 fuel (by unfold fuel;omega),h1⟩
def M.aD.cnt (x:M.aD):Nat:=2
set_option maxHeartbeats 4000000 in
theorem M.aD.sO (x:M.aD) (hx:M.aD.ok x) (k:Int) (h0:0≤k) (hB:k+((M.aD.cnt x:Nat):Int)≤KB) : ∃x':M.aD,(∀n (pre post:List M.aD),(pre++x::post).length≤maxLen→cD (n+1) k pre.length (pre++x::post)=cD n (k+((M.aD.cnt x:Nat):Int)) ((pre.length+1:Nat):Int) (pre++x'::post)) ∧ ∀n (l:List M.aD) (i:Nat),l[i]? = some x'→l.length≤maxLen→cO l (n+1) k i=cO l n (k+((M.aD.cnt x:Nat):Int)) ((i+1:Nat):Int):=by
 unfold KB at hB;unfold M.aD.cnt at hB ⊢
 have A:(0≤k∧k≤KB)∧(0≤k+1∧k+1≤KB)∧(0≤k+1+1∧k+1+1≤KB):=by
  unfold KB
  refine ⟨?_,?_,?_⟩<;>omega
 have hE:k+1+1=k+((M.aD.cnt x:Nat):Int):=by unfold M.aD.cnt;omega
 unfold M.aD.cnt at hE
 obtain ⟨q0,q1,q2⟩:=A
 have t0:aH (k)=some (mtx (k)):=mt q0.1 (Int.lt_of_add_one_le q1.2)
 have w0:=wk2 q0
 have t1:aH (k+1)=some (mtx (k+1)):=mt q1.1 (Int.lt_of_add_one_le q2.2)
 have w1:=wk2 q1
 refine ⟨⟨(mtx (k)),(mtx (k+1))⟩,fun n pre post hl => ?_,fun n l i hi hl => ?_⟩
 ·have hl':=le_max hl
  have hp:pre.length<9223372036854775807:=by simp at hl';omega
  simp only [cD]
  rw [if_pos (aBt pre post x)]
  simp (maxSteps:=2000000) only [uW,uV,qA,bC hp,t0,w0,t1,w1]
  rw [hE]
 ·have hl':=le_max hl
  have hp:i<9223372036854775807:=by have:=(List.getElem?_eq_some_iff.1 hi).1;omega
  simp only [cO]
  rw [if_pos (aD1 hi)]
  simp (maxSteps:=2000000) only [aBv hi,qA,bC hp,t0,w0,t1,w1,bne_self_eq_false,beq_self_eq_true,qB,qD,if_false]
  rw [hE]
theorem M.aCQ.iD (xs:List M.aD) (hx:(xs.length≤maxLen ∧ ∀y∈xs,M.aD.ok y)) (k:Int) (h0:0≤k) (hB:k+((aF M.aD.cnt xs:Nat):Int)≤KB) : ∃ys,mV xs k=some (ys,k+((aF M.aD.cnt xs:Nat):Int))∧mU ys k=some (k+((aF M.aD.cnt xs:Nat):Int))∧ys.length=xs.length:=by
 have hm:=le_max hx.1
 obtain ⟨ys,h1,h2,h3⟩:=mH (ML:=cD) (HL:=cO) (c:=M.aD.cnt) (ok:=M.aD.ok) (fun x hx k h0 hB=>M.aD.sO x hx k h0 hB) (fun n k l=>by simp only [cD];rw [if_neg (by rw [aO];simp)]) (fun n k l=>by simp only [cO];rw [if_neg (by rw [aO];simp)]) xs [] fuel k (by simpa using hx.1) (by unfold fuel;omega) hx.2 h0 hB
 refine ⟨ys,by unfold mV;simpa using h2,by unfold mU;simpa using h3 fuel (by unfold fuel;omega),h1⟩
def M.aW.cnt (x:M.aW):Nat:=7
set_option maxHeartbeats 4000000 in
theorem M.aW.sO (x:M.aW) (hx:M.aW.ok x) (k:Int) (h0:0≤k) (hB:k+((M.aW.cnt x:Nat):Int)≤KB) : ∃x':M.aW,(∀n (pre post:List M.aW),(pre++x::post).length≤maxLen→dK (n+1) k pre.length (pre++x::post)=dK n (k+((M.aW.cnt x:Nat):Int)) ((pre.length+1:Nat):Int) (pre++x'::post)) ∧ ∀n (l:List M.aW) (i:Nat),l[i]? = some x'→l.length≤maxLen→eK l (n+1) k i=eK l n (k+((M.aW.cnt x:Nat):Int)) ((i+1:Nat):Int):=by
 unfold KB at hB;unfold M.aW.cnt at hB ⊢
 have A:(0≤k∧k≤KB)∧(0≤k+1∧k+1≤KB)∧(0≤k+1+1∧k+1+1≤KB)∧(0≤k+1+1+1∧k+1+1+1≤KB)∧(0≤k+1+1+1+1∧k+1+1+1+1≤KB)∧(0≤k+1+1+1+1+1∧k+1+1+1+1+1≤KB)∧(0≤k+1+1+1+1+1+1∧k+1+1+1+1+1+1≤KB)∧(0≤k+1+1+1+1+1+1+1∧k+1+1+1+1+1+1+1≤KB):=by
  unfold KB
  refine ⟨?_,?_,?_,?_,?_,?_,?_,?_⟩<;>omega
 have hE:k+1+1+1+1+1+1+1=k+((M.aW.cnt x:Nat):Int):=by unfold M.aW.cnt;omega
 unfold M.aW.cnt at hE
 obtain ⟨q0,q1,q2,q3,q4,q5,q6,q7⟩:=A
 have w0:=wk2 q0
 have w1:=wk2 q1
 have w2:=wk2 q2
 have w3:=wk2 q3
 have t4:aH (k+1+1+1+1)=some (mtx (k+1+1+1+1)):=mt q4.1 (Int.lt_of_add_one_le q5.2)
 have w4:=wk2 q4
 have t5:aH (k+1+1+1+1+1)=some (mtx (k+1+1+1+1+1)):=mt q5.1 (Int.lt_of_add_one_le q6.2)
 have w5:=wk2 q5
 have w6:=wk2 q6
 refine ⟨⟨k,k+1,⟨k+1+1,k+1+1+1,(mtx (k+1+1+1+1))⟩,(mtx (k+1+1+1+1+1)),k+1+1+1+1+1+1⟩,fun n pre post hl => ?_,fun n l i hi hl => ?_⟩
 ·have hl':=le_max hl
  have hp:pre.length<9223372036854775807:=by simp at hl';omega
  simp only [dK]
  rw [if_pos (aBt pre post x)]
  simp (maxSteps:=2000000) only [uW,uV,qA,bC hp,w0,w1,w2,w3,t4,w4,t5,w5,w6]
  rw [hE]
 ·have hl':=le_max hl
  have hp:i<9223372036854775807:=by have:=(List.getElem?_eq_some_iff.1 hi).1;omega
  simp only [eK]
  rw [if_pos (aD1 hi)]
  simp (maxSteps:=2000000) only [aBv hi,qA,bC hp,w0,w1,w2,w3,t4,w4,t5,w5,w6,bne_self_eq_false,beq_self_eq_true,qB,qD,if_false]
  rw [hE]
theorem M.aDN.iD (xs:List M.aW) (hx:(xs.length≤maxLen ∧ ∀y∈xs,M.aW.ok y)) (k:Int) (h0:0≤k) (hB:k+((aF M.aW.cnt xs:Nat):Int)≤KB) : ∃ys,nM xs k=some (ys,k+((aF M.aW.cnt xs:Nat):Int))∧nQ ys k=some (k+((aF M.aW.cnt xs:Nat):Int))∧ys.length=xs.length:=by
 have hm:=le_max hx.1
 obtain ⟨ys,h1,h2,h3⟩:=mH (ML:=dK) (HL:=eK) (c:=M.aW.cnt) (ok:=M.aW.ok) (fun x hx k h0 hB=>M.aW.sO x hx k h0 hB) (fun n k l=>by simp only [dK];rw [if_neg (by rw [aO];simp)]) (fun n k l=>by simp only [eK];rw [if_neg (by rw [aO];simp)]) xs [] fuel k (by simpa using hx.1) (by unfold fuel;omega) hx.2 h0 hB
 refine ⟨ys,by unfold nM;simpa using h2,by unfold nQ;simpa using h3 fuel (by unfold fuel;omega),h1⟩
def M.Bucket.cnt (x:M.Bucket):Nat:=18+(aF M.Cache.cnt x.Caches.Caches)+(aF M.aJ.cnt x.bB.Base.Stores)+(aF M.aD.cnt x.bB.Base.Unique)+(x.bB.Log.length)+(aF M.Item.cnt x.aE.Base.Items)+(aF M.aW.cnt x.aE.Sync.aV.Writes)
set_option maxHeartbeats 4000000 in
theorem M.Bucket.sO (x:M.Bucket) (hx:M.Bucket.ok x) (k:Int) (h0:0≤k) (hB:k+((M.Bucket.cnt x:Nat):Int)≤KB) : ∃x':M.Bucket,(∀n (pre post:List M.Bucket),(pre++x::post).length≤maxLen→cY (n+1) k pre.length (pre++x::post)=cY n (k+((M.Bucket.cnt x:Nat):Int)) ((pre.length+1:Nat):Int) (pre++x'::post)) ∧ ∀n (l:List M.Bucket) (i:Nat),l[i]? = some x'→l.length≤maxLen→cW l (n+1) k i=cW l n (k+((M.Bucket.cnt x:Nat):Int)) ((i+1:Nat):Int):=by
 unfold KB at hB;unfold M.Bucket.cnt at hB ⊢
 have A:(0≤k∧k≤KB)∧(0≤k+1∧k+1≤KB)∧(0≤k+1+1∧k+1+1≤KB)∧(0≤k+1+1+1∧k+1+1+1≤KB)∧(0≤k+1+1+1+1∧k+1+1+1+1≤KB)∧(0≤k+1+1+1+1+1∧k+1+1+1+1+1≤KB)∧(0≤k+1+1+1+1+1+1∧k+1+1+1+1+1+1≤KB)∧(0≤k+1+1+1+1+1+1+((aF M.Cache.cnt x.Caches.Caches:Nat):Int)∧k+1+1+1+1+1+1+((aF M.Cache.cnt x.Caches.Caches:Nat):Int)≤KB)∧(0≤k+1+1+1+1+1+1+((aF M.Cache.cnt x.Caches.Caches:Nat):Int)+1∧k+1+1+1+1+1+1+((aF M.Cache.cnt x.Caches.Caches:Nat):Int)+1≤KB)∧(0≤k+1+1+1+1+1+1+((aF M.Cache.cnt x.Caches.Caches:Nat):Int)+1+1∧k+1+1+1+1+1+1+((aF M.Cache.cnt x.Caches.Caches:Nat):Int)+1+1≤KB)∧(0≤k+1+1+1+1+1+1+((aF M.Cache.cnt x.Caches.Caches:Nat):Int)+1+1+((aF M.aJ.cnt x.bB.Base.Stores:Nat):Int)∧k+1+1+1+1+1+1+((aF M.Cache.cnt x.Caches.Caches:Nat):Int)+1+1+((aF M.aJ.cnt x.bB.Base.Stores:Nat):Int)≤KB)∧(0≤k+1+1+1+1+1+1+((aF M.Cache.cnt x.Caches.Caches:Nat):Int)+1+1+((aF M.aJ.cnt x.bB.Base.Stores:Nat):Int)+((aF M.aD.cnt x.bB.Base.Unique:Nat):Int)∧k+1+1+1+1+1+1+((aF M.Cache.cnt x.Caches.Caches:Nat):Int)+1+1+((aF M.aJ.cnt x.bB.Base.Stores:Nat):Int)+((aF M.aD.cnt x.bB.Base.Unique:Nat):Int)≤KB)∧(0≤k+1+1+1+1+1+1+((aF M.Cache.cnt x.Caches.Caches:Nat):Int)+1+1+((aF M.aJ.cnt x.bB.Base.Stores:Nat):Int)+((aF M.aD.cnt x.bB.Base.Unique:Nat):Int)+((x.bB.Log.length:Nat):Int)∧k+1+1+1+1+1+1+((aF M.Cache.cnt x.Caches.Caches:Nat):Int)+1+1+((aF M.aJ.cnt x.bB.Base.Stores:Nat):Int)+((aF M.aD.cnt x.bB.Base.Unique:Nat):Int)+((x.bB.Log.length:Nat):Int)≤KB)∧(0≤k+1+1+1+1+1+1+((aF M.Cache.cnt x.Caches.Caches:Nat):Int)+1+1+((aF M.aJ.cnt x.bB.Base.Stores:Nat):Int)+((aF M.aD.cnt x.bB.Base.Unique:Nat):Int)+((x.bB.Log.length:Nat):Int)+1∧k+1+1+1+1+1+1+((aF M.Cache.cnt x.Caches.Caches:Nat):Int)+1+1+((aF M.aJ.cnt x.bB.Base.Stores:Nat):Int)+((aF M.aD.cnt x.bB.Base.Unique:Nat):Int)+((x.bB.Log.length:Nat):Int)+1≤KB)∧(0≤k+1+1+1+1+1+1+((aF M.Cache.cnt x.Caches.Caches:Nat):Int)+1+1+((aF M.aJ.cnt x.bB.Base.Stores:Nat):Int)+((aF M.aD.cnt x.bB.Base.Unique:Nat):Int)+((x.bB.Log.length:Nat):Int)+1+1∧k+1+1+1+1+1+1+((aF M.Cache.cnt x.Caches.Caches:Nat):Int)+1+1+((aF M.aJ.cnt x.bB.Base.Stores:Nat):Int)+((aF M.aD.cnt x.bB.Base.Unique:Nat):Int)+((x.bB.Log.length:Nat):Int)+1+1≤KB)∧(0≤k+1+1+1+1+1+1+((aF M.Cache.cnt x.Caches.Caches:Nat):Int)+1+1+((aF M.aJ.cnt x.bB.Base.Stores:Nat):Int)+((aF M.aD.cnt x.bB.Base.Unique:Nat):Int)+((x.bB.Log.length:Nat):Int)+1+1+((aF M.Item.cnt x.aE.Base.Items:Nat):Int)∧k+1+1+1+1+1+1+((aF M.Cache.cnt x.Caches.Caches:Nat):Int)+1+1+((aF M.aJ.cnt x.bB.Base.Stores:Nat):Int)+((aF M.aD.cnt x.bB.Base.Unique:Nat):Int)+((x.bB.Log.length:Nat):Int)+1+1+((aF M.Item.cnt x.aE.Base.Items:Nat):Int)≤KB)∧(0≤k+1+1+1+1+1+1+((aF M.Cache.cnt x.Caches.Caches:Nat):Int)+1+1+((aF M.aJ.cnt x.bB.Base.Stores:Nat):Int)+((aF M.aD.cnt x.bB.Base.Unique:Nat):Int)+((x.bB.Log.length:Nat):Int)+1+1+((aF M.Item.cnt x.aE.Base.Items:Nat):Int)+1∧k+1+1+1+1+1+1+((aF M.Cache.cnt x.Caches.Caches:Nat):Int)+1+1+((aF M.aJ.cnt x.bB.Base.Stores:Nat):Int)+((aF M.aD.cnt x.bB.Base.Unique:Nat):Int)+((x.bB.Log.length:Nat):Int)+1+1+((aF M.Item.cnt x.aE.Base.Items:Nat):Int)+1≤KB)∧(0≤k+1+1+1+1+1+1+((aF M.Cache.cnt x.Caches.Caches:Nat):Int)+1+1+((aF M.aJ.cnt x.bB.Base.Stores:Nat):Int)+((aF M.aD.cnt x.bB.Base.Unique:Nat):Int)+((x.bB.Log.length:Nat):Int)+1+1+((aF M.Item.cnt x.aE.Base.Items:Nat):Int)+1+1∧k+1+1+1+1+1+1+((aF M.Cache.cnt x.Caches.Caches:Nat):Int)+1+1+((aF M.aJ.cnt x.bB.Base.Stores:Nat):Int)+((aF M.aD.cnt x.bB.Base.Unique:Nat):Int)+((x.bB.Log.length:Nat):Int)+1+1+((aF M.Item.cnt x.aE.Base.Items:Nat):Int)+1+1≤KB)∧(0≤k+1+1+1+1+1+1+((aF M.Cache.cnt x.Caches.Caches:Nat):Int)+1+1+((aF M.aJ.cnt x.bB.Base.Stores:Nat):Int)+((aF M.aD.cnt x.bB.Base.Unique:Nat):Int)+((x.bB.Log.length:Nat):Int)+1+1+((aF M.Item.cnt x.aE.Base.Items:Nat):Int)+1+1+1∧k+1+1+1+1+1+1+((aF M.Cache.cnt x.Caches.Caches:Nat):Int)+1+1+((aF M.aJ.cnt x.bB.Base.Stores:Nat):Int)+((aF M.aD.cnt x.bB.Base.Unique:Nat):Int)+((x.bB.Log.length:Nat):Int)+1+1+((aF M.Item.cnt x.aE.Base.Items:Nat):Int)+1+1+1≤KB)∧(0≤k+1+1+1+1+1+1+((aF M.Cache.cnt x.Caches.Caches:Nat):Int)+1+1+((aF M.aJ.cnt x.bB.Base.Stores:Nat):Int)+((aF M.aD.cnt x.bB.Base.Unique:Nat):Int)+((x.bB.Log.length:Nat):Int)+1+1+((aF M.Item.cnt x.aE.Base.Items:Nat):Int)+1+1+1+1∧k+1+1+1+1+1+1+((aF M.Cache.cnt x.Caches.Caches:Nat):Int)+1+1+((aF M.aJ.cnt x.bB.Base.Stores:Nat):Int)+((aF M.aD.cnt x.bB.Base.Unique:Nat):Int)+((x.bB.Log.length:Nat):Int)+1+1+((aF M.Item.cnt x.aE.Base.Items:Nat):Int)+1+1+1+1≤KB)∧(0≤k+1+1+1+1+1+1+((aF M.Cache.cnt x.Caches.Caches:Nat):Int)+1+1+((aF M.aJ.cnt x.bB.Base.Stores:Nat):Int)+((aF M.aD.cnt x.bB.Base.Unique:Nat):Int)+((x.bB.Log.length:Nat):Int)+1+1+((aF M.Item.cnt x.aE.Base.Items:Nat):Int)+1+1+1+1+((aF M.aW.cnt x.aE.Sync.aV.Writes:Nat):Int)∧k+1+1+1+1+1+1+((aF M.Cache.cnt x.Caches.Caches:Nat):Int)+1+1+((aF M.aJ.cnt x.bB.Base.Stores:Nat):Int)+((aF M.aD.cnt x.bB.Base.Unique:Nat):Int)+((x.bB.Log.length:Nat):Int)+1+1+((aF M.Item.cnt x.aE.Base.Items:Nat):Int)+1+1+1+1+((aF M.aW.cnt x.aE.Sync.aV.Writes:Nat):Int)≤KB)∧(0≤k+1+1+1+1+1+1+((aF M.Cache.cnt x.Caches.Caches:Nat):Int)+1+1+((aF M.aJ.cnt x.bB.Base.Stores:Nat):Int)+((aF M.aD.cnt x.bB.Base.Unique:Nat):Int)+((x.bB.Log.length:Nat):Int)+1+1+((aF M.Item.cnt x.aE.Base.Items:Nat):Int)+1+1+1+1+((aF M.aW.cnt x.aE.Sync.aV.Writes:Nat):Int)+1∧k+1+1+1+1+1+1+((aF M.Cache.cnt x.Caches.Caches:Nat):Int)+1+1+((aF M.aJ.cnt x.bB.Base.Stores:Nat):Int)+((aF M.aD.cnt x.bB.Base.Unique:Nat):Int)+((x.bB.Log.length:Nat):Int)+1+1+((aF M.Item.cnt x.aE.Base.Items:Nat):Int)+1+1+1+1+((aF M.aW.cnt x.aE.Sync.aV.Writes:Nat):Int)+1≤KB)∧(0≤k+1+1+1+1+1+1+((aF M.Cache.cnt x.Caches.Caches:Nat):Int)+1+1+((aF M.aJ.cnt x.bB.Base.Stores:Nat):Int)+((aF M.aD.cnt x.bB.Base.Unique:Nat):Int)+((x.bB.Log.length:Nat):Int)+1+1+((aF M.Item.cnt x.aE.Base.Items:Nat):Int)+1+1+1+1+((aF M.aW.cnt x.aE.Sync.aV.Writes:Nat):Int)+1+1∧k+1+1+1+1+1+1+((aF M.Cache.cnt x.Caches.Caches:Nat):Int)+1+1+((aF M.aJ.cnt x.bB.Base.Stores:Nat):Int)+((aF M.aD.cnt x.bB.Base.Unique:Nat):Int)+((x.bB.Log.length:Nat):Int)+1+1+((aF M.Item.cnt x.aE.Base.Items:Nat):Int)+1+1+1+1+((aF M.aW.cnt x.aE.Sync.aV.Writes:Nat):Int)+1+1≤KB)∧(0≤k+1+1+1+1+1+1+((aF M.Cache.cnt x.Caches.Caches:Nat):Int)+1+1+((aF M.aJ.cnt x.bB.Base.Stores:Nat):Int)+((aF M.aD.cnt x.bB.Base.Unique:Nat):Int)+((x.bB.Log.length:Nat):Int)+1+1+((aF M.Item.cnt x.aE.Base.Items:Nat):Int)+1+1+1+1+((aF M.aW.cnt x.aE.Sync.aV.Writes:Nat):Int)+1+1+1∧k+1+1+1+1+1+1+((aF M.Cache.cnt x.Caches.Caches:Nat):Int)+1+1+((aF M.aJ.cnt x.bB.Base.Stores:Nat):Int)+((aF M.aD.cnt x.bB.Base.Unique:Nat):Int)+((x.bB.Log.length:Nat):Int)+1+1+((aF M.Item.cnt x.aE.Base.Items:Nat):Int)+1+1+1+1+((aF M.aW.cnt x.aE.Sync.aV.Writes:Nat):Int)+1+1+1≤KB)∧(0≤k+1+1+1+1+1+1+((aF M.Cache.cnt x.Caches.Caches:Nat):Int)+1+1+((aF M.aJ.cnt x.bB.Base.Stores:Nat):Int)+((aF M.aD.cnt x.bB.Base.Unique:Nat):Int)+((x.bB.Log.length:Nat):Int)+1+1+((aF M.Item.cnt x.aE.Base.Items:Nat):Int)+1+1+1+1+((aF M.aW.cnt x.aE.Sync.aV.Writes:Nat):Int)+1+1+1+1∧k+1+1+1+1+1+1+((aF M.Cache.cnt x.Caches.Caches:Nat):Int)+1+1+((aF M.aJ.cnt x.bB.Base.Stores:Nat):Int)+((aF M.aD.cnt x.bB.Base.Unique:Nat):Int)+((x.bB.Log.length:Nat):Int)+1+1+((aF M.Item.cnt x.aE.Base.Items:Nat):Int)+1+1+1+1+((aF M.aW.cnt x.aE.Sync.aV.Writes:Nat):Int)+1+1+1+1≤KB):=by
  unfold KB
  refine ⟨?_,?_,?_,?_,?_,?_,?_,?_,?_,?_,?_,?_,?_,?_,?_,?_,?_,?_,?_,?_,?_,?_,?_,?_,?_⟩<;>omega
 have hE:k+1+1+1+1+1+1+((aF M.Cache.cnt x.Caches.Caches:Nat):Int)+1+1+((aF M.aJ.cnt x.bB.Base.Stores:Nat):Int)+((aF M.aD.cnt x.bB.Base.Unique:Nat):Int)+((x.bB.Log.length:Nat):Int)+1+1+((aF M.Item.cnt x.aE.Base.Items:Nat):Int)+1+1+1+1+((aF M.aW.cnt x.aE.Sync.aV.Writes:Nat):Int)+1+1+1+1=k+((M.Bucket.cnt x:Nat):Int):=by unfold M.Bucket.cnt;omega
 unfold M.Bucket.cnt at hE
 obtain ⟨q0,q1,q2,q3,q4,q5,q6,q7,q8,q9,q10,q11,q12,q13,q14,q15,q16,q17,q18,q19,q20,q21,q22,q23,q24⟩:=A
 have t0:aH (k)=some (mtx (k)):=mt q0.1 (Int.lt_of_add_one_le q1.2)
 have w0:=wk2 q0
 have t1:aH (k+1)=some (mtx (k+1)):=mt q1.1 (Int.lt_of_add_one_le q2.2)
 have w1:=wk2 q1
 have t2:aH (k+1+1)=some (mtx (k+1+1)):=mt q2.1 (Int.lt_of_add_one_le q3.2)
 have w2:=wk2 q2
 have w3:=wk2 q3
 have w4:=wk2 q4
 have w5:=wk2 q5
 obtain ⟨y1,a1,b1,_⟩:=M.aGB.iD _ hx.Caches.Caches (k+1+1+1+1+1+1) q6.1 q7.2
 have d1:(decide (k+1+1+1+1+1+1+((aF M.Cache.cnt x.Caches.Caches:Nat):Int)<0))=false:=dk q7.1
 have t7:aH (k+1+1+1+1+1+1+((aF M.Cache.cnt x.Caches.Caches:Nat):Int))=some (mtx (k+1+1+1+1+1+1+((aF M.Cache.cnt x.Caches.Caches:Nat):Int))):=mt q7.1 (Int.lt_of_add_one_le q8.2)
 have w7:=wk2 q7
 have w8:=wk2 q8
 obtain ⟨y2,a2,b2,_⟩:=M.aF0.iD _ hx.bB.Base.Stores (k+1+1+1+1+1+1+((aF M.Cache.cnt x.Caches.Caches:Nat):Int)+1+1) q9.1 q10.2
 have d2:(decide (k+1+1+1+1+1+1+((aF M.Cache.cnt x.Caches.Caches:Nat):Int)+1+1+((aF M.aJ.cnt x.bB.Base.Stores:Nat):Int)<0))=false:=dk q10.1
 obtain ⟨y3,a3,b3,_⟩:=M.aCQ.iD _ hx.bB.Base.Unique (k+1+1+1+1+1+1+((aF M.Cache.cnt x.Caches.Caches:Nat):Int)+1+1+((aF M.aJ.cnt x.bB.Base.Stores:Nat):Int)) q10.1 q11.2
 have d3:(decide (k+1+1+1+1+1+1+((aF M.Cache.cnt x.Caches.Caches:Nat):Int)+1+1+((aF M.aJ.cnt x.bB.Base.Stores:Nat):Int)+((aF M.aD.cnt x.bB.Base.Unique:Nat):Int)<0))=false:=dk q11.1
 obtain ⟨y4,a4,b4,_⟩:=M.aD0.iD _ hx.bB.Log (k+1+1+1+1+1+1+((aF M.Cache.cnt x.Caches.Caches:Nat):Int)+1+1+((aF M.aJ.cnt x.bB.Base.Stores:Nat):Int)+((aF M.aD.cnt x.bB.Base.Unique:Nat):Int)) q11.1 q12.2
 have d4:(decide (k+1+1+1+1+1+1+((aF M.Cache.cnt x.Caches.Caches:Nat):Int)+1+1+((aF M.aJ.cnt x.bB.Base.Stores:Nat):Int)+((aF M.aD.cnt x.bB.Base.Unique:Nat):Int)+((x.bB.Log.length:Nat):Int)<0))=false:=dk q12.1
 have w12:=wk2 q12
 have t13:aH (k+1+1+1+1+1+1+((aF M.Cache.cnt x.Caches.Caches:Nat):Int)+1+1+((aF M.aJ.cnt x.bB.Base.Stores:Nat):Int)+((aF M.aD.cnt x.bB.Base.Unique:Nat):Int)+((x.bB.Log.length:Nat):Int)+1)=some (mtx (k+1+1+1+1+1+1+((aF M.Cache.cnt x.Caches.Caches:Nat):Int)+1+1+((aF M.aJ.cnt x.bB.Base.Stores:Nat):Int)+((aF M.aD.cnt x.bB.Base.Unique:Nat):Int)+((x.bB.Log.length:Nat):Int)+1)):=mt q13.1 (Int.lt_of_add_one_le q14.2)
 have w13:=wk2 q13
 obtain ⟨y5,a5,b5,_⟩:=M.aG1.iD _ hx.aE.Base.Items (k+1+1+1+1+1+1+((aF M.Cache.cnt x.Caches.Caches:Nat):Int)+1+1+((aF M.aJ.cnt x.bB.Base.Stores:Nat):Int)+((aF M.aD.cnt x.bB.Base.Unique:Nat):Int)+((x.bB.Log.length:Nat):Int)+1+1) q14.1 q15.2
 have d5:(decide (k+1+1+1+1+1+1+((aF M.Cache.cnt x.Caches.Caches:Nat):Int)+1+1+((aF M.aJ.cnt x.bB.Base.Stores:Nat):Int)+((aF M.aD.cnt x.bB.Base.Unique:Nat):Int)+((x.bB.Log.length:Nat):Int)+1+1+((aF M.Item.cnt x.aE.Base.Items:Nat):Int)<0))=false:=dk q15.1
 have w15:=wk2 q15
 have w16:=wk2 q16
 have w17:=wk2 q17
 have w18:=wk2 q18
 obtain ⟨y6,a6,b6,_⟩:=M.aDN.iD _ hx.aE.Sync.aV.Writes (k+1+1+1+1+1+1+((aF M.Cache.cnt x.Caches.Caches:Nat):Int)+1+1+((aF M.aJ.cnt x.bB.Base.Stores:Nat):Int)+((aF M.aD.cnt x.bB.Base.Unique:Nat):Int)+((x.bB.Log.length:Nat):Int)+1+1+((aF M.Item.cnt x.aE.Base.Items:Nat):Int)+1+1+1+1) q19.1 q20.2
 have d6:(decide (k+1+1+1+1+1+1+((aF M.Cache.cnt x.Caches.Caches:Nat):Int)+1+1+((aF M.aJ.cnt x.bB.Base.Stores:Nat):Int)+((aF M.aD.cnt x.bB.Base.Unique:Nat):Int)+((x.bB.Log.length:Nat):Int)+1+1+((aF M.Item.cnt x.aE.Base.Items:Nat):Int)+1+1+1+1+((aF M.aW.cnt x.aE.Sync.aV.Writes:Nat):Int)<0))=false:=dk q20.1
 have w20:=wk2 q20
 have w21:=wk2 q21
 have w22:=wk2 q22
 have w23:=wk2 q23
 refine ⟨⟨(mtx (k)),(mtx (k+1)),⟨(mtx (k+1+1)),k+1+1+1,k+1+1+1+1,k+1+1+1+1+1⟩,⟨y1⟩,⟨⟨(mtx (k+1+1+1+1+1+1+((aF M.Cache.cnt x.Caches.Caches:Nat):Int))),k+1+1+1+1+1+1+((aF M.Cache.cnt x.Caches.Caches:Nat):Int)+1,y2,y3⟩,y4,k+1+1+1+1+1+1+((aF M.Cache.cnt x.Caches.Caches:Nat):Int)+1+1+((aF M.aJ.cnt x.bB.Base.Stores:Nat):Int)+((aF M.aD.cnt x.bB.Base.Unique:Nat):Int)+((x.bB.Log.length:Nat):Int)⟩,⟨⟨(mtx (k+1+1+1+1+1+1+((aF M.Cache.cnt x.Caches.Caches:Nat):Int)+1+1+((aF M.aJ.cnt x.bB.Base.Stores:Nat):Int)+((aF M.aD.cnt x.bB.Base.Unique:Nat):Int)+((x.bB.Log.length:Nat):Int)+1)),y5,k+1+1+1+1+1+1+((aF M.Cache.cnt x.Caches.Caches:Nat):Int)+1+1+((aF M.aJ.cnt x.bB.Base.Stores:Nat):Int)+((aF M.aD.cnt x.bB.Base.Unique:Nat):Int)+((x.bB.Log.length:Nat):Int)+1+1+((aF M.Item.cnt x.aE.Base.Items:Nat):Int)⟩,k+1+1+1+1+1+1+((aF M.Cache.cnt x.Caches.Caches:Nat):Int)+1+1+((aF M.aJ.cnt x.bB.Base.Stores:Nat):Int)+((aF M.aD.cnt x.bB.Base.Unique:Nat):Int)+((x.bB.Log.length:Nat):Int)+1+1+((aF M.Item.cnt x.aE.Base.Items:Nat):Int)+1,⟨⟨k+1+1+1+1+1+1+((aF M.Cache.cnt x.Caches.Caches:Nat):Int)+1+1+((aF M.aJ.cnt x.bB.Base.Stores:Nat):Int)+((aF M.aD.cnt x.bB.Base.Unique:Nat):Int)+((x.bB.Log.length:Nat):Int)+1+1+((aF M.Item.cnt x.aE.Base.Items:Nat):Int)+1+1,k+1+1+1+1+1+1+((aF M.Cache.cnt x.Caches.Caches:Nat):Int)+1+1+((aF M.aJ.cnt x.bB.Base.Stores:Nat):Int)+((aF M.aD.cnt x.bB.Base.Unique:Nat):Int)+((x.bB.Log.length:Nat):Int)+1+1+((aF M.Item.cnt x.aE.Base.Items:Nat):Int)+1+1+1,y6⟩,k+1+1+1+1+1+1+((aF M.Cache.cnt x.Caches.Caches:Nat):Int)+1+1+((aF M.aJ.cnt x.bB.Base.Stores:Nat):Int)+((aF M.aD.cnt x.bB.Base.Unique:Nat):Int)+((x.bB.Log.length:Nat):Int)+1+1+((aF M.Item.cnt x.aE.Base.Items:Nat):Int)+1+1+1+1+((aF M.aW.cnt x.aE.Sync.aV.Writes:Nat):Int),k+1+1+1+1+1+1+((aF M.Cache.cnt x.Caches.Caches:Nat):Int)+1+1+((aF M.aJ.cnt x.bB.Base.Stores:Nat):Int)+((aF M.aD.cnt x.bB.Base.Unique:Nat):Int)+((x.bB.Log.length:Nat):Int)+1+1+((aF M.Item.cnt x.aE.Base.Items:Nat):Int)+1+1+1+1+((aF M.aW.cnt x.aE.Sync.aV.Writes:Nat):Int)+1⟩⟩,k+1+1+1+1+1+1+((aF M.Cache.cnt x.Caches.Caches:Nat):Int)+1+1+((aF M.aJ.cnt x.bB.Base.Stores:Nat):Int)+((aF M.aD.cnt x.bB.Base.Unique:Nat):Int)+((x.bB.Log.length:Nat):Int)+1+1+((aF M.Item.cnt x.aE.Base.Items:Nat):Int)+1+1+1+1+((aF M.aW.cnt x.aE.Sync.aV.Writes:Nat):Int)+1+1,((Int.tmod (k+1+1+1+1+1+1+((aF M.Cache.cnt x.Caches.Caches:Nat):Int)+1+1+((aF M.aJ.cnt x.bB.Base.Stores:Nat):Int)+((aF M.aD.cnt x.bB.Base.Unique:Nat):Int)+((x.bB.Log.length:Nat):Int)+1+1+((aF M.Item.cnt x.aE.Base.Items:Nat):Int)+1+1+1+1+((aF M.aW.cnt x.aE.Sync.aV.Writes:Nat):Int)+1+1+1) 3)==0)⟩,fun n pre post hl => ?_,fun n l i hi hl => ?_⟩
 ·have hl':=le_max hl
  have hp:pre.length<9223372036854775807:=by simp at hl';omega
  simp only [cY]
  rw [if_pos (aBt pre post x)]
  simp (maxSteps:=2000000) only [uW,uV,qA,bC hp,t0,w0,t1,w1,t2,w2,w3,w4,w5,a1,t7,w7,w8,a2,a3,a4,w12,t13,w13,a5,w15,w16,w17,w18,a6,w20,w21,w22,w23]
  rw [hE]
 ·have hl':=le_max hl
  have hp:i<9223372036854775807:=by have:=(List.getElem?_eq_some_iff.1 hi).1;omega
  simp only [cW]
  rw [if_pos (aD1 hi)]
  simp (maxSteps:=2000000) only [aBv hi,qA,bC hp,t0,w0,t1,w1,t2,w2,w3,w4,w5,b1,d1,t7,w7,w8,b2,d2,b3,d3,b4,d4,w12,t13,w13,b5,d5,w15,w16,w17,w18,b6,d6,w20,w21,w22,w23,bne_self_eq_false,beq_self_eq_true,qB,qD,if_false]
  rw [hE]
theorem M.aD8.iD (xs:List M.Bucket) (hx:(xs.length≤maxLen ∧ ∀y∈xs,M.Bucket.ok y)) (k:Int) (h0:0≤k) (hB:k+((aF M.Bucket.cnt xs:Nat):Int)≤KB) : ∃ys,rX xs k=some (ys,k+((aF M.Bucket.cnt xs:Nat):Int))∧rG ys k=some (k+((aF M.Bucket.cnt xs:Nat):Int))∧ys.length=xs.length:=by
 have hm:=le_max hx.1
 obtain ⟨ys,h1,h2,h3⟩:=mH (ML:=cY) (HL:=cW) (c:=M.Bucket.cnt) (ok:=M.Bucket.ok) (fun x hx k h0 hB=>M.Bucket.sO x hx k h0 hB) (fun n k l=>by simp only [cY];rw [if_neg (by rw [aO];simp)]) (fun n k l=>by simp only [cW];rw [if_neg (by rw [aO];simp)]) xs [] fuel k (by simpa using hx.1) (by unfold fuel;omega) hx.2 h0 hB
 refine ⟨ys,by unfold rX;simpa using h2,by unfold rG;simpa using h3 fuel (by unfold fuel;omega),h1⟩
def M.aN.cnt (x:M.aN):Nat:=2
set_option maxHeartbeats 4000000 in
theorem M.aN.sO (x:M.aN) (hx:M.aN.ok x) (k:Int) (h0:0≤k) (hB:k+((M.aN.cnt x:Nat):Int)≤KB) : ∃x':M.aN,(∀n (pre post:List M.aN),(pre++x::post).length≤maxLen→cR (n+1) k pre.length (pre++x::post)=cR n (k+((M.aN.cnt x:Nat):Int)) ((pre.length+1:Nat):Int) (pre++x'::post)) ∧ ∀n (l:List M.aN) (i:Nat),l[i]? = some x'→l.length≤maxLen→dS l (n+1) k i=dS l n (k+((M.aN.cnt x:Nat):Int)) ((i+1:Nat):Int):=by
 unfold KB at hB;unfold M.aN.cnt at hB ⊢
 have A:(0≤k∧k≤KB)∧(0≤k+1∧k+1≤KB)∧(0≤k+1+1∧k+1+1≤KB):=by
  unfold KB
  refine ⟨?_,?_,?_⟩<;>omega
 have hE:k+1+1=k+((M.aN.cnt x:Nat):Int):=by unfold M.aN.cnt;omega
 unfold M.aN.cnt at hE
 obtain ⟨q0,q1,q2⟩:=A
 have t0:aH (k)=some (mtx (k)):=mt q0.1 (Int.lt_of_add_one_le q1.2)
 have w0:=wk2 q0
 have w1:=wk2 q1
 refine ⟨⟨(mtx (k)),k+1⟩,fun n pre post hl => ?_,fun n l i hi hl => ?_⟩
 ·have hl':=le_max hl
  have hp:pre.length<9223372036854775807:=by simp at hl';omega
  simp only [cR]
  rw [if_pos (aBt pre post x)]
  simp (maxSteps:=2000000) only [uW,uV,qA,bC hp,t0,w0,w1]
  rw [hE]
 ·have hl':=le_max hl
  have hp:i<9223372036854775807:=by have:=(List.getElem?_eq_some_iff.1 hi).1;omega
  simp only [dS]
  rw [if_pos (aD1 hi)]
  simp (maxSteps:=2000000) only [aBv hi,qA,bC hp,t0,w0,w1,bne_self_eq_false,beq_self_eq_true,qB,qD,if_false]
  rw [hE]
theorem M.aD6.iD (xs:List M.aN) (hx:(xs.length≤maxLen ∧ ∀y∈xs,M.aN.ok y)) (k:Int) (h0:0≤k) (hB:k+((aF M.aN.cnt xs:Nat):Int)≤KB) : ∃ys,rT xs k=some (ys,k+((aF M.aN.cnt xs:Nat):Int))∧rO ys k=some (k+((aF M.aN.cnt xs:Nat):Int))∧ys.length=xs.length:=by
 have hm:=le_max hx.1
 obtain ⟨ys,h1,h2,h3⟩:=mH (ML:=cR) (HL:=dS) (c:=M.aN.cnt) (ok:=M.aN.ok) (fun x hx k h0 hB=>M.aN.sO x hx k h0 hB) (fun n k l=>by simp only [cR];rw [if_neg (by rw [aO];simp)]) (fun n k l=>by simp only [dS];rw [if_neg (by rw [aO];simp)]) xs [] fuel k (by simpa using hx.1) (by unfold fuel;omega) hx.2 h0 hB
 refine ⟨ys,by unfold rT;simpa using h2,by unfold rO;simpa using h3 fuel (by unfold fuel;omega),h1⟩
def M.Instr.cnt (x:M.Instr):Nat:=4
set_option maxHeartbeats 4000000 in
theorem M.Instr.sO (x:M.Instr) (hx:M.Instr.ok x) (k:Int) (h0:0≤k) (hB:k+((M.Instr.cnt x:Nat):Int)≤KB) : ∃x':M.Instr,(∀n (pre post:List M.Instr),(pre++x::post).length≤maxLen→dH (n+1) k pre.length (pre++x::post)=dH n (k+((M.Instr.cnt x:Nat):Int)) ((pre.length+1:Nat):Int) (pre++x'::post)) ∧ ∀n (l:List M.Instr) (i:Nat),l[i]? = some x'→l.length≤maxLen→eJ l (n+1) k i=eJ l n (k+((M.Instr.cnt x:Nat):Int)) ((i+1:Nat):Int):=by
 unfold KB at hB;unfold M.Instr.cnt at hB ⊢
 have A:(0≤k∧k≤KB)∧(0≤k+1∧k+1≤KB)∧(0≤k+1+1∧k+1+1≤KB)∧(0≤k+1+1+1∧k+1+1+1≤KB)∧(0≤k+1+1+1+1∧k+1+1+1+1≤KB):=by
  unfold KB
  refine ⟨?_,?_,?_,?_,?_⟩<;>omega
 have hE:k+1+1+1+1=k+((M.Instr.cnt x:Nat):Int):=by unfold M.Instr.cnt;omega
 unfold M.Instr.cnt at hE
 obtain ⟨q0,q1,q2,q3,q4⟩:=A
 have w0:=wk2 q0
 have w1:=wk2 q1
 have w2:=wk2 q2
 have t3:aH (k+1+1+1)=some (mtx (k+1+1+1)):=mt q3.1 (Int.lt_of_add_one_le q4.2)
 have w3:=wk2 q3
 refine ⟨⟨k,k+1,k+1+1,(mtx (k+1+1+1))⟩,fun n pre post hl => ?_,fun n l i hi hl => ?_⟩
 ·have hl':=le_max hl
  have hp:pre.length<9223372036854775807:=by simp at hl';omega
  simp only [dH]
  rw [if_pos (aBt pre post x)]
  simp (maxSteps:=2000000) only [uW,uV,qA,bC hp,w0,w1,w2,t3,w3]
  rw [hE]
 ·have hl':=le_max hl
  have hp:i<9223372036854775807:=by have:=(List.getElem?_eq_some_iff.1 hi).1;omega
  simp only [eJ]
  rw [if_pos (aD1 hi)]
  simp (maxSteps:=2000000) only [aBv hi,qA,bC hp,w0,w1,w2,t3,w3,bne_self_eq_false,beq_self_eq_true,qB,qD,if_false]
  rw [hE]
theorem M.aGR.iD (xs:List M.Instr) (hx:(xs.length≤maxLen ∧ ∀y∈xs,M.Instr.ok y)) (k:Int) (h0:0≤k) (hB:k+((aF M.Instr.cnt xs:Nat):Int)≤KB) : ∃ys,uI xs k=some (ys,k+((aF M.Instr.cnt xs:Nat):Int))∧uA ys k=some (k+((aF M.Instr.cnt xs:Nat):Int))∧ys.length=xs.length:=by
 have hm:=le_max hx.1
 obtain ⟨ys,h1,h2,h3⟩:=mH (ML:=dH) (HL:=eJ) (c:=M.Instr.cnt) (ok:=M.Instr.ok) (fun x hx k h0 hB=>M.Instr.sO x hx k h0 hB) (fun n k l=>by simp only [dH];rw [if_neg (by rw [aO];simp)]) (fun n k l=>by simp only [eJ];rw [if_neg (by rw [aO];simp)]) xs [] fuel k (by simpa using hx.1) (by unfold fuel;omega) hx.2 h0 hB
 refine ⟨ys,by unfold uI;simpa using h2,by unfold uA;simpa using h3 fuel (by unfold fuel;omega),h1⟩
set_option maxHeartbeats 4000000 in
theorem M.aMo.sO (x:Int) (hx:True) (k:Int) (h0:0≤k) (hB:k+(((fun _:Int=>1) x:Nat):Int)≤KB) : ∃x':Int,(∀n (pre post:List Int),(pre++x::post).length≤maxLen→fC (n+1) k pre.length (pre++x::post)=fC n (k+(((fun _:Int=>1) x:Nat):Int)) ((pre.length+1:Nat):Int) (pre++x'::post)) ∧ ∀n (l:List Int) (i:Nat),l[i]? = some x'→l.length≤maxLen→gI l (n+1) k i=gI l n (k+(((fun _:Int=>1) x:Nat):Int)) ((i+1:Nat):Int):=by
 unfold KB at hB;(try simp only [] at hB ⊢)
 have A:(0≤k∧k≤KB)∧(0≤k+1∧k+1≤KB):=by
  unfold KB
  refine ⟨?_,?_⟩<;>omega
 have hE:k+1=k+(((fun _:Int=>1) x:Nat):Int):=by simp
 obtain ⟨q0,q1⟩:=A
 have w0:=wk2 q0
 refine ⟨k,fun n pre post hl => ?_,fun n l i hi hl => ?_⟩
 ·have hl':=le_max hl
  have hp:pre.length<9223372036854775807:=by simp at hl';omega
  simp only [fC]
  rw [if_pos (aBt pre post x)]
  simp (maxSteps:=2000000) only [uW,uV,qA,bC hp,w0]
  rw [hE]
 ·have hl':=le_max hl
  have hp:i<9223372036854775807:=by have:=(List.getElem?_eq_some_iff.1 hi).1;omega
  simp only [gI]
  rw [if_pos (aD1 hi)]
  simp (maxSteps:=2000000) only [aBv hi,qA,bC hp,w0,bne_self_eq_false,beq_self_eq_true,qB,qD,if_false]
  rw [hE]
theorem M.aMo.cl (xs:List Int):aF (fun _:Int=>1) xs=xs.length:=by
 induction xs with
 | nil=>rfl
 | cons x xs ih=>simp only [aF,ih,qJ];omega
theorem M.aMo.iD (xs:List Int) (hx:okI xs) (k:Int) (h0:0≤k) (hB:k+((xs.length:Nat):Int)≤KB) : ∃ys,zQ xs k=some (ys,k+((xs.length:Nat):Int))∧zM ys k=some (k+((xs.length:Nat):Int))∧ys.length=xs.length:=by
 have hm:=le_max hx.1
 rw [←M.aMo.cl xs] at hB ⊢
 obtain ⟨ys,h1,h2,h3⟩:=mH (ML:=fC) (HL:=gI) (c:=(fun _:Int=>1)) (ok:=(fun _:Int=>True)) (fun x hx k h0 hB=>M.aMo.sO x hx k h0 hB) (fun n k l=>by simp only [fC];rw [if_neg (by rw [aO];simp)]) (fun n k l=>by simp only [gI];rw [if_neg (by rw [aO];simp)]) xs [] fuel k (by simpa using hx.1) (by unfold fuel;omega) (fun _ _=>trivial) h0 hB
 refine ⟨ys,by unfold zQ;simpa using h2,by unfold zM;simpa using h3 fuel (by unfold fuel;omega),by have:=M.aMo.cl xs;omega⟩
def M.bJ.cnt (x:M.bJ):Nat:=8+(aF M.aN.cnt x.aN)+(aF M.Instr.cnt x.Machine.Script)+(x.Machine.Regs.length)
set_option maxHeartbeats 4000000 in
theorem M.bJ.sO (x:M.bJ) (hx:M.bJ.ok x) (k:Int) (h0:0≤k) (hB:k+((M.bJ.cnt x:Nat):Int)≤KB) : ∃x':M.bJ,(∀n (pre post:List M.bJ),(pre++x::post).length≤maxLen→eA (n+1) k pre.length (pre++x::post)=eA n (k+((M.bJ.cnt x:Nat):Int)) ((pre.length+1:Nat):Int) (pre++x'::post)) ∧ ∀n (l:List M.bJ) (i:Nat),l[i]? = some x'→l.length≤maxLen→eB l (n+1) k i=eB l n (k+((M.bJ.cnt x:Nat):Int)) ((i+1:Nat):Int):=by
 unfold KB at hB;unfold M.bJ.cnt at hB ⊢
 have A:(0≤k∧k≤KB)∧(0≤k+1∧k+1≤KB)∧(0≤k+1+1∧k+1+1≤KB)∧(0≤k+1+1+1∧k+1+1+1≤KB)∧(0≤k+1+1+1+1∧k+1+1+1+1≤KB)∧(0≤k+1+1+1+1+((aF M.aN.cnt x.aN:Nat):Int)∧k+1+1+1+1+((aF M.aN.cnt x.aN:Nat):Int)≤KB)∧(0≤k+1+1+1+1+((aF M.aN.cnt x.aN:Nat):Int)+((aF M.Instr.cnt x.Machine.Script:Nat):Int)∧k+1+1+1+1+((aF M.aN.cnt x.aN:Nat):Int)+((aF M.Instr.cnt x.Machine.Script:Nat):Int)≤KB)∧(0≤k+1+1+1+1+((aF M.aN.cnt x.aN:Nat):Int)+((aF M.Instr.cnt x.Machine.Script:Nat):Int)+1∧k+1+1+1+1+((aF M.aN.cnt x.aN:Nat):Int)+((aF M.Instr.cnt x.Machine.Script:Nat):Int)+1≤KB)∧(0≤k+1+1+1+1+((aF M.aN.cnt x.aN:Nat):Int)+((aF M.Instr.cnt x.Machine.Script:Nat):Int)+1+((x.Machine.Regs.length:Nat):Int)∧k+1+1+1+1+((aF M.aN.cnt x.aN:Nat):Int)+((aF M.Instr.cnt x.Machine.Script:Nat):Int)+1+((x.Machine.Regs.length:Nat):Int)≤KB)∧(0≤k+1+1+1+1+((aF M.aN.cnt x.aN:Nat):Int)+((aF M.Instr.cnt x.Machine.Script:Nat):Int)+1+((x.Machine.Regs.length:Nat):Int)+1∧k+1+1+1+1+((aF M.aN.cnt x.aN:Nat):Int)+((aF M.Instr.cnt x.Machine.Script:Nat):Int)+1+((x.Machine.Regs.length:Nat):Int)+1≤KB)∧(0≤k+1+1+1+1+((aF M.aN.cnt x.aN:Nat):Int)+((aF M.Instr.cnt x.Machine.Script:Nat):Int)+1+((x.Machine.Regs.length:Nat):Int)+1+1∧k+1+1+1+1+((aF M.aN.cnt x.aN:Nat):Int)+((aF M.Instr.cnt x.Machine.Script:Nat):Int)+1+((x.Machine.Regs.length:Nat):Int)+1+1≤KB)∧(0≤k+1+1+1+1+((aF M.aN.cnt x.aN:Nat):Int)+((aF M.Instr.cnt x.Machine.Script:Nat):Int)+1+((x.Machine.Regs.length:Nat):Int)+1+1+1∧k+1+1+1+1+((aF M.aN.cnt x.aN:Nat):Int)+((aF M.Instr.cnt x.Machine.Script:Nat):Int)+1+((x.Machine.Regs.length:Nat):Int)+1+1+1≤KB):=by
  unfold KB
  refine ⟨?_,?_,?_,?_,?_,?_,?_,?_,?_,?_,?_,?_⟩<;>omega
 have hE:k+1+1+1+1+((aF M.aN.cnt x.aN:Nat):Int)+((aF M.Instr.cnt x.Machine.Script:Nat):Int)+1+((x.Machine.Regs.length:Nat):Int)+1+1+1=k+((M.bJ.cnt x:Nat):Int):=by unfold M.bJ.cnt;omega
 unfold M.bJ.cnt at hE
 obtain ⟨q0,q1,q2,q3,q4,q5,q6,q7,q8,q9,q10,q11⟩:=A
 have w0:=wk2 q0
 have t1:aH (k+1)=some (mtx (k+1)):=mt q1.1 (Int.lt_of_add_one_le q2.2)
 have w1:=wk2 q1
 have t2:aH (k+1+1)=some (mtx (k+1+1)):=mt q2.1 (Int.lt_of_add_one_le q3.2)
 have w2:=wk2 q2
 have w3:=wk2 q3
 obtain ⟨y1,a1,b1,_⟩:=M.aD6.iD _ hx.aN (k+1+1+1+1) q4.1 q5.2
 have d1:(decide (k+1+1+1+1+((aF M.aN.cnt x.aN:Nat):Int)<0))=false:=dk q5.1
 obtain ⟨y2,a2,b2,_⟩:=M.aGR.iD _ hx.Machine.Script (k+1+1+1+1+((aF M.aN.cnt x.aN:Nat):Int)) q5.1 q6.2
 have d2:(decide (k+1+1+1+1+((aF M.aN.cnt x.aN:Nat):Int)+((aF M.Instr.cnt x.Machine.Script:Nat):Int)<0))=false:=dk q6.1
 have w6:=wk2 q6
 obtain ⟨y3,a3,b3,_⟩:=M.aMo.iD _ hx.Machine.Regs (k+1+1+1+1+((aF M.aN.cnt x.aN:Nat):Int)+((aF M.Instr.cnt x.Machine.Script:Nat):Int)+1) q7.1 q8.2
 have d3:(decide (k+1+1+1+1+((aF M.aN.cnt x.aN:Nat):Int)+((aF M.Instr.cnt x.Machine.Script:Nat):Int)+1+((x.Machine.Regs.length:Nat):Int)<0))=false:=dk q8.1
 have w8:=wk2 q8
 have w9:=wk2 q9
 have w10:=wk2 q10
 refine ⟨⟨k,(mtx (k+1)),(mtx (k+1+1)),k+1+1+1,y1,⟨y2,k+1+1+1+1+((aF M.aN.cnt x.aN:Nat):Int)+((aF M.Instr.cnt x.Machine.Script:Nat):Int),y3,k+1+1+1+1+((aF M.aN.cnt x.aN:Nat):Int)+((aF M.Instr.cnt x.Machine.Script:Nat):Int)+1+((x.Machine.Regs.length:Nat):Int),((Int.tmod (k+1+1+1+1+((aF M.aN.cnt x.aN:Nat):Int)+((aF M.Instr.cnt x.Machine.Script:Nat):Int)+1+((x.Machine.Regs.length:Nat):Int)+1) 3)==0),((Int.tmod (k+1+1+1+1+((aF M.aN.cnt x.aN:Nat):Int)+((aF M.Instr.cnt x.Machine.Script:Nat):Int)+1+((x.Machine.Regs.length:Nat):Int)+1+1) 3)==0)⟩⟩,fun n pre post hl => ?_,fun n l i hi hl => ?_⟩
 ·have hl':=le_max hl
  have hp:pre.length<9223372036854775807:=by simp at hl';omega
  simp only [eA]
  rw [if_pos (aBt pre post x)]
  simp (maxSteps:=2000000) only [uW,uV,qA,bC hp,w0,t1,w1,t2,w2,w3,a1,a2,w6,a3,w8,w9,w10]
  rw [hE]
 ·have hl':=le_max hl
  have hp:i<9223372036854775807:=by have:=(List.getElem?_eq_some_iff.1 hi).1;omega
  simp only [eB]
  rw [if_pos (aD1 hi)]
  simp (maxSteps:=2000000) only [aBv hi,qA,bC hp,w0,t1,w1,t2,w2,w3,b1,d1,b2,d2,w6,b3,d3,w8,w9,w10,bne_self_eq_false,beq_self_eq_true,qB,qD,if_false]
  rw [hE]
theorem M.aKT.iD (xs:List M.bJ) (hx:(xs.length≤maxLen ∧ ∀y∈xs,M.bJ.ok y)) (k:Int) (h0:0≤k) (hB:k+((aF M.bJ.cnt xs:Nat):Int)≤KB) : ∃ys,vT xs k=some (ys,k+((aF M.bJ.cnt xs:Nat):Int))∧vV ys k=some (k+((aF M.bJ.cnt xs:Nat):Int))∧ys.length=xs.length:=by
 have hm:=le_max hx.1
 obtain ⟨ys,h1,h2,h3⟩:=mH (ML:=eA) (HL:=eB) (c:=M.bJ.cnt) (ok:=M.bJ.ok) (fun x hx k h0 hB=>M.bJ.sO x hx k h0 hB) (fun n k l=>by simp only [eA];rw [if_neg (by rw [aO];simp)]) (fun n k l=>by simp only [eB];rw [if_neg (by rw [aO];simp)]) xs [] fuel k (by simpa using hx.1) (by unfold fuel;omega) hx.2 h0 hB
 refine ⟨ys,by unfold vT;simpa using h2,by unfold vV;simpa using h3 fuel (by unfold fuel;omega),h1⟩
def M.dA.cnt (x:M.dA):Nat:=4
set_option maxHeartbeats 4000000 in
theorem M.dA.sO (x:M.dA) (hx:M.dA.ok x) (k:Int) (h0:0≤k) (hB:k+((M.dA.cnt x:Nat):Int)≤KB) : ∃x':M.dA,(∀n (pre post:List M.dA),(pre++x::post).length≤maxLen→dZ (n+1) k pre.length (pre++x::post)=dZ n (k+((M.dA.cnt x:Nat):Int)) ((pre.length+1:Nat):Int) (pre++x'::post)) ∧ ∀n (l:List M.dA) (i:Nat),l[i]? = some x'→l.length≤maxLen→fQ l (n+1) k i=fQ l n (k+((M.dA.cnt x:Nat):Int)) ((i+1:Nat):Int):=by
 unfold KB at hB;unfold M.dA.cnt at hB ⊢
 have A:(0≤k∧k≤KB)∧(0≤k+1∧k+1≤KB)∧(0≤k+1+1∧k+1+1≤KB)∧(0≤k+1+1+1∧k+1+1+1≤KB)∧(0≤k+1+1+1+1∧k+1+1+1+1≤KB):=by
  unfold KB
  refine ⟨?_,?_,?_,?_,?_⟩<;>omega
 have hE:k+1+1+1+1=k+((M.dA.cnt x:Nat):Int):=by unfold M.dA.cnt;omega
 unfold M.dA.cnt at hE
 obtain ⟨q0,q1,q2,q3,q4⟩:=A
 have t0:aH (k)=some (mtx (k)):=mt q0.1 (Int.lt_of_add_one_le q1.2)
 have w0:=wk2 q0
 have w1:=wk2 q1
 have w2:=wk2 q2
 have w3:=wk2 q3
 refine ⟨⟨(mtx (k)),k+1,((Int.tmod (k+1+1) 3)==0),((Int.tmod (k+1+1+1) 3)==0)⟩,fun n pre post hl => ?_,fun n l i hi hl => ?_⟩
 ·have hl':=le_max hl
  have hp:pre.length<9223372036854775807:=by simp at hl';omega
  simp only [dZ]
  rw [if_pos (aBt pre post x)]
  simp (maxSteps:=2000000) only [uW,uV,qA,bC hp,t0,w0,w1,w2,w3]
  rw [hE]
 ·have hl':=le_max hl
  have hp:i<9223372036854775807:=by have:=(List.getElem?_eq_some_iff.1 hi).1;omega
  simp only [fQ]
  rw [if_pos (aD1 hi)]
  simp (maxSteps:=2000000) only [aBv hi,qA,bC hp,t0,w0,w1,w2,w3,bne_self_eq_false,beq_self_eq_true,qB,qD,if_false]
  rw [hE]
theorem M.aKW.iD (xs:List M.dA) (hx:(xs.length≤maxLen ∧ ∀y∈xs,M.dA.ok y)) (k:Int) (h0:0≤k) (hB:k+((aF M.dA.cnt xs:Nat):Int)≤KB) : ∃ys,wY xs k=some (ys,k+((aF M.dA.cnt xs:Nat):Int))∧wW ys k=some (k+((aF M.dA.cnt xs:Nat):Int))∧ys.length=xs.length:=by
 have hm:=le_max hx.1
 obtain ⟨ys,h1,h2,h3⟩:=mH (ML:=dZ) (HL:=fQ) (c:=M.dA.cnt) (ok:=M.dA.ok) (fun x hx k h0 hB=>M.dA.sO x hx k h0 hB) (fun n k l=>by simp only [dZ];rw [if_neg (by rw [aO];simp)]) (fun n k l=>by simp only [fQ];rw [if_neg (by rw [aO];simp)]) xs [] fuel k (by simpa using hx.1) (by unfold fuel;omega) hx.2 h0 hB
 refine ⟨ys,by unfold wY;simpa using h2,by unfold wW;simpa using h3 fuel (by unfold fuel;omega),h1⟩
def M.fW.cnt (x:M.fW):Nat:=3
set_option maxHeartbeats 4000000 in
theorem M.fW.sO (x:M.fW) (hx:M.fW.ok x) (k:Int) (h0:0≤k) (hB:k+((M.fW.cnt x:Nat):Int)≤KB) : ∃x':M.fW,(∀n (pre post:List M.fW),(pre++x::post).length≤maxLen→dX (n+1) k pre.length (pre++x::post)=dX n (k+((M.fW.cnt x:Nat):Int)) ((pre.length+1:Nat):Int) (pre++x'::post)) ∧ ∀n (l:List M.fW) (i:Nat),l[i]? = some x'→l.length≤maxLen→fU l (n+1) k i=fU l n (k+((M.fW.cnt x:Nat):Int)) ((i+1:Nat):Int):=by
 unfold KB at hB;unfold M.fW.cnt at hB ⊢
 have A:(0≤k∧k≤KB)∧(0≤k+1∧k+1≤KB)∧(0≤k+1+1∧k+1+1≤KB)∧(0≤k+1+1+1∧k+1+1+1≤KB):=by
  unfold KB
  refine ⟨?_,?_,?_,?_⟩<;>omega
 have hE:k+1+1+1=k+((M.fW.cnt x:Nat):Int):=by unfold M.fW.cnt;omega
 unfold M.fW.cnt at hE
 obtain ⟨q0,q1,q2,q3⟩:=A
 have w0:=wk2 q0
 have w1:=wk2 q1
 have w2:=wk2 q2
 refine ⟨⟨k,k+1,k+1+1⟩,fun n pre post hl => ?_,fun n l i hi hl => ?_⟩
 ·have hl':=le_max hl
  have hp:pre.length<9223372036854775807:=by simp at hl';omega
  simp only [dX]
  rw [if_pos (aBt pre post x)]
  simp (maxSteps:=2000000) only [uW,uV,qA,bC hp,w0,w1,w2]
  rw [hE]
 ·have hl':=le_max hl
  have hp:i<9223372036854775807:=by have:=(List.getElem?_eq_some_iff.1 hi).1;omega
  simp only [fU]
  rw [if_pos (aD1 hi)]
  simp (maxSteps:=2000000) only [aBv hi,qA,bC hp,w0,w1,w2,bne_self_eq_false,beq_self_eq_true,qB,qD,if_false]
  rw [hE]
theorem M.aKz.iD (xs:List M.fW) (hx:(xs.length≤maxLen ∧ ∀y∈xs,M.fW.ok y)) (k:Int) (h0:0≤k) (hB:k+((aF M.fW.cnt xs:Nat):Int)≤KB) : ∃ys,xB xs k=some (ys,k+((aF M.fW.cnt xs:Nat):Int))∧xE ys k=some (k+((aF M.fW.cnt xs:Nat):Int))∧ys.length=xs.length:=by
 have hm:=le_max hx.1
 obtain ⟨ys,h1,h2,h3⟩:=mH (ML:=dX) (HL:=fU) (c:=M.fW.cnt) (ok:=M.fW.ok) (fun x hx k h0 hB=>M.fW.sO x hx k h0 hB) (fun n k l=>by simp only [dX];rw [if_neg (by rw [aO];simp)]) (fun n k l=>by simp only [fU];rw [if_neg (by rw [aO];simp)]) xs [] fuel k (by simpa using hx.1) (by unfold fuel;omega) hx.2 h0 hB
 refine ⟨ys,by unfold xB;simpa using h2,by unfold xE;simpa using h3 fuel (by unfold fuel;omega),h1⟩
set_option maxHeartbeats 4000000 in
theorem M.aBd.sO (x:ByteArray) (hx:True) (k:Int) (h0:0≤k) (hB:k+(((fun _:ByteArray=>1) x:Nat):Int)≤KB) : ∃x':ByteArray,(∀n (pre post:List ByteArray),(pre++x::post).length≤maxLen→cX (n+1) k pre.length (pre++x::post)=cX n (k+(((fun _:ByteArray=>1) x:Nat):Int)) ((pre.length+1:Nat):Int) (pre++x'::post)) ∧ ∀n (l:List ByteArray) (i:Nat),l[i]? = some x'→l.length≤maxLen→dR l (n+1) k i=dR l n (k+(((fun _:ByteArray=>1) x:Nat):Int)) ((i+1:Nat):Int):=by
 unfold KB at hB;(try simp only [] at hB ⊢)
 have A:(0≤k∧k≤KB)∧(0≤k+1∧k+1≤KB):=by
  unfold KB
  refine ⟨?_,?_⟩<;>omega
 have hE:k+1=k+(((fun _:ByteArray=>1) x:Nat):Int):=by simp
 obtain ⟨q0,q1⟩:=A
 have t0:aH (k)=some (mtx (k)):=mt q0.1 (Int.lt_of_add_one_le q1.2)
 have w0:=wk2 q0
 refine ⟨(mtx (k)),fun n pre post hl => ?_,fun n l i hi hl => ?_⟩
 ·have hl':=le_max hl
  have hp:pre.length<9223372036854775807:=by simp at hl';omega
  simp only [cX]
  rw [if_pos (aBt pre post x)]
  simp (maxSteps:=2000000) only [uW,uV,qA,bC hp,t0,w0]
  rw [hE]
 ·have hl':=le_max hl
  have hp:i<9223372036854775807:=by have:=(List.getElem?_eq_some_iff.1 hi).1;omega
  simp only [dR]
  rw [if_pos (aD1 hi)]
  simp (maxSteps:=2000000) only [aBv hi,qA,bC hp,t0,w0,bne_self_eq_false,beq_self_eq_true,qB,qD,if_false]
  rw [hE]
theorem M.aBd.cl (xs:List ByteArray):aF (fun _:ByteArray=>1) xs=xs.length:=by
 induction xs with
 | nil=>rfl
 | cons x xs ih=>simp only [aF,ih,qJ];omega
theorem M.aBd.iD (xs:List ByteArray) (hx:okS xs) (k:Int) (h0:0≤k) (hB:k+((xs.length:Nat):Int)≤KB) : ∃ys,pQ xs k=some (ys,k+((xs.length:Nat):Int))∧pW ys k=some (k+((xs.length:Nat):Int))∧ys.length=xs.length:=by
 have hm:=le_max hx.1
 rw [←M.aBd.cl xs] at hB ⊢
 obtain ⟨ys,h1,h2,h3⟩:=mH (ML:=cX) (HL:=dR) (c:=(fun _:ByteArray=>1)) (ok:=(fun _:ByteArray=>True)) (fun x hx k h0 hB=>M.aBd.sO x hx k h0 hB) (fun n k l=>by simp only [cX];rw [if_neg (by rw [aO];simp)]) (fun n k l=>by simp only [dR];rw [if_neg (by rw [aO];simp)]) xs [] fuel k (by simpa using hx.1) (by unfold fuel;omega) (fun _ _=>trivial) h0 hB
 refine ⟨ys,by unfold pQ;simpa using h2,by unfold pW;simpa using h3 fuel (by unfold fuel;omega),by have:=M.aBd.cl xs;omega⟩
def M.Site.cnt (x:M.Site):Nat:=3+(x.Files.length)
set_option maxHeartbeats 4000000 in
theorem M.Site.sO (x:M.Site) (hx:M.Site.ok x) (k:Int) (h0:0≤k) (hB:k+((M.Site.cnt x:Nat):Int)≤KB) : ∃x':M.Site,(∀n (pre post:List M.Site),(pre++x::post).length≤maxLen→eD (n+1) k pre.length (pre++x::post)=eD n (k+((M.Site.cnt x:Nat):Int)) ((pre.length+1:Nat):Int) (pre++x'::post)) ∧ ∀n (l:List M.Site) (i:Nat),l[i]? = some x'→l.length≤maxLen→fI l (n+1) k i=fI l n (k+((M.Site.cnt x:Nat):Int)) ((i+1:Nat):Int):=by
 unfold KB at hB;unfold M.Site.cnt at hB ⊢
 have A:(0≤k∧k≤KB)∧(0≤k+1∧k+1≤KB)∧(0≤k+1+1∧k+1+1≤KB)∧(0≤k+1+1+((x.Files.length:Nat):Int)∧k+1+1+((x.Files.length:Nat):Int)≤KB)∧(0≤k+1+1+((x.Files.length:Nat):Int)+1∧k+1+1+((x.Files.length:Nat):Int)+1≤KB):=by
  unfold KB
  refine ⟨?_,?_,?_,?_,?_⟩<;>omega
 have hE:k+1+1+((x.Files.length:Nat):Int)+1=k+((M.Site.cnt x:Nat):Int):=by unfold M.Site.cnt;omega
 unfold M.Site.cnt at hE
 obtain ⟨q0,q1,q2,q3,q4⟩:=A
 have t0:aH (k)=some (mtx (k)):=mt q0.1 (Int.lt_of_add_one_le q1.2)
 have w0:=wk2 q0
 have w1:=wk2 q1
 obtain ⟨y1,a1,b1,_⟩:=M.aBd.iD _ hx.Files (k+1+1) q2.1 q3.2
 have d1:(decide (k+1+1+((x.Files.length:Nat):Int)<0))=false:=dk q3.1
 have w3:=wk2 q3
 refine ⟨⟨(mtx (k)),k+1,y1,((Int.tmod (k+1+1+((x.Files.length:Nat):Int)) 3)==0)⟩,fun n pre post hl => ?_,fun n l i hi hl => ?_⟩
 ·have hl':=le_max hl
  have hp:pre.length<9223372036854775807:=by simp at hl';omega
  simp only [eD]
  rw [if_pos (aBt pre post x)]
  simp (maxSteps:=2000000) only [uW,uV,qA,bC hp,t0,w0,w1,a1,w3]
  rw [hE]
 ·have hl':=le_max hl
  have hp:i<9223372036854775807:=by have:=(List.getElem?_eq_some_iff.1 hi).1;omega
  simp only [fI]
  rw [if_pos (aD1 hi)]
  simp (maxSteps:=2000000) only [aBv hi,qA,bC hp,t0,w0,w1,b1,d1,w3,bne_self_eq_false,beq_self_eq_true,qB,qD,if_false]
  rw [hE]
theorem M.aKN.iD (xs:List M.Site) (hx:(xs.length≤maxLen ∧ ∀y∈xs,M.Site.ok y)) (k:Int) (h0:0≤k) (hB:k+((aF M.Site.cnt xs:Nat):Int)≤KB) : ∃ys,wQ xs k=some (ys,k+((aF M.Site.cnt xs:Nat):Int))∧xU ys k=some (k+((aF M.Site.cnt xs:Nat):Int))∧ys.length=xs.length:=by
 have hm:=le_max hx.1
 obtain ⟨ys,h1,h2,h3⟩:=mH (ML:=eD) (HL:=fI) (c:=M.Site.cnt) (ok:=M.Site.ok) (fun x hx k h0 hB=>M.Site.sO x hx k h0 hB) (fun n k l=>by simp only [eD];rw [if_neg (by rw [aO];simp)]) (fun n k l=>by simp only [fI];rw [if_neg (by rw [aO];simp)]) xs [] fuel k (by simpa using hx.1) (by unfold fuel;omega) hx.2 h0 hB
 refine ⟨ys,by unfold wQ;simpa using h2,by unfold xU;simpa using h3 fuel (by unfold fuel;omega),h1⟩
def M.aK.cnt (x:M.aK):Nat:=2
set_option maxHeartbeats 4000000 in
theorem M.aK.sO (x:M.aK) (hx:M.aK.ok x) (k:Int) (h0:0≤k) (hB:k+((M.aK.cnt x:Nat):Int)≤KB) : ∃x':M.aK,(∀n (pre post:List M.aK),(pre++x::post).length≤maxLen→cM (n+1) k pre.length (pre++x::post)=cM n (k+((M.aK.cnt x:Nat):Int)) ((pre.length+1:Nat):Int) (pre++x'::post)) ∧ ∀n (l:List M.aK) (i:Nat),l[i]? = some x'→l.length≤maxLen→dF l (n+1) k i=dF l n (k+((M.aK.cnt x:Nat):Int)) ((i+1:Nat):Int):=by
 unfold KB at hB;unfold M.aK.cnt at hB ⊢
 have A:(0≤k∧k≤KB)∧(0≤k+1∧k+1≤KB)∧(0≤k+1+1∧k+1+1≤KB):=by
  unfold KB
  refine ⟨?_,?_,?_⟩<;>omega
 have hE:k+1+1=k+((M.aK.cnt x:Nat):Int):=by unfold M.aK.cnt;omega
 unfold M.aK.cnt at hE
 obtain ⟨q0,q1,q2⟩:=A
 have w0:=wk2 q0
 have w1:=wk2 q1
 refine ⟨⟨k,k+1⟩,fun n pre post hl => ?_,fun n l i hi hl => ?_⟩
 ·have hl':=le_max hl
  have hp:pre.length<9223372036854775807:=by simp at hl';omega
  simp only [cM]
  rw [if_pos (aBt pre post x)]
  simp (maxSteps:=2000000) only [uW,uV,qA,bC hp,w0,w1]
  rw [hE]
 ·have hl':=le_max hl
  have hp:i<9223372036854775807:=by have:=(List.getElem?_eq_some_iff.1 hi).1;omega
  simp only [dF]
  rw [if_pos (aD1 hi)]
  simp (maxSteps:=2000000) only [aBv hi,qA,bC hp,w0,w1,bne_self_eq_false,beq_self_eq_true,qB,qD,if_false]
  rw [hE]
theorem M.aC3.iD (xs:List M.aK) (hx:(xs.length≤maxLen ∧ ∀y∈xs,M.aK.ok y)) (k:Int) (h0:0≤k) (hB:k+((aF M.aK.cnt xs:Nat):Int)≤KB) : ∃ys,oI xs k=some (ys,k+((aF M.aK.cnt xs:Nat):Int))∧oH ys k=some (k+((aF M.aK.cnt xs:Nat):Int))∧ys.length=xs.length:=by
 have hm:=le_max hx.1
 obtain ⟨ys,h1,h2,h3⟩:=mH (ML:=cM) (HL:=dF) (c:=M.aK.cnt) (ok:=M.aK.ok) (fun x hx k h0 hB=>M.aK.sO x hx k h0 hB) (fun n k l=>by simp only [cM];rw [if_neg (by rw [aO];simp)]) (fun n k l=>by simp only [dF];rw [if_neg (by rw [aO];simp)]) xs [] fuel k (by simpa using hx.1) (by unfold fuel;omega) hx.2 h0 hB
 refine ⟨ys,by unfold oI;simpa using h2,by unfold oH;simpa using h3 fuel (by unfold fuel;omega),h1⟩
def M.Server.cnt (x:M.Server):Nat:=2+(aF M.Item.cnt x.aJ.Items)+(aF M.aK.cnt x.aK)+(aF M.aW.cnt x.Changes)
set_option maxHeartbeats 4000000 in
theorem M.Server.sO (x:M.Server) (hx:M.Server.ok x) (k:Int) (h0:0≤k) (hB:k+((M.Server.cnt x:Nat):Int)≤KB) : ∃x':M.Server,(∀n (pre post:List M.Server),(pre++x::post).length≤maxLen→cQ (n+1) k pre.length (pre++x::post)=cQ n (k+((M.Server.cnt x:Nat):Int)) ((pre.length+1:Nat):Int) (pre++x'::post)) ∧ ∀n (l:List M.Server) (i:Nat),l[i]? = some x'→l.length≤maxLen→cV l (n+1) k i=cV l n (k+((M.Server.cnt x:Nat):Int)) ((i+1:Nat):Int):=by
 unfold KB at hB;unfold M.Server.cnt at hB ⊢
 have A:(0≤k∧k≤KB)∧(0≤k+1∧k+1≤KB)∧(0≤k+1+((aF M.Item.cnt x.aJ.Items:Nat):Int)∧k+1+((aF M.Item.cnt x.aJ.Items:Nat):Int)≤KB)∧(0≤k+1+((aF M.Item.cnt x.aJ.Items:Nat):Int)+1∧k+1+((aF M.Item.cnt x.aJ.Items:Nat):Int)+1≤KB)∧(0≤k+1+((aF M.Item.cnt x.aJ.Items:Nat):Int)+1+((aF M.aK.cnt x.aK:Nat):Int)∧k+1+((aF M.Item.cnt x.aJ.Items:Nat):Int)+1+((aF M.aK.cnt x.aK:Nat):Int)≤KB)∧(0≤k+1+((aF M.Item.cnt x.aJ.Items:Nat):Int)+1+((aF M.aK.cnt x.aK:Nat):Int)+((aF M.aW.cnt x.Changes:Nat):Int)∧k+1+((aF M.Item.cnt x.aJ.Items:Nat):Int)+1+((aF M.aK.cnt x.aK:Nat):Int)+((aF M.aW.cnt x.Changes:Nat):Int)≤KB):=by
  unfold KB
  refine ⟨?_,?_,?_,?_,?_,?_⟩<;>omega
 have hE:k+1+((aF M.Item.cnt x.aJ.Items:Nat):Int)+1+((aF M.aK.cnt x.aK:Nat):Int)+((aF M.aW.cnt x.Changes:Nat):Int)=k+((M.Server.cnt x:Nat):Int):=by unfold M.Server.cnt;omega
 unfold M.Server.cnt at hE
 obtain ⟨q0,q1,q2,q3,q4,q5⟩:=A
 have t0:aH (k)=some (mtx (k)):=mt q0.1 (Int.lt_of_add_one_le q1.2)
 have w0:=wk2 q0
 obtain ⟨y1,a1,b1,_⟩:=M.aG1.iD _ hx.aJ.Items (k+1) q1.1 q2.2
 have d1:(decide (k+1+((aF M.Item.cnt x.aJ.Items:Nat):Int)<0))=false:=dk q2.1
 have w2:=wk2 q2
 obtain ⟨y2,a2,b2,_⟩:=M.aC3.iD _ hx.aK (k+1+((aF M.Item.cnt x.aJ.Items:Nat):Int)+1) q3.1 q4.2
 have d2:(decide (k+1+((aF M.Item.cnt x.aJ.Items:Nat):Int)+1+((aF M.aK.cnt x.aK:Nat):Int)<0))=false:=dk q4.1
 obtain ⟨y3,a3,b3,_⟩:=M.aDN.iD _ hx.Changes (k+1+((aF M.Item.cnt x.aJ.Items:Nat):Int)+1+((aF M.aK.cnt x.aK:Nat):Int)) q4.1 q5.2
 have d3:(decide (k+1+((aF M.Item.cnt x.aJ.Items:Nat):Int)+1+((aF M.aK.cnt x.aK:Nat):Int)+((aF M.aW.cnt x.Changes:Nat):Int)<0))=false:=dk q5.1
 refine ⟨⟨⟨(mtx (k)),y1,k+1+((aF M.Item.cnt x.aJ.Items:Nat):Int)⟩,y2,y3⟩,fun n pre post hl => ?_,fun n l i hi hl => ?_⟩
 ·have hl':=le_max hl
  have hp:pre.length<9223372036854775807:=by simp at hl';omega
  simp only [cQ]
  rw [if_pos (aBt pre post x)]
  simp (maxSteps:=2000000) only [uW,uV,qA,bC hp,t0,w0,a1,w2,a2,a3]
  rw [hE]
 ·have hl':=le_max hl
  have hp:i<9223372036854775807:=by have:=(List.getElem?_eq_some_iff.1 hi).1;omega
  simp only [cV]
  rw [if_pos (aD1 hi)]
  simp (maxSteps:=2000000) only [aBv hi,qA,bC hp,t0,w0,b1,d1,w2,b2,d2,b3,d3,bne_self_eq_false,beq_self_eq_true,qB,qD,if_false]
  rw [hE]
theorem M.aEC.iD (xs:List M.Server) (hx:(xs.length≤maxLen ∧ ∀y∈xs,M.Server.ok y)) (k:Int) (h0:0≤k) (hB:k+((aF M.Server.cnt xs:Nat):Int)≤KB) : ∃ys,rH xs k=some (ys,k+((aF M.Server.cnt xs:Nat):Int))∧rY ys k=some (k+((aF M.Server.cnt xs:Nat):Int))∧ys.length=xs.length:=by
 have hm:=le_max hx.1
 obtain ⟨ys,h1,h2,h3⟩:=mH (ML:=cQ) (HL:=cV) (c:=M.Server.cnt) (ok:=M.Server.ok) (fun x hx k h0 hB=>M.Server.sO x hx k h0 hB) (fun n k l=>by simp only [cQ];rw [if_neg (by rw [aO];simp)]) (fun n k l=>by simp only [cV];rw [if_neg (by rw [aO];simp)]) xs [] fuel k (by simpa using hx.1) (by unfold fuel;omega) hx.2 h0 hB
 refine ⟨ys,by unfold rH;simpa using h2,by unfold rY;simpa using h3 fuel (by unfold fuel;omega),h1⟩
def M.World.aQx (x:M.World):Nat:=(aF M.Bucket.cnt x.aC.Buckets)+(aF M.bJ.cnt x.Pages)+(aF M.dA.cnt x.Locks.Locks)+(aF M.fW.cnt x.Channel.Mails)+(aF M.Site.cnt x.Sites)+(aF M.Server.cnt x.Servers)
theorem M.World.iD (x:M.World) (hx:M.World.ok x) (k:Int) (h0:0≤k) (hB:k+((M.World.aQx x:Nat):Int)≤KB) : ∃y1 y2 y3 y4 y5 y6,pD x k=some (y1,y2,y3,y4,y5,y6,k+((M.World.aQx x:Nat):Int))∧pM (⟨x.Now,x.Online,x.Device,⟨y1⟩,y2,x.NextPage,⟨y3⟩,⟨y4⟩,y5,y6⟩:M.World) k=some (k+((M.World.aQx x:Nat):Int)):=by
 unfold KB at hB;unfold M.World.aQx at hB ⊢
 obtain ⟨y1,a1,b1,_⟩:=M.aD8.iD _ hx.aC.Buckets (k) (by omega) (by unfold KB;omega)
 obtain ⟨y2,a2,b2,_⟩:=M.aKT.iD _ hx.Pages (k+((aF M.Bucket.cnt x.aC.Buckets:Nat):Int)) (by omega) (by unfold KB;omega)
 obtain ⟨y3,a3,b3,_⟩:=M.aKW.iD _ hx.Locks.Locks (k+((aF M.Bucket.cnt x.aC.Buckets:Nat):Int)+((aF M.bJ.cnt x.Pages:Nat):Int)) (by omega) (by unfold KB;omega)
 obtain ⟨y4,a4,b4,_⟩:=M.aKz.iD _ hx.Channel.Mails (k+((aF M.Bucket.cnt x.aC.Buckets:Nat):Int)+((aF M.bJ.cnt x.Pages:Nat):Int)+((aF M.dA.cnt x.Locks.Locks:Nat):Int)) (by omega) (by unfold KB;omega)
 obtain ⟨y5,a5,b5,_⟩:=M.aKN.iD _ hx.Sites (k+((aF M.Bucket.cnt x.aC.Buckets:Nat):Int)+((aF M.bJ.cnt x.Pages:Nat):Int)+((aF M.dA.cnt x.Locks.Locks:Nat):Int)+((aF M.fW.cnt x.Channel.Mails:Nat):Int)) (by omega) (by unfold KB;omega)
 obtain ⟨y6,a6,b6,_⟩:=M.aEC.iD _ hx.Servers (k+((aF M.Bucket.cnt x.aC.Buckets:Nat):Int)+((aF M.bJ.cnt x.Pages:Nat):Int)+((aF M.dA.cnt x.Locks.Locks:Nat):Int)+((aF M.fW.cnt x.Channel.Mails:Nat):Int)+((aF M.Site.cnt x.Sites:Nat):Int)) (by omega) (by unfold KB;omega)
 refine ⟨y1,y2,y3,y4,y5,y6,?_,?_⟩
 ·unfold pD
  simp only [yR,sQ,yM,a1,a2,a3,a4,a5,a6,qA]
  try (simp only [qa,qZ,true_and];omega)
 ·unfold pM
  simp (disch:=(first | omega | (unfold KB;omega))) only [yL,sS,yP,b1,b2,b3,b4,b5,b6,qA,dk,qD,if_false]
  try (simp only [qa];omega)
theorem M.aD0.gN (xs:List Int):xs.length≤40*(xs.length):=by omega
theorem M.Cached.gN (x:M.Cached):M.Cached.cnt x≤40+40*M.Cached.sz x:=by
 unfold M.Cached.cnt
 simp only [M.Cached.sz,M.Response.sz]
 have:=M.aD0.gN x.Response.Body
 omega
theorem M.aD3.gN (xs:List M.Cached):aF M.Cached.cnt xs≤40*((xs.length+aF M.Cached.sz xs)):=oE (fun x _=>M.Cached.gN x)
theorem M.Cache.gN (x:M.Cache):M.Cache.cnt x≤40+40*M.Cache.sz x:=by
 unfold M.Cache.cnt
 simp only [M.Cache.sz]
 have:=M.aD3.gN x.Entries
 omega
theorem M.aGB.gN (xs:List M.Cache):aF M.Cache.cnt xs≤40*((xs.length+aF M.Cache.sz xs)):=oE (fun x _=>M.Cache.gN x)
theorem M.Field.gN (x:M.Field):M.Field.cnt x≤40+40*M.Field.sz x:=by
 unfold M.Field.cnt
 simp only [M.Field.sz]
 omega
theorem M.aGh.gN (xs:List M.Field):aF M.Field.cnt xs≤40*((xs.length+aF M.Field.sz xs)):=oE (fun x _=>M.Field.gN x)
theorem M.Item.gN (x:M.Item):M.Item.cnt x≤40+40*M.Item.sz x:=by
 unfold M.Item.cnt
 simp only [M.Item.sz,M.Key.sz,M.aU.sz]
 have:=M.aGh.gN x.aU.Fields
 omega
theorem M.aG1.gN (xs:List M.Item):aF M.Item.cnt xs≤40*((xs.length+aF M.Item.sz xs)):=oE (fun x _=>M.Item.gN x)
theorem M.aJ.gN (x:M.aJ):M.aJ.cnt x≤40+40*M.aJ.sz x:=by
 unfold M.aJ.cnt
 simp only [M.aJ.sz]
 have:=M.aG1.gN x.Items
 omega
theorem M.aF0.gN (xs:List M.aJ):aF M.aJ.cnt xs≤40*((xs.length+aF M.aJ.sz xs)):=oE (fun x _=>M.aJ.gN x)
theorem M.aD.gN (x:M.aD):M.aD.cnt x≤40+40*M.aD.sz x:=by
 unfold M.aD.cnt
 simp only [M.aD.sz]
 omega
theorem M.aCQ.gN (xs:List M.aD):aF M.aD.cnt xs≤40*((xs.length+aF M.aD.sz xs)):=oE (fun x _=>M.aD.gN x)
theorem M.aW.gN (x:M.aW):M.aW.cnt x≤40+40*M.aW.sz x:=by
 unfold M.aW.cnt
 simp only [M.aW.sz,M.Key.sz]
 omega
theorem M.aDN.gN (xs:List M.aW):aF M.aW.cnt xs≤40*((xs.length+aF M.aW.sz xs)):=oE (fun x _=>M.aW.gN x)
theorem M.Bucket.gN (x:M.Bucket):M.Bucket.cnt x≤40+40*M.Bucket.sz x:=by
 unfold M.Bucket.cnt
 simp only [M.Bucket.sz,M.Registration.sz,M.aA.sz,M.bB.sz,M.Database.sz,M.aE.sz,M.aJ.sz,M.Sync.sz,M.aV.sz]
 have:=M.aGB.gN x.Caches.Caches
 have:=M.aF0.gN x.bB.Base.Stores
 have:=M.aCQ.gN x.bB.Base.Unique
 have:=M.aD0.gN x.bB.Log
 have:=M.aG1.gN x.aE.Base.Items
 have:=M.aDN.gN x.aE.Sync.aV.Writes
 omega
theorem M.aD8.gN (xs:List M.Bucket):aF M.Bucket.cnt xs≤40*((xs.length+aF M.Bucket.sz xs)):=oE (fun x _=>M.Bucket.gN x)
theorem M.aN.gN (x:M.aN):M.aN.cnt x≤40+40*M.aN.sz x:=by
 unfold M.aN.cnt
 simp only [M.aN.sz]
 omega
theorem M.aD6.gN (xs:List M.aN):aF M.aN.cnt xs≤40*((xs.length+aF M.aN.sz xs)):=oE (fun x _=>M.aN.gN x)
theorem M.Instr.gN (x:M.Instr):M.Instr.cnt x≤40+40*M.Instr.sz x:=by
 unfold M.Instr.cnt
 simp only [M.Instr.sz]
 omega
theorem M.aGR.gN (xs:List M.Instr):aF M.Instr.cnt xs≤40*((xs.length+aF M.Instr.sz xs)):=oE (fun x _=>M.Instr.gN x)
theorem M.aMo.gN (xs:List Int):xs.length≤40*(xs.length):=by omega
theorem M.bJ.gN (x:M.bJ):M.bJ.cnt x≤40+40*M.bJ.sz x:=by
 unfold M.bJ.cnt
 simp only [M.bJ.sz,M.Machine.sz]
 have:=M.aD6.gN x.aN
 have:=M.aGR.gN x.Machine.Script
 have:=M.aMo.gN x.Machine.Regs
 omega
theorem M.aKT.gN (xs:List M.bJ):aF M.bJ.cnt xs≤40*((xs.length+aF M.bJ.sz xs)):=oE (fun x _=>M.bJ.gN x)
theorem M.dA.gN (x:M.dA):M.dA.cnt x≤40+40*M.dA.sz x:=by
 unfold M.dA.cnt
 simp only [M.dA.sz]
 omega
theorem M.aKW.gN (xs:List M.dA):aF M.dA.cnt xs≤40*((xs.length+aF M.dA.sz xs)):=oE (fun x _=>M.dA.gN x)
theorem M.fW.gN (x:M.fW):M.fW.cnt x≤40:=by
 unfold M.fW.cnt
 omega
theorem M.aKz.gN (xs:List M.fW):aF M.fW.cnt xs≤40*(xs.length):=Nat.le_trans (aFi (fun x _=>M.fW.gN x)) (by omega)
theorem M.aBd.gN (xs:List ByteArray):xs.length≤40*((xs.length+aF ByteArray.size xs)):=by omega
theorem M.Site.gN (x:M.Site):M.Site.cnt x≤40+40*M.Site.sz x:=by
 unfold M.Site.cnt
 simp only [M.Site.sz]
 have:=M.aBd.gN x.Files
 omega
theorem M.aKN.gN (xs:List M.Site):aF M.Site.cnt xs≤40*((xs.length+aF M.Site.sz xs)):=oE (fun x _=>M.Site.gN x)
theorem M.aK.gN (x:M.aK):M.aK.cnt x≤40:=by
 unfold M.aK.cnt
 omega
theorem M.aC3.gN (xs:List M.aK):aF M.aK.cnt xs≤40*(xs.length):=Nat.le_trans (aFi (fun x _=>M.aK.gN x)) (by omega)
theorem M.Server.gN (x:M.Server):M.Server.cnt x≤40+40*M.Server.sz x:=by
 unfold M.Server.cnt
 simp only [M.Server.sz,M.aJ.sz]
 have:=M.aG1.gN x.aJ.Items
 have:=M.aC3.gN x.aK
 have:=M.aDN.gN x.Changes
 omega
theorem M.aEC.gN (xs:List M.Server):aF M.Server.cnt xs≤40*((xs.length+aF M.Server.sz xs)):=oE (fun x _=>M.Server.gN x)
theorem M.World.aQ0 (x:M.World):M.World.aQx x≤40*M.World.sz x:=by
 unfold M.World.aQx
 simp only [M.World.sz,M.aC.sz,M.aP.sz,M.Channel.sz]
 have:=M.aD8.gN x.aC.Buckets
 have:=M.aKT.gN x.Pages
 have:=M.aKW.gN x.Locks.Locks
 have:=M.aKz.gN x.Channel.Mails
 have:=M.aKN.gN x.Sites
 have:=M.aEC.gN x.Servers
 omega
end Go.Proofs.YtidhkhdnjonjfaaGreat.gen
