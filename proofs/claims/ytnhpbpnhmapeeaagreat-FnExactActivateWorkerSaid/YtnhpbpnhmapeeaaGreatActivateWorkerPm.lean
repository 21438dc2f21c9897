/-
  Helper text. No conditions.
-/
import Derived.Test.YtnhpbpnhmapeeaaGreatActivateWorkerPz
namespace Go.Proofs.YtnhpbpnhmapeeaaGreat.gen
open Go Go.Sh
set_option linter.unusedVariables false
set_option linter.unusedSimpArgs false
theorem aOM : ∀(n:Nat) (v:Int) (b:ByteArray),v.toNat<n→0≤v→(b.size:Int)+v≤KB → ∃t,lA n v b=some t∧t.size≤4611686018427387905
 | 0,v,b,h,_,_=>by omega
 | n+1,v,b,h,h0,hb=>by
  unfold KB at hb
  simp only [lA]
  by_cases hv:v>0
  ·rw [if_pos (by simp;omega)]
   have h1:=Int.tmod_nonneg 10 h0
   have h2:=Int.tmod_lt_of_pos v (show (0:Int)<10 by omega)
   have hu:=aOA (IntKind.i64.wrap (48+Int.tmod v 10))
   have hd:Int.tdiv v 10=v/10:=Int.tdiv_eq_ediv_of_nonneg h0
   have hs:toStr [IntKind.u8.wrap (IntKind.i64.wrap (48+Int.tmod v 10))]=some (aCH [IntKind.u8.wrap (IntKind.i64.wrap (48+Int.tmod v 10))]):=by
    unfold toStr;rw [if_pos (by simp;omega)]
   have hz:(aCH [IntKind.u8.wrap (IntKind.i64.wrap (48+Int.tmod v 10))]).size=1:=rfl
   rw [hs,Option.bind_some]
   unfold cat
   rw [if_pos (by rw [hz];omega),Option.bind_some,hd,jA (by omega) (by omega)]
   refine aOM n (v/10) _ (by omega) (by omega) ?_
   rw [ByteArray.size_append,hz]
   unfold KB
   omega
  ·rw [if_neg (by simp;omega)]
   have hq:cat (⟨#[109]⟩:ByteArray) b=some ((⟨#[109]⟩:ByteArray)++b):=by
    unfold cat;rw [if_pos (by show 1+b.size≤_;omega)]
   first | exact ⟨_,by rw [hq,Option.bind_some],by rw [ByteArray.size_append];show 1+b.size≤_;omega⟩ | exact ⟨_,by rw [hq];rfl,by rw [ByteArray.size_append];show 1+b.size≤_;omega⟩
theorem aOt (k:Int) (h0:0≤k) (h:k<KB) : ∃t,aG k=some t:=by
 unfold aG
 by_cases hk:k≤0
 ·exact ⟨_,by rw [if_pos (by simpa using hk)]⟩
 ·rw [if_neg (by simpa using hk)]
  obtain ⟨t,h1,_⟩:=aOM fuel k ⟨#[]⟩ (by unfold fuel KB at *;omega) h0 (by show ((0:Nat):Int)+k≤KB;omega)
  exact ⟨t,h1⟩
def mtx (k:Int):ByteArray:=(aG k).getD ⟨#[]⟩
theorem mt {k:Int} (h0:0≤k) (h:k<KB):aG k=some (mtx k):=by
 obtain ⟨t,ht⟩:=aOt k h0 h
 unfold mtx;rw [ht];rfl
set_option maxHeartbeats 4000000 in
theorem M.aCg.pP (x:Int) (hx:True) (k:Int) (h0:0≤k) (hB:k+(((fun _:Int=>1) x:Nat):Int)≤KB) : ∃x':Int,(∀n (pre post:List Int),(pre++x::post).length≤maxLen→dZ (n+1) k pre.length (pre++x::post)=dZ n (k+(((fun _:Int=>1) x:Nat):Int)) ((pre.length+1:Nat):Int) (pre++x'::post)) ∧ ∀n (l:List Int) (i:Nat),l[i]? = some x'→l.length≤maxLen→fF l (n+1) k i=fF l n (k+(((fun _:Int=>1) x:Nat):Int)) ((i+1:Nat):Int):=by
 unfold KB at hB;(try simp only [] at hB ⊢)
 have A:(0≤k∧k≤KB)∧(0≤k+1∧k+1≤KB):=by
  unfold KB
  refine ⟨?_,?_⟩<;>omega
 have hE:k+1=k+(((fun _:Int=>1) x:Nat):Int):=by simp
 obtain ⟨q0,q1⟩:=A
 have w0:=wk2 q0
 refine ⟨(IntKind.u8.wrap k),fun n pre post hl => ?_,fun n l i hi hl => ?_⟩
 ·have hl':=le_max hl
  have hp:pre.length<9223372036854775807:=by simp at hl';omega
  simp only [dZ]
  rw [if_pos (aAp pre post x)]
  simp (maxSteps:=2000000) only [rZ,rX,Option.bind_some,bD hp,w0]
  rw [hE]
 ·have hl':=le_max hl
  have hp:i<9223372036854775807:=by have:=(List.getElem?_eq_some_iff.1 hi).1;omega
  simp only [fF]
  rw [if_pos (aCh hi)]
  simp (maxSteps:=2000000) only [aAr hi,Option.bind_some,bD hp,w0,bne_self_eq_false,beq_self_eq_true,Bool.not_true,Bool.false_eq_true,if_false]
  rw [hE]
theorem M.aCg.cl (xs:List Int):aF (fun _:Int=>1) xs=xs.length:=by
 induction xs with
 | nil=>rfl
 | cons x xs ih=>simp only [aF,ih,List.length_cons];omega
theorem M.aCg.hO (xs:List Int) (hx:okB xs) (k:Int) (h0:0≤k) (hB:k+((xs.length:Nat):Int)≤KB) : ∃ys,nV xs k=some (ys,k+((xs.length:Nat):Int))∧nO ys k=some (k+((xs.length:Nat):Int))∧ys.length=xs.length:=by
 have hm:=le_max hx.1
 rw [←M.aCg.cl xs] at hB ⊢
 obtain ⟨ys,h1,h2,h3⟩:=lE (ML:=dZ) (HL:=fF) (c:=(fun _:Int=>1)) (ok:=(fun _:Int=>True)) (fun x hx k h0 hB=>M.aCg.pP x hx k h0 hB) (fun n k l=>by simp only [dZ];rw [if_neg (by rw [aP];simp)]) (fun n k l=>by simp only [fF];rw [if_neg (by rw [aP];simp)]) xs [] fuel k (by simpa using hx.1) (by unfold fuel;omega) (fun _ _=>trivial) h0 hB
 refine ⟨ys,by unfold nV;simpa using h2,by unfold nO;simpa using h3 fuel (by unfold fuel;omega),by have:=M.aCg.cl xs;omega⟩
def M.Cached.cnt (x:M.Cached):Nat:=6+(x.Response.Body.length)
set_option maxHeartbeats 4000000 in
theorem M.Cached.pP (x:M.Cached) (hx:M.Cached.ok x) (k:Int) (h0:0≤k) (hB:k+((M.Cached.cnt x:Nat):Int)≤KB) : ∃x':M.Cached,(∀n (pre post:List M.Cached),(pre++x::post).length≤maxLen→cN (n+1) k pre.length (pre++x::post)=cN n (k+((M.Cached.cnt x:Nat):Int)) ((pre.length+1:Nat):Int) (pre++x'::post)) ∧ ∀n (l:List M.Cached) (i:Nat),l[i]? = some x'→l.length≤maxLen→dL l (n+1) k i=dL l n (k+((M.Cached.cnt x:Nat):Int)) ((i+1:Nat):Int):=by
 unfold KB at hB;unfold M.Cached.cnt at hB ⊢
 have A:(0≤k∧k≤KB)∧(0≤k+1∧k+1≤KB)∧(0≤k+1+1∧k+1+1≤KB)∧(0≤k+1+1+1∧k+1+1+1≤KB)∧(0≤k+1+1+1+1∧k+1+1+1+1≤KB)∧(0≤k+1+1+1+1+1∧k+1+1+1+1+1≤KB)∧(0≤k+1+1+1+1+1+((x.Response.Body.length:Nat):Int)∧k+1+1+1+1+1+((x.Response.Body.length:Nat):Int)≤KB)∧(0≤k+1+1+1+1+1+((x.Response.Body.length:Nat):Int)+1∧k+1+1+1+1+1+((x.Response.Body.length:Nat):Int)+1≤KB):=by
  unfold KB
  refine ⟨?_,?_,?_,?_,?_,?_,?_,?_⟩<;>omega
 have hE:k+1+1+1+1+1+((x.Response.Body.length:Nat):Int)+1=k+((M.Cached.cnt x:Nat):Int):=by unfold M.Cached.cnt;omega
 unfold M.Cached.cnt at hE
 obtain ⟨q0,q1,q2,q3,q4,q5,q6,q7⟩:=A
 have t0:aG (k)=some (mtx (k)):=mt q0.1 (Int.lt_of_add_one_le q1.2)
 have w0:=wk2 q0
 have t1:aG (k+1)=some (mtx (k+1)):=mt q1.1 (Int.lt_of_add_one_le q2.2)
 have w1:=wk2 q1
 have w2:=wk2 q2
 have w3:=wk2 q3
 have w4:=wk2 q4
 obtain ⟨y1,a1,b1,_⟩:=M.aCg.hO _ hx.Response.Body (k+1+1+1+1+1) q5.1 q6.2
 have d1:(decide (k+1+1+1+1+1+((x.Response.Body.length:Nat):Int)<0))=false:=dk q6.1
 have w6:=wk2 q6
 refine ⟨⟨(mtx (k)),(mtx (k+1)),⟨k+1+1,k+1+1+1,k+1+1+1+1,y1,((Int.tmod (k+1+1+1+1+1+((x.Response.Body.length:Nat):Int)) 3)==0)⟩⟩,fun n pre post hl => ?_,fun n l i hi hl => ?_⟩
 ·have hl':=le_max hl
  have hp:pre.length<9223372036854775807:=by simp at hl';omega
  simp only [cN]
  rw [if_pos (aAp pre post x)]
  simp (maxSteps:=2000000) only [rZ,rX,Option.bind_some,bD hp,t0,w0,t1,w1,w2,w3,w4,a1,w6]
  rw [hE]
 ·have hl':=le_max hl
  have hp:i<9223372036854775807:=by have:=(List.getElem?_eq_some_iff.1 hi).1;omega
  simp only [dL]
  rw [if_pos (aCh hi)]
  simp (maxSteps:=2000000) only [aAr hi,Option.bind_some,bD hp,t0,w0,t1,w1,w2,w3,w4,b1,d1,w6,bne_self_eq_false,beq_self_eq_true,Bool.not_true,Bool.false_eq_true,if_false]
  rw [hE]
theorem M.aCi.hO (xs:List M.Cached) (hx:(xs.length≤maxLen ∧ ∀y∈xs,M.Cached.ok y)) (k:Int) (h0:0≤k) (hB:k+((aF M.Cached.cnt xs:Nat):Int)≤KB) : ∃ys,oI xs k=some (ys,k+((aF M.Cached.cnt xs:Nat):Int))∧nY ys k=some (k+((aF M.Cached.cnt xs:Nat):Int))∧ys.length=xs.length:=by
 have hm:=le_max hx.1
 obtain ⟨ys,h1,h2,h3⟩:=lE (ML:=cN) (HL:=dL) (c:=M.Cached.cnt) (ok:=M.Cached.ok) (fun x hx k h0 hB=>M.Cached.pP x hx k h0 hB) (fun n k l=>by simp only [cN];rw [if_neg (by rw [aP];simp)]) (fun n k l=>by simp only [dL];rw [if_neg (by rw [aP];simp)]) xs [] fuel k (by simpa using hx.1) (by unfold fuel;omega) hx.2 h0 hB
 refine ⟨ys,by unfold oI;simpa using h2,by unfold nY;simpa using h3 fuel (by unfold fuel;omega),h1⟩
def M.Cache.cnt (x:M.Cache):Nat:=1+(aF M.Cached.cnt x.Entries)
set_option maxHeartbeats 4000000 in
theorem M.Cache.pP (x:M.Cache) (hx:M.Cache.ok x) (k:Int) (h0:0≤k) (hB:k+((M.Cache.cnt x:Nat):Int)≤KB) : ∃x':M.Cache,(∀n (pre post:List M.Cache),(pre++x::post).length≤maxLen→dD (n+1) k pre.length (pre++x::post)=dD n (k+((M.Cache.cnt x:Nat):Int)) ((pre.length+1:Nat):Int) (pre++x'::post)) ∧ ∀n (l:List M.Cache) (i:Nat),l[i]? = some x'→l.length≤maxLen→eI l (n+1) k i=eI l n (k+((M.Cache.cnt x:Nat):Int)) ((i+1:Nat):Int):=by
 unfold KB at hB;unfold M.Cache.cnt at hB ⊢
 have A:(0≤k∧k≤KB)∧(0≤k+1∧k+1≤KB)∧(0≤k+1+((aF M.Cached.cnt x.Entries:Nat):Int)∧k+1+((aF M.Cached.cnt x.Entries:Nat):Int)≤KB):=by
  unfold KB
  refine ⟨?_,?_,?_⟩<;>omega
 have hE:k+1+((aF M.Cached.cnt x.Entries:Nat):Int)=k+((M.Cache.cnt x:Nat):Int):=by unfold M.Cache.cnt;omega
 unfold M.Cache.cnt at hE
 obtain ⟨q0,q1,q2⟩:=A
 have w0:=wk2 q0
 obtain ⟨y1,a1,b1,_⟩:=M.aCi.hO _ hx.Entries (k+1) q1.1 q2.2
 have d1:(decide (k+1+((aF M.Cached.cnt x.Entries:Nat):Int)<0))=false:=dk q2.1
 refine ⟨⟨k,y1⟩,fun n pre post hl => ?_,fun n l i hi hl => ?_⟩
 ·have hl':=le_max hl
  have hp:pre.length<9223372036854775807:=by simp at hl';omega
  simp only [dD]
  rw [if_pos (aAp pre post x)]
  simp (maxSteps:=2000000) only [rZ,rX,Option.bind_some,bD hp,w0,a1]
  rw [hE]
 ·have hl':=le_max hl
  have hp:i<9223372036854775807:=by have:=(List.getElem?_eq_some_iff.1 hi).1;omega
  simp only [eI]
  rw [if_pos (aCh hi)]
  simp (maxSteps:=2000000) only [aAr hi,Option.bind_some,bD hp,w0,b1,d1,bne_self_eq_false,beq_self_eq_true,Bool.not_true,Bool.false_eq_true,if_false]
  rw [hE]
theorem M.aEd.hO (xs:List M.Cache) (hx:(xs.length≤maxLen ∧ ∀y∈xs,M.Cache.ok y)) (k:Int) (h0:0≤k) (hB:k+((aF M.Cache.cnt xs:Nat):Int)≤KB) : ∃ys,rT xs k=some (ys,k+((aF M.Cache.cnt xs:Nat):Int))∧qF ys k=some (k+((aF M.Cache.cnt xs:Nat):Int))∧ys.length=xs.length:=by
 have hm:=le_max hx.1
 obtain ⟨ys,h1,h2,h3⟩:=lE (ML:=dD) (HL:=eI) (c:=M.Cache.cnt) (ok:=M.Cache.ok) (fun x hx k h0 hB=>M.Cache.pP x hx k h0 hB) (fun n k l=>by simp only [dD];rw [if_neg (by rw [aP];simp)]) (fun n k l=>by simp only [eI];rw [if_neg (by rw [aP];simp)]) xs [] fuel k (by simpa using hx.1) (by unfold fuel;omega) hx.2 h0 hB
 refine ⟨ys,by unfold rT;simpa using h2,by unfold qF;simpa using h3 fuel (by unfold fuel;omega),h1⟩
def M.Field.cnt (x:M.Field):Nat:=2
set_option maxHeartbeats 4000000 in
theorem M.Field.pP (x:M.Field) (hx:M.Field.ok x) (k:Int) (h0:0≤k) (hB:k+((M.Field.cnt x:Nat):Int)≤KB) : ∃x':M.Field,(∀n (pre post:List M.Field),(pre++x::post).length≤maxLen→cY (n+1) k pre.length (pre++x::post)=cY n (k+((M.Field.cnt x:Nat):Int)) ((pre.length+1:Nat):Int) (pre++x'::post)) ∧ ∀n (l:List M.Field) (i:Nat),l[i]? = some x'→l.length≤maxLen→eL l (n+1) k i=eL l n (k+((M.Field.cnt x:Nat):Int)) ((i+1:Nat):Int):=by
 unfold KB at hB;unfold M.Field.cnt at hB ⊢
 have A:(0≤k∧k≤KB)∧(0≤k+1∧k+1≤KB)∧(0≤k+1+1∧k+1+1≤KB):=by
  unfold KB
  refine ⟨?_,?_,?_⟩<;>omega
 have hE:k+1+1=k+((M.Field.cnt x:Nat):Int):=by unfold M.Field.cnt;omega
 unfold M.Field.cnt at hE
 obtain ⟨q0,q1,q2⟩:=A
 have t0:aG (k)=some (mtx (k)):=mt q0.1 (Int.lt_of_add_one_le q1.2)
 have w0:=wk2 q0
 have w1:=wk2 q1
 refine ⟨⟨(mtx (k)),k+1⟩,fun n pre post hl => ?_,fun n l i hi hl => ?_⟩
 ·have hl':=le_max hl
  have hp:pre.length<9223372036854775807:=by simp at hl';omega
  simp only [cY]
  rw [if_pos (aAp pre post x)]
  simp (maxSteps:=2000000) only [rZ,rX,Option.bind_some,bD hp,t0,w0,w1]
  rw [hE]
 ·have hl':=le_max hl
  have hp:i<9223372036854775807:=by have:=(List.getElem?_eq_some_iff.1 hi).1;omega
  simp only [eL]
  rw [if_pos (aCh hi)]
  simp (maxSteps:=2000000) only [aAr hi,Option.bind_some,bD hp,t0,w0,w1,bne_self_eq_false,beq_self_eq_true,Bool.not_true,Bool.false_eq_true,if_false]
  rw [hE]
theorem M.aE7.hO (xs:List M.Field) (hx:(xs.length≤maxLen ∧ ∀y∈xs,M.Field.ok y)) (k:Int) (h0:0≤k) (hB:k+((aF M.Field.cnt xs:Nat):Int)≤KB) : ∃ys,rK xs k=some (ys,k+((aF M.Field.cnt xs:Nat):Int))∧qO ys k=some (k+((aF M.Field.cnt xs:Nat):Int))∧ys.length=xs.length:=by
 have hm:=le_max hx.1
 obtain ⟨ys,h1,h2,h3⟩:=lE (ML:=cY) (HL:=eL) (c:=M.Field.cnt) (ok:=M.Field.ok) (fun x hx k h0 hB=>M.Field.pP x hx k h0 hB) (fun n k l=>by simp only [cY];rw [if_neg (by rw [aP];simp)]) (fun n k l=>by simp only [eL];rw [if_neg (by rw [aP];simp)]) xs [] fuel k (by simpa using hx.1) (by unfold fuel;omega) hx.2 h0 hB
 refine ⟨ys,by unfold rK;simpa using h2,by unfold qO;simpa using h3 fuel (by unfold fuel;omega),h1⟩
def M.Item.cnt (x:M.Item):Nat:=3+(aF M.Field.cnt x.aU.Fields)
set_option maxHeartbeats 4000000 in
theorem M.Item.pP (x:M.Item) (hx:M.Item.ok x) (k:Int) (h0:0≤k) (hB:k+((M.Item.cnt x:Nat):Int)≤KB) : ∃x':M.Item,(∀n (pre post:List M.Item),(pre++x::post).length≤maxLen→dX (n+1) k pre.length (pre++x::post)=dX n (k+((M.Item.cnt x:Nat):Int)) ((pre.length+1:Nat):Int) (pre++x'::post)) ∧ ∀n (l:List M.Item) (i:Nat),l[i]? = some x'→l.length≤maxLen→fH l (n+1) k i=fH l n (k+((M.Item.cnt x:Nat):Int)) ((i+1:Nat):Int):=by
 unfold KB at hB;unfold M.Item.cnt at hB ⊢
 have A:(0≤k∧k≤KB)∧(0≤k+1∧k+1≤KB)∧(0≤k+1+1∧k+1+1≤KB)∧(0≤k+1+1+1∧k+1+1+1≤KB)∧(0≤k+1+1+1+((aF M.Field.cnt x.aU.Fields:Nat):Int)∧k+1+1+1+((aF M.Field.cnt x.aU.Fields:Nat):Int)≤KB):=by
  unfold KB
  refine ⟨?_,?_,?_,?_,?_⟩<;>omega
 have hE:k+1+1+1+((aF M.Field.cnt x.aU.Fields:Nat):Int)=k+((M.Item.cnt x:Nat):Int):=by unfold M.Item.cnt;omega
 unfold M.Item.cnt at hE
 obtain ⟨q0,q1,q2,q3,q4⟩:=A
 have w0:=wk2 q0
 have w1:=wk2 q1
 have t2:aG (k+1+1)=some (mtx (k+1+1)):=mt q2.1 (Int.lt_of_add_one_le q3.2)
 have w2:=wk2 q2
 obtain ⟨y1,a1,b1,_⟩:=M.aE7.hO _ hx.aU.Fields (k+1+1+1) q3.1 q4.2
 have d1:(decide (k+1+1+1+((aF M.Field.cnt x.aU.Fields:Nat):Int)<0))=false:=dk q4.1
 refine ⟨⟨⟨k,k+1,(mtx (k+1+1))⟩,⟨y1⟩⟩,fun n pre post hl => ?_,fun n l i hi hl => ?_⟩
 ·have hl':=le_max hl
  have hp:pre.length<9223372036854775807:=by simp at hl';omega
  simp only [dX]
  rw [if_pos (aAp pre post x)]
  simp (maxSteps:=2000000) only [rZ,rX,Option.bind_some,bD hp,w0,w1,t2,w2,a1]
  rw [hE]
 ·have hl':=le_max hl
  have hp:i<9223372036854775807:=by have:=(List.getElem?_eq_some_iff.1 hi).1;omega
  simp only [fH]
  rw [if_pos (aCh hi)]
  simp (maxSteps:=2000000) only [aAr hi,Option.bind_some,bD hp,w0,w1,t2,w2,b1,d1,bne_self_eq_false,beq_self_eq_true,Bool.not_true,Bool.false_eq_true,if_false]
  rw [hE]
theorem M.aFN.hO (xs:List M.Item) (hx:(xs.length≤maxLen ∧ ∀y∈xs,M.Item.ok y)) (k:Int) (h0:0≤k) (hB:k+((aF M.Item.cnt xs:Nat):Int)≤KB) : ∃ys,lG xs k=some (ys,k+((aF M.Item.cnt xs:Nat):Int))∧lH ys k=some (k+((aF M.Item.cnt xs:Nat):Int))∧ys.length=xs.length:=by
 have hm:=le_max hx.1
 obtain ⟨ys,h1,h2,h3⟩:=lE (ML:=dX) (HL:=fH) (c:=M.Item.cnt) (ok:=M.Item.ok) (fun x hx k h0 hB=>M.Item.pP x hx k h0 hB) (fun n k l=>by simp only [dX];rw [if_neg (by rw [aP];simp)]) (fun n k l=>by simp only [fH];rw [if_neg (by rw [aP];simp)]) xs [] fuel k (by simpa using hx.1) (by unfold fuel;omega) hx.2 h0 hB
 refine ⟨ys,by unfold lG;simpa using h2,by unfold lH;simpa using h3 fuel (by unfold fuel;omega),h1⟩
def M.aH.cnt (x:M.aH):Nat:=2+(aF M.Item.cnt x.Items)
set_option maxHeartbeats 4000000 in
theorem M.aH.pP (x:M.aH) (hx:M.aH.ok x) (k:Int) (h0:0≤k) (hB:k+((M.aH.cnt x:Nat):Int)≤KB) : ∃x':M.aH,(∀n (pre post:List M.aH),(pre++x::post).length≤maxLen→dB (n+1) k pre.length (pre++x::post)=dB n (k+((M.aH.cnt x:Nat):Int)) ((pre.length+1:Nat):Int) (pre++x'::post)) ∧ ∀n (l:List M.aH) (i:Nat),l[i]? = some x'→l.length≤maxLen→eJ l (n+1) k i=eJ l n (k+((M.aH.cnt x:Nat):Int)) ((i+1:Nat):Int):=by
 unfold KB at hB;unfold M.aH.cnt at hB ⊢
 have A:(0≤k∧k≤KB)∧(0≤k+1∧k+1≤KB)∧(0≤k+1+((aF M.Item.cnt x.Items:Nat):Int)∧k+1+((aF M.Item.cnt x.Items:Nat):Int)≤KB)∧(0≤k+1+((aF M.Item.cnt x.Items:Nat):Int)+1∧k+1+((aF M.Item.cnt x.Items:Nat):Int)+1≤KB):=by
  unfold KB
  refine ⟨?_,?_,?_,?_⟩<;>omega
 have hE:k+1+((aF M.Item.cnt x.Items:Nat):Int)+1=k+((M.aH.cnt x:Nat):Int):=by unfold M.aH.cnt;omega
 unfold M.aH.cnt at hE
 obtain ⟨q0,q1,q2,q3⟩:=A
 have t0:aG (k)=some (mtx (k)):=mt q0.1 (Int.lt_of_add_one_le q1.2)
 have w0:=wk2 q0
 obtain ⟨y1,a1,b1,_⟩:=M.aFN.hO _ hx.Items (k+1) q1.1 q2.2
 have d1:(decide (k+1+((aF M.Item.cnt x.Items:Nat):Int)<0))=false:=dk q2.1
 have w2:=wk2 q2
 refine ⟨⟨(mtx (k)),y1,k+1+((aF M.Item.cnt x.Items:Nat):Int)⟩,fun n pre post hl => ?_,fun n l i hi hl => ?_⟩
 ·have hl':=le_max hl
  have hp:pre.length<9223372036854775807:=by simp at hl';omega
  simp only [dB]
  rw [if_pos (aAp pre post x)]
  simp (maxSteps:=2000000) only [rZ,rX,Option.bind_some,bD hp,t0,w0,a1,w2]
  rw [hE]
 ·have hl':=le_max hl
  have hp:i<9223372036854775807:=by have:=(List.getElem?_eq_some_iff.1 hi).1;omega
  simp only [eJ]
  rw [if_pos (aCh hi)]
  simp (maxSteps:=2000000) only [aAr hi,Option.bind_some,bD hp,t0,w0,b1,d1,w2,bne_self_eq_false,beq_self_eq_true,Bool.not_true,Bool.false_eq_true,if_false]
  rw [hE]
theorem M.aEO.hO (xs:List M.aH) (hx:(xs.length≤maxLen ∧ ∀y∈xs,M.aH.ok y)) (k:Int) (h0:0≤k) (hB:k+((aF M.aH.cnt xs:Nat):Int)≤KB) : ∃ys,qL xs k=some (ys,k+((aF M.aH.cnt xs:Nat):Int))∧qA ys k=some (k+((aF M.aH.cnt xs:Nat):Int))∧ys.length=xs.length:=by
 have hm:=le_max hx.1
 obtain ⟨ys,h1,h2,h3⟩:=lE (ML:=dB) (HL:=eJ) (c:=M.aH.cnt) (ok:=M.aH.ok) (fun x hx k h0 hB=>M.aH.pP x hx k h0 hB) (fun n k l=>by simp only [dB];rw [if_neg (by rw [aP];simp)]) (fun n k l=>by simp only [eJ];rw [if_neg (by rw [aP];simp)]) xs [] fuel k (by simpa using hx.1) (by unfold fuel;omega) hx.2 h0 hB
 refine ⟨ys,by unfold qL;simpa using h2,by unfold qA;simpa using h3 fuel (by unfold fuel;omega),h1⟩
def M.aD.cnt (x:M.aD):Nat:=2
set_option maxHeartbeats 4000000 in
theorem M.aD.pP (x:M.aD) (hx:M.aD.ok x) (k:Int) (h0:0≤k) (hB:k+((M.aD.cnt x:Nat):Int)≤KB) : ∃x':M.aD,(∀n (pre post:List M.aD),(pre++x::post).length≤maxLen→bU (n+1) k pre.length (pre++x::post)=bU n (k+((M.aD.cnt x:Nat):Int)) ((pre.length+1:Nat):Int) (pre++x'::post)) ∧ ∀n (l:List M.aD) (i:Nat),l[i]? = some x'→l.length≤maxLen→cH l (n+1) k i=cH l n (k+((M.aD.cnt x:Nat):Int)) ((i+1:Nat):Int):=by
 unfold KB at hB;unfold M.aD.cnt at hB ⊢
 have A:(0≤k∧k≤KB)∧(0≤k+1∧k+1≤KB)∧(0≤k+1+1∧k+1+1≤KB):=by
  unfold KB
  refine ⟨?_,?_,?_⟩<;>omega
 have hE:k+1+1=k+((M.aD.cnt x:Nat):Int):=by unfold M.aD.cnt;omega
 unfold M.aD.cnt at hE
 obtain ⟨q0,q1,q2⟩:=A
 have t0:aG (k)=some (mtx (k)):=mt q0.1 (Int.lt_of_add_one_le q1.2)
 have w0:=wk2 q0
 have t1:aG (k+1)=some (mtx (k+1)):=mt q1.1 (Int.lt_of_add_one_le q2.2)
 have w1:=wk2 q1
 refine ⟨⟨(mtx (k)),(mtx (k+1))⟩,fun n pre post hl => ?_,fun n l i hi hl => ?_⟩
 ·have hl':=le_max hl
  have hp:pre.length<9223372036854775807:=by simp at hl';omega
  simp only [bU]
  rw [if_pos (aAp pre post x)]
  simp (maxSteps:=2000000) only [rZ,rX,Option.bind_some,bD hp,t0,w0,t1,w1]
  rw [hE]
 ·have hl':=le_max hl
  have hp:i<9223372036854775807:=by have:=(List.getElem?_eq_some_iff.1 hi).1;omega
  simp only [cH]
  rw [if_pos (aCh hi)]
  simp (maxSteps:=2000000) only [aAr hi,Option.bind_some,bD hp,t0,w0,t1,w1,bne_self_eq_false,beq_self_eq_true,Bool.not_true,Bool.false_eq_true,if_false]
  rw [hE]
theorem M.aBL.hO (xs:List M.aD) (hx:(xs.length≤maxLen ∧ ∀y∈xs,M.aD.ok y)) (k:Int) (h0:0≤k) (hB:k+((aF M.aD.cnt xs:Nat):Int)≤KB) : ∃ys,lQ xs k=some (ys,k+((aF M.aD.cnt xs:Nat):Int))∧lP ys k=some (k+((aF M.aD.cnt xs:Nat):Int))∧ys.length=xs.length:=by
 have hm:=le_max hx.1
 obtain ⟨ys,h1,h2,h3⟩:=lE (ML:=bU) (HL:=cH) (c:=M.aD.cnt) (ok:=M.aD.ok) (fun x hx k h0 hB=>M.aD.pP x hx k h0 hB) (fun n k l=>by simp only [bU];rw [if_neg (by rw [aP];simp)]) (fun n k l=>by simp only [cH];rw [if_neg (by rw [aP];simp)]) xs [] fuel k (by simpa using hx.1) (by unfold fuel;omega) hx.2 h0 hB
 refine ⟨ys,by unfold lQ;simpa using h2,by unfold lP;simpa using h3 fuel (by unfold fuel;omega),h1⟩
def M.aY.cnt (x:M.aY):Nat:=7
set_option maxHeartbeats 4000000 in
theorem M.aY.pP (x:M.aY) (hx:M.aY.ok x) (k:Int) (h0:0≤k) (hB:k+((M.aY.cnt x:Nat):Int)≤KB) : ∃x':M.aY,(∀n (pre post:List M.aY),(pre++x::post).length≤maxLen→dA (n+1) k pre.length (pre++x::post)=dA n (k+((M.aY.cnt x:Nat):Int)) ((pre.length+1:Nat):Int) (pre++x'::post)) ∧ ∀n (l:List M.aY) (i:Nat),l[i]? = some x'→l.length≤maxLen→eG l (n+1) k i=eG l n (k+((M.aY.cnt x:Nat):Int)) ((i+1:Nat):Int):=by
 unfold KB at hB;unfold M.aY.cnt at hB ⊢
 have A:(0≤k∧k≤KB)∧(0≤k+1∧k+1≤KB)∧(0≤k+1+1∧k+1+1≤KB)∧(0≤k+1+1+1∧k+1+1+1≤KB)∧(0≤k+1+1+1+1∧k+1+1+1+1≤KB)∧(0≤k+1+1+1+1+1∧k+1+1+1+1+1≤KB)∧(0≤k+1+1+1+1+1+1∧k+1+1+1+1+1+1≤KB)∧(0≤k+1+1+1+1+1+1+1∧k+1+1+1+1+1+1+1≤KB):=by
  unfold KB
  refine ⟨?_,?_,?_,?_,?_,?_,?_,?_⟩<;>omega
 have hE:k+1+1+1+1+1+1+1=k+((M.aY.cnt x:Nat):Int):=by unfold M.aY.cnt;omega
 unfold M.aY.cnt at hE
 obtain ⟨q0,q1,q2,q3,q4,q5,q6,q7⟩:=A
 have w0:=wk2 q0
 have w1:=wk2 q1
 have w2:=wk2 q2
 have w3:=wk2 q3
 have t4:aG (k+1+1+1+1)=some (mtx (k+1+1+1+1)):=mt q4.1 (Int.lt_of_add_one_le q5.2)
 have w4:=wk2 q4
 have t5:aG (k+1+1+1+1+1)=some (mtx (k+1+1+1+1+1)):=mt q5.1 (Int.lt_of_add_one_le q6.2)
 have w5:=wk2 q5
 have w6:=wk2 q6
 refine ⟨⟨k,k+1,⟨k+1+1,k+1+1+1,(mtx (k+1+1+1+1))⟩,(mtx (k+1+1+1+1+1)),k+1+1+1+1+1+1⟩,fun n pre post hl => ?_,fun n l i hi hl => ?_⟩
 ·have hl':=le_max hl
  have hp:pre.length<9223372036854775807:=by simp at hl';omega
  simp only [dA]
  rw [if_pos (aAp pre post x)]
  simp (maxSteps:=2000000) only [rZ,rX,Option.bind_some,bD hp,w0,w1,w2,w3,t4,w4,t5,w5,w6]
  rw [hE]
 ·have hl':=le_max hl
  have hp:i<9223372036854775807:=by have:=(List.getElem?_eq_some_iff.1 hi).1;omega
  simp only [eG]
  rw [if_pos (aCh hi)]
  simp (maxSteps:=2000000) only [aAr hi,Option.bind_some,bD hp,w0,w1,w2,w3,t4,w4,t5,w5,w6,bne_self_eq_false,beq_self_eq_true,Bool.not_true,Bool.false_eq_true,if_false]
  rw [hE]
theorem M.aCG.hO (xs:List M.aY) (hx:(xs.length≤maxLen ∧ ∀y∈xs,M.aY.ok y)) (k:Int) (h0:0≤k) (hB:k+((aF M.aY.cnt xs:Nat):Int)≤KB) : ∃ys,mF xs k=some (ys,k+((aF M.aY.cnt xs:Nat):Int))∧mI ys k=some (k+((aF M.aY.cnt xs:Nat):Int))∧ys.length=xs.length:=by
 have hm:=le_max hx.1
 obtain ⟨ys,h1,h2,h3⟩:=lE (ML:=dA) (HL:=eG) (c:=M.aY.cnt) (ok:=M.aY.ok) (fun x hx k h0 hB=>M.aY.pP x hx k h0 hB) (fun n k l=>by simp only [dA];rw [if_neg (by rw [aP];simp)]) (fun n k l=>by simp only [eG];rw [if_neg (by rw [aP];simp)]) xs [] fuel k (by simpa using hx.1) (by unfold fuel;omega) hx.2 h0 hB
 refine ⟨ys,by unfold mF;simpa using h2,by unfold mI;simpa using h3 fuel (by unfold fuel;omega),h1⟩
def M.aA.cnt (x:M.aA):Nat:=18+(aF M.Cache.cnt x.Caches.Caches)+(aF M.aH.cnt x.bB.Base.Stores)+(aF M.aD.cnt x.bB.Base.Unique)+(x.bB.Log.length)+(aF M.Item.cnt x.aE.Base.Items)+(aF M.aY.cnt x.aE.Sync.aV.Writes)
set_option maxHeartbeats 4000000 in
theorem M.aA.pP (x:M.aA) (hx:M.aA.ok x) (k:Int) (h0:0≤k) (hB:k+((M.aA.cnt x:Nat):Int)≤KB) : ∃x':M.aA,(∀n (pre post:List M.aA),(pre++x::post).length≤maxLen→cR (n+1) k pre.length (pre++x::post)=cR n (k+((M.aA.cnt x:Nat):Int)) ((pre.length+1:Nat):Int) (pre++x'::post)) ∧ ∀n (l:List M.aA) (i:Nat),l[i]? = some x'→l.length≤maxLen→cP l (n+1) k i=cP l n (k+((M.aA.cnt x:Nat):Int)) ((i+1:Nat):Int):=by
 unfold KB at hB;unfold M.aA.cnt at hB ⊢
 have A:(0≤k∧k≤KB)∧(0≤k+1∧k+1≤KB)∧(0≤k+1+1∧k+1+1≤KB)∧(0≤k+1+1+1∧k+1+1+1≤KB)∧(0≤k+1+1+1+1∧k+1+1+1+1≤KB)∧(0≤k+1+1+1+1+1∧k+1+1+1+1+1≤KB)∧(0≤k+1+1+1+1+1+1∧k+1+1+1+1+1+1≤KB)∧(0≤k+1+1+1+1+1+1+((aF M.Cache.cnt x.Caches.Caches:Nat):Int)∧k+1+1+1+1+1+1+((aF M.Cache.cnt x.Caches.Caches:Nat):Int)≤KB)∧(0≤k+1+1+1+1+1+1+((aF M.Cache.cnt x.Caches.Caches:Nat):Int)+1∧k+1+1+1+1+1+1+((aF M.Cache.cnt x.Caches.Caches:Nat):Int)+1≤KB)∧(0≤k+1+1+1+1+1+1+((aF M.Cache.cnt x.Caches.Caches:Nat):Int)+1+1∧k+1+1+1+1+1+1+((aF M.Cache.cnt x.Caches.Caches:Nat):Int)+1+1≤KB)∧(0≤k+1+1+1+1+1+1+((aF M.Cache.cnt x.Caches.Caches:Nat):Int)+1+1+((aF M.aH.cnt x.bB.Base.Stores:Nat):Int)∧k+1+1+1+1+1+1+((aF M.Cache.cnt x.Caches.Caches:Nat):Int)+1+1+((aF M.aH.cnt x.bB.Base.Stores:Nat):Int)≤KB)∧(0≤k+1+1+1+1+1+1+((aF M.Cache.cnt x.Caches.Caches:Nat):Int)+1+1+((aF M.aH.cnt x.bB.Base.Stores:Nat):Int)+((aF M.aD.cnt x.bB.Base.Unique:Nat):Int)∧k+1+1+1+1+1+1+((aF M.Cache.cnt x.Caches.Caches:Nat):Int)+1+1+((aF M.aH.cnt x.bB.Base.Stores:Nat):Int)+((aF M.aD.cnt x.bB.Base.Unique:Nat):Int)≤KB)∧(0≤k+1+1+1+1+1+1+((aF M.Cache.cnt x.Caches.Caches:Nat):Int)+1+1+((aF M.aH.cnt x.bB.Base.Stores:Nat):Int)+((aF M.aD.cnt x.bB.Base.Unique:Nat):Int)+((x.bB.Log.length:Nat):Int)∧k+1+1+1+1+1+1+((aF M.Cache.cnt x.Caches.Caches:Nat):Int)+1+1+((aF M.aH.cnt x.bB.Base.Stores:Nat):Int)+((aF M.aD.cnt x.bB.Base.Unique:Nat):Int)+((x.bB.Log.length:Nat):Int)≤KB)∧(0≤k+1+1+1+1+1+1+((aF M.Cache.cnt x.Caches.Caches:Nat):Int)+1+1+((aF M.aH.cnt x.bB.Base.Stores:Nat):Int)+((aF M.aD.cnt x.bB.Base.Unique:Nat):Int)+((x.bB.Log.length:Nat):Int)+1∧k+1+1+1+1+1+1+((aF M.Cache.cnt x.Caches.Caches:Nat):Int)+1+1+((aF M.aH.cnt x.bB.Base.Stores:Nat):Int)+((aF M.aD.cnt x.bB.Base.Unique:Nat):Int)+((x.bB.Log.length:Nat):Int)+1≤KB)∧(0≤k+1+1+1+1+1+1+((aF M.Cache.cnt x.Caches.Caches:Nat):Int)+1+1+((aF M.aH.cnt x.bB.Base.Stores:Nat):Int)+((aF M.aD.cnt x.bB.Base.Unique:Nat):Int)+((x.bB.Log.length:Nat):Int)+1+1∧k+1+1+1+1+1+1+((aF M.Cache.cnt x.Caches.Caches:Nat):Int)+1+1+((aF M.aH.cnt x.bB.Base.Stores:Nat):Int)+((aF M.aD.cnt x.bB.Base.Unique:Nat):Int)+((x.bB.Log.length:Nat):Int)+1+1≤KB)∧(0≤k+1+1+1+1+1+1+((aF M.Cache.cnt x.Caches.Caches:Nat):Int)+1+1+((aF M.aH.cnt x.bB.Base.Stores:Nat):Int)+((aF M.aD.cnt x.bB.Base.Unique:Nat):Int)+((x.bB.Log.length:Nat):Int)+1+1+((aF M.Item.cnt x.aE.Base.Items:Nat):Int)∧k+1+1+1+1+1+1+((aF M.Cache.cnt x.Caches.Caches:Nat):Int)+1+1+((aF M.aH.cnt x.bB.Base.Stores:Nat):Int)+((aF M.aD.cnt x.bB.Base.Unique:Nat):Int)+((x.bB.Log.length:Nat):Int)+1+1+((aF M.Item.cnt x.aE.Base.Items:Nat):Int)≤KB)∧(0≤k+1+1+1+1+1+1+((aF M.Cache.cnt x.Caches.Caches:Nat):Int)+1+1+((aF M.aH.cnt x.bB.Base.Stores:Nat):Int)+((aF M.aD.cnt x.bB.Base.Unique:Nat):Int)+((x.bB.Log.length:Nat):Int)+1+1+((aF M.Item.cnt x.aE.Base.Items:Nat):Int)+1∧k+1+1+1+1+1+1+((aF M.Cache.cnt x.Caches.Caches:Nat):Int)+1+1+((aF M.aH.cnt x.bB.Base.Stores:Nat):Int)+((aF M.aD.cnt x.bB.Base.Unique:Nat):Int)+((x.bB.Log.length:Nat):Int)+1+1+((aF M.Item.cnt x.aE.Base.Items:Nat):Int)+1≤KB)∧(0≤k+1+1+1+1+1+1+((aF M.Cache.cnt x.Caches.Caches:Nat):Int)+1+1+((aF M.aH.cnt x.bB.Base.Stores:Nat):Int)+((aF M.aD.cnt x.bB.Base.Unique:Nat):Int)+((x.bB.Log.length:Nat):Int)+1+1+((aF M.Item.cnt x.aE.Base.Items:Nat):Int)+1+1∧k+1+1+1+1+1+1+((aF M.Cache.cnt x.Caches.Caches:Nat):Int)+1+1+((aF M.aH.cnt x.bB.Base.Stores:Nat):Int)+((aF M.aD.cnt x.bB.Base.Unique:Nat):Int)+((x.bB.Log.length:Nat):Int)+1+1+((aF M.Item.cnt x.aE.Base.Items:Nat):Int)+1+1≤KB)∧(0≤k+1+1+1+1+1+1+((aF M.Cache.cnt x.Caches.Caches:Nat):Int)+1+1+((aF M.aH.cnt x.bB.Base.Stores:Nat):Int)+((aF M.aD.cnt x.bB.Base.Unique:Nat):Int)+((x.bB.Log.length:Nat):Int)+1+1+((aF M.Item.cnt x.aE.Base.Items:Nat):Int)+1+1+1∧k+1+1+1+1+1+1+((aF M.Cache.cnt x.Caches.Caches:Nat):Int)+1+1+((aF M.aH.cnt x.bB.Base.Stores:Nat):Int)+((aF M.aD.cnt x.bB.Base.Unique:Nat):Int)+((x.bB.Log.length:Nat):Int)+1+1+((aF M.Item.cnt x.aE.Base.Items:Nat):Int)+1+1+1≤KB)∧(0≤k+1+1+1+1+1+1+((aF M.Cache.cnt x.Caches.Caches:Nat):Int)+1+1+((aF M.aH.cnt x.bB.Base.Stores:Nat):Int)+((aF M.aD.cnt x.bB.Base.Unique:Nat):Int)+((x.bB.Log.length:Nat):Int)+1+1+((aF M.Item.cnt x.aE.Base.Items:Nat):Int)+1+1+1+1∧k+1+1+1+1+1+1+((aF M.Cache.cnt x.Caches.Caches:Nat):Int)+1+1+((aF M.aH.cnt x.bB.Base.Stores:Nat):Int)+((aF M.aD.cnt x.bB.Base.Unique:Nat):Int)+((x.bB.Log.length:Nat):Int)+1+1+((aF M.Item.cnt x.aE.Base.Items:Nat):Int)+1+1+1+1≤KB)∧(0≤k+1+1+1+1+1+1+((aF M.Cache.cnt x.Caches.Caches:Nat):Int)+1+1+((aF M.aH.cnt x.bB.Base.Stores:Nat):Int)+((aF M.aD.cnt x.bB.Base.Unique:Nat):Int)+((x.bB.Log.length:Nat):Int)+1+1+((aF M.Item.cnt x.aE.Base.Items:Nat):Int)+1+1+1+1+((aF M.aY.cnt x.aE.Sync.aV.Writes:Nat):Int)∧k+1+1+1+1+1+1+((aF M.Cache.cnt x.Caches.Caches:Nat):Int)+1+1+((aF M.aH.cnt x.bB.Base.Stores:Nat):Int)+((aF M.aD.cnt x.bB.Base.Unique:Nat):Int)+((x.bB.Log.length:Nat):Int)+1+1+((aF M.Item.cnt x.aE.Base.Items:Nat):Int)+1+1+1+1+((aF M.aY.cnt x.aE.Sync.aV.Writes:Nat):Int)≤KB)∧(0≤k+1+1+1+1+1+1+((aF M.Cache.cnt x.Caches.Caches:Nat):Int)+1+1+((aF M.aH.cnt x.bB.Base.Stores:Nat):Int)+((aF M.aD.cnt x.bB.Base.Unique:Nat):Int)+((x.bB.Log.length:Nat):Int)+1+1+((aF M.Item.cnt x.aE.Base.Items:Nat):Int)+1+1+1+1+((aF M.aY.cnt x.aE.Sync.aV.Writes:Nat):Int)+1∧k+1+1+1+1+1+1+((aF M.Cache.cnt x.Caches.Caches:Nat):Int)+1+1+((aF M.aH.cnt x.bB.Base.Stores:Nat):Int)+((aF M.aD.cnt x.bB.Base.Unique:Nat):Int)+((x.bB.Log.length:Nat):Int)+1+1+((aF M.Item.cnt x.aE.Base.Items:Nat):Int)+1+1+1+1+((aF M.aY.cnt x.aE.Sync.aV.Writes:Nat):Int)+1≤KB)∧(0≤k+1+1+1+1+1+1+((aF M.Cache.cnt x.Caches.Caches:Nat):Int)+1+1+((aF M.aH.cnt x.bB.Base.Stores:Nat):Int)+((aF M.aD.cnt x.bB.Base.Unique:Nat):Int)+((x.bB.Log.length:Nat):Int)+1+1+((aF M.Item.cnt x.aE.Base.Items:Nat):Int)+1+1+1+1+((aF M.aY.cnt x.aE.Sync.aV.Writes:Nat):Int)+1+1∧k+1+1+1+1+1+1+((aF M.Cache.cnt x.Caches.Caches:Nat):Int)+1+1+((aF M.aH.cnt x.bB.Base.Stores:Nat):Int)+((aF M.aD.cnt x.bB.Base.Unique:Nat):Int)+((x.bB.Log.length:Nat):Int)+1+1+((aF M.Item.cnt x.aE.Base.Items:Nat):Int)+1+1+1+1+((aF M.aY.cnt x.aE.Sync.aV.Writes:Nat):Int)+1+1≤KB)∧(0≤k+1+1+1+1+1+1+((aF M.Cache.cnt x.Caches.Caches:Nat):Int)+1+1+((aF M.aH.cnt x.bB.Base.Stores:Nat):Int)+((aF M.aD.cnt x.bB.Base.Unique:Nat):Int)+((x.bB.Log.length:Nat):Int)+1+1+((aF M.Item.cnt x.aE.Base.Items:Nat):Int)+1+1+1+1+((aF M.aY.cnt x.aE.Sync.aV.Writes:Nat):Int)+1+1+1∧k+1+1+1+1+1+1+((aF M.Cache.cnt x.Caches.Caches:Nat):Int)+1+1+((aF M.aH.cnt x.bB.Base.Stores:Nat):Int)+((aF M.aD.cnt x.bB.Base.Unique:Nat):Int)+((x.bB.Log.length:Nat):Int)+1+1+((aF M.Item.cnt x.aE.Base.Items:Nat):Int)+1+1+1+1+((aF M.aY.cnt x.aE.Sync.aV.Writes:Nat):Int)+1+1+1≤KB)∧(0≤k+1+1+1+1+1+1+((aF M.Cache.cnt x.Caches.Caches:Nat):Int)+1+1+((aF M.aH.cnt x.bB.Base.Stores:Nat):Int)+((aF M.aD.cnt x.bB.Base.Unique:Nat):Int)+((x.bB.Log.length:Nat):Int)+1+1+((aF M.Item.cnt x.aE.Base.Items:Nat):Int)+1+1+1+1+((aF M.aY.cnt x.aE.Sync.aV.Writes:Nat):Int)+1+1+1+1∧k+1+1+1+1+1+1+((aF M.Cache.cnt x.Caches.Caches:Nat):Int)+1+1+((aF M.aH.cnt x.bB.Base.Stores:Nat):Int)+((aF M.aD.cnt x.bB.Base.Unique:Nat):Int)+((x.bB.Log.length:Nat):Int)+1+1+((aF M.Item.cnt x.aE.Base.Items:Nat):Int)+1+1+1+1+((aF M.aY.cnt x.aE.Sync.aV.Writes:Nat):Int)+1+1+1+1≤KB):=by
  unfold KB
  refine ⟨?_,?_,?_,?_,?_,?_,?_,?_,?_,?_,?_,?_,?_,?_,?_,?_,?_,?_,?_,?_,?_,?_,?_,?_,?_⟩<;>omega
 have hE:k+1+1+1+1+1+1+((aF M.Cache.cnt x.Caches.Caches:Nat):Int)+1+1+((aF M.aH.cnt x.bB.Base.Stores:Nat):Int)+((aF M.aD.cnt x.bB.Base.Unique:Nat):Int)+((x.bB.Log.length:Nat):Int)+1+1+((aF M.Item.cnt x.aE.Base.Items:Nat):Int)+1+1+1+1+((aF M.aY.cnt x.aE.Sync.aV.Writes:Nat):Int)+1+1+1+1=k+((M.aA.cnt x:Nat):Int):=by unfold M.aA.cnt;omega
 unfold M.aA.cnt at hE
 obtain ⟨q0,q1,q2,q3,q4,q5,q6,q7,q8,q9,q10,q11,q12,q13,q14,q15,q16,q17,q18,q19,q20,q21,q22,q23,q24⟩:=A
 have t0:aG (k)=some (mtx (k)):=mt q0.1 (Int.lt_of_add_one_le q1.2)
 have w0:=wk2 q0
 have t1:aG (k+1)=some (mtx (k+1)):=mt q1.1 (Int.lt_of_add_one_le q2.2)
 have w1:=wk2 q1
 have t2:aG (k+1+1)=some (mtx (k+1+1)):=mt q2.1 (Int.lt_of_add_one_le q3.2)
 have w2:=wk2 q2
 have w3:=wk2 q3
 have w4:=wk2 q4
 have w5:=wk2 q5
 obtain ⟨y1,a1,b1,_⟩:=M.aEd.hO _ hx.Caches.Caches (k+1+1+1+1+1+1) q6.1 q7.2
 have d1:(decide (k+1+1+1+1+1+1+((aF M.Cache.cnt x.Caches.Caches:Nat):Int)<0))=false:=dk q7.1
 have t7:aG (k+1+1+1+1+1+1+((aF M.Cache.cnt x.Caches.Caches:Nat):Int))=some (mtx (k+1+1+1+1+1+1+((aF M.Cache.cnt x.Caches.Caches:Nat):Int))):=mt q7.1 (Int.lt_of_add_one_le q8.2)
 have w7:=wk2 q7
 have w8:=wk2 q8
 obtain ⟨y2,a2,b2,_⟩:=M.aEO.hO _ hx.bB.Base.Stores (k+1+1+1+1+1+1+((aF M.Cache.cnt x.Caches.Caches:Nat):Int)+1+1) q9.1 q10.2
 have d2:(decide (k+1+1+1+1+1+1+((aF M.Cache.cnt x.Caches.Caches:Nat):Int)+1+1+((aF M.aH.cnt x.bB.Base.Stores:Nat):Int)<0))=false:=dk q10.1
 obtain ⟨y3,a3,b3,_⟩:=M.aBL.hO _ hx.bB.Base.Unique (k+1+1+1+1+1+1+((aF M.Cache.cnt x.Caches.Caches:Nat):Int)+1+1+((aF M.aH.cnt x.bB.Base.Stores:Nat):Int)) q10.1 q11.2
 have d3:(decide (k+1+1+1+1+1+1+((aF M.Cache.cnt x.Caches.Caches:Nat):Int)+1+1+((aF M.aH.cnt x.bB.Base.Stores:Nat):Int)+((aF M.aD.cnt x.bB.Base.Unique:Nat):Int)<0))=false:=dk q11.1
 obtain ⟨y4,a4,b4,_⟩:=M.aCg.hO _ hx.bB.Log (k+1+1+1+1+1+1+((aF M.Cache.cnt x.Caches.Caches:Nat):Int)+1+1+((aF M.aH.cnt x.bB.Base.Stores:Nat):Int)+((aF M.aD.cnt x.bB.Base.Unique:Nat):Int)) q11.1 q12.2
 have d4:(decide (k+1+1+1+1+1+1+((aF M.Cache.cnt x.Caches.Caches:Nat):Int)+1+1+((aF M.aH.cnt x.bB.Base.Stores:Nat):Int)+((aF M.aD.cnt x.bB.Base.Unique:Nat):Int)+((x.bB.Log.length:Nat):Int)<0))=false:=dk q12.1
 have w12:=wk2 q12
 have t13:aG (k+1+1+1+1+1+1+((aF M.Cache.cnt x.Caches.Caches:Nat):Int)+1+1+((aF M.aH.cnt x.bB.Base.Stores:Nat):Int)+((aF M.aD.cnt x.bB.Base.Unique:Nat):Int)+((x.bB.Log.length:Nat):Int)+1)=some (mtx (k+1+1+1+1+1+1+((aF M.Cache.cnt x.Caches.Caches:Nat):Int)+1+1+((aF M.aH.cnt x.bB.Base.Stores:Nat):Int)+((aF M.aD.cnt x.bB.Base.Unique:Nat):Int)+((x.bB.Log.length:Nat):Int)+1)):=mt q13.1 (Int.lt_of_add_one_le q14.2)
 have w13:=wk2 q13
 obtain ⟨y5,a5,b5,_⟩:=M.aFN.hO _ hx.aE.Base.Items (k+1+1+1+1+1+1+((aF M.Cache.cnt x.Caches.Caches:Nat):Int)+1+1+((aF M.aH.cnt x.bB.Base.Stores:Nat):Int)+((aF M.aD.cnt x.bB.Base.Unique:Nat):Int)+((x.bB.Log.length:Nat):Int)+1+1) q14.1 q15.2
 have d5:(decide (k+1+1+1+1+1+1+((aF M.Cache.cnt x.Caches.Caches:Nat):Int)+1+1+((aF M.aH.cnt x.bB.Base.Stores:Nat):Int)+((aF M.aD.cnt x.bB.Base.Unique:Nat):Int)+((x.bB.Log.length:Nat):Int)+1+1+((aF M.Item.cnt x.aE.Base.Items:Nat):Int)<0))=false:=dk q15.1
 have w15:=wk2 q15
 have w16:=wk2 q16
 have w17:=wk2 q17
 have w18:=wk2 q18
 obtain ⟨y6,a6,b6,_⟩:=M.aCG.hO _ hx.aE.Sync.aV.Writes (k+1+1+1+1+1+1+((aF M.Cache.cnt x.Caches.Caches:Nat):Int)+1+1+((aF M.aH.cnt x.bB.Base.Stores:Nat):Int)+((aF M.aD.cnt x.bB.Base.Unique:Nat):Int)+((x.bB.Log.length:Nat):Int)+1+1+((aF M.Item.cnt x.aE.Base.Items:Nat):Int)+1+1+1+1) q19.1 q20.2
 have d6:(decide (k+1+1+1+1+1+1+((aF M.Cache.cnt x.Caches.Caches:Nat):Int)+1+1+((aF M.aH.cnt x.bB.Base.Stores:Nat):Int)+((aF M.aD.cnt x.bB.Base.Unique:Nat):Int)+((x.bB.Log.length:Nat):Int)+1+1+((aF M.Item.cnt x.aE.Base.Items:Nat):Int)+1+1+1+1+((aF M.aY.cnt x.aE.Sync.aV.Writes:Nat):Int)<0))=false:=dk q20.1
 have w20:=wk2 q20
 have w21:=wk2 q21
 have w22:=wk2 q22
 have w23:=wk2 q23
 refine ⟨⟨(mtx (k)),(mtx (k+1)),⟨(mtx (k+1+1)),k+1+1+1,k+1+1+1+1,k+1+1+1+1+1⟩,⟨y1⟩,⟨⟨(mtx (k+1+1+1+1+1+1+((aF M.Cache.cnt x.Caches.Caches:Nat):Int))),k+1+1+1+1+1+1+((aF M.Cache.cnt x.Caches.Caches:Nat):Int)+1,y2,y3⟩,y4,k+1+1+1+1+1+1+((aF M.Cache.cnt x.Caches.Caches:Nat):Int)+1+1+((aF M.aH.cnt x.bB.Base.Stores:Nat):Int)+((aF M.aD.cnt x.bB.Base.Unique:Nat):Int)+((x.bB.Log.length:Nat):Int)⟩,⟨⟨(mtx (k+1+1+1+1+1+1+((aF M.Cache.cnt x.Caches.Caches:Nat):Int)+1+1+((aF M.aH.cnt x.bB.Base.Stores:Nat):Int)+((aF M.aD.cnt x.bB.Base.Unique:Nat):Int)+((x.bB.Log.length:Nat):Int)+1)),y5,k+1+1+1+1+1+1+((aF M.Cache.cnt x.Caches.Caches:Nat):Int)+1+1+((aF M.aH.cnt x.bB.Base.Stores:Nat):Int)+((aF M.aD.cnt x.bB.Base.Unique:Nat):Int)+((x.bB.Log.length:Nat):Int)+1+1+((aF M.Item.cnt x.aE.Base.Items:Nat):Int)⟩,k+1+1+1+1+1+1+((aF M.Cache.cnt x.Caches.Caches:Nat):Int)+1+1+((aF M.aH.cnt x.bB.Base.Stores:Nat):Int)+((aF M.aD.cnt x.bB.Base.Unique:Nat):Int)+((x.bB.Log.length:Nat):Int)+1+1+((aF M.Item.cnt x.aE.Base.Items:Nat):Int)+1,⟨⟨k+1+1+1+1+1+1+((aF M.Cache.cnt x.Caches.Caches:Nat):Int)+1+1+((aF M.aH.cnt x.bB.Base.Stores:Nat):Int)+((aF M.aD.cnt x.bB.Base.Unique:Nat):Int)+((x.bB.Log.length:Nat):Int)+1+1+((aF M.Item.cnt x.aE.Base.Items:Nat):Int)+1+1,k+1+1+1+1+1+1+((aF M.Cache.cnt x.Caches.Caches:Nat):Int)+1+1+((aF M.aH.cnt x.bB.Base.Stores:Nat):Int)+((aF M.aD.cnt x.bB.Base.Unique:Nat):Int)+((x.bB.Log.length:Nat):Int)+1+1+((aF M.Item.cnt x.aE.Base.Items:Nat):Int)+1+1+1,y6⟩,k+1+1+1+1+1+1+((aF M.Cache.cnt x.Caches.Caches:Nat):Int)+1+1+((aF M.aH.cnt x.bB.Base.Stores:Nat):Int)+((aF M.aD.cnt x.bB.Base.Unique:Nat):Int)+((x.bB.Log.length:Nat):Int)+1+1+((aF M.Item.cnt x.aE.Base.Items:Nat):Int)+1+1+1+1+((aF M.aY.cnt x.aE.Sync.aV.Writes:Nat):Int),k+1+1+1+1+1+1+((aF M.Cache.cnt x.Caches.Caches:Nat):Int)+1+1+((aF M.aH.cnt x.bB.Base.Stores:Nat):Int)+((aF M.aD.cnt x.bB.Base.Unique:Nat):Int)+((x.bB.Log.length:Nat):Int)+1+1+((aF M.Item.cnt x.aE.Base.Items:Nat):Int)+1+1+1+1+((aF M.aY.cnt x.aE.Sync.aV.Writes:Nat):Int)+1⟩⟩,k+1+1+1+1+1+1+((aF M.Cache.cnt x.Caches.Caches:Nat):Int)+1+1+((aF M.aH.cnt x.bB.Base.Stores:Nat):Int)+((aF M.aD.cnt x.bB.Base.Unique:Nat):Int)+((x.bB.Log.length:Nat):Int)+1+1+((aF M.Item.cnt x.aE.Base.Items:Nat):Int)+1+1+1+1+((aF M.aY.cnt x.aE.Sync.aV.Writes:Nat):Int)+1+1,((Int.tmod (k+1+1+1+1+1+1+((aF M.Cache.cnt x.Caches.Caches:Nat):Int)+1+1+((aF M.aH.cnt x.bB.Base.Stores:Nat):Int)+((aF M.aD.cnt x.bB.Base.Unique:Nat):Int)+((x.bB.Log.length:Nat):Int)+1+1+((aF M.Item.cnt x.aE.Base.Items:Nat):Int)+1+1+1+1+((aF M.aY.cnt x.aE.Sync.aV.Writes:Nat):Int)+1+1+1) 3)==0)⟩,fun n pre post hl => ?_,fun n l i hi hl => ?_⟩
 ·have hl':=le_max hl
  have hp:pre.length<9223372036854775807:=by simp at hl';omega
  simp only [cR]
  rw [if_pos (aAp pre post x)]
  simp (maxSteps:=2000000) only [rZ,rX,Option.bind_some,bD hp,t0,w0,t1,w1,t2,w2,w3,w4,w5,a1,t7,w7,w8,a2,a3,a4,w12,t13,w13,a5,w15,w16,w17,w18,a6,w20,w21,w22,w23]
  rw [hE]
 ·have hl':=le_max hl
  have hp:i<9223372036854775807:=by have:=(List.getElem?_eq_some_iff.1 hi).1;omega
  simp only [cP]
  rw [if_pos (aCh hi)]
  simp (maxSteps:=2000000) only [aAr hi,Option.bind_some,bD hp,t0,w0,t1,w1,t2,w2,w3,w4,w5,b1,d1,t7,w7,w8,b2,d2,b3,d3,b4,d4,w12,t13,w13,b5,d5,w15,w16,w17,w18,b6,d6,w20,w21,w22,w23,bne_self_eq_false,beq_self_eq_true,Bool.not_true,Bool.false_eq_true,if_false]
  rw [hE]
theorem M.aCm.hO (xs:List M.aA) (hx:(xs.length≤maxLen ∧ ∀y∈xs,M.aA.ok y)) (k:Int) (h0:0≤k) (hB:k+((aF M.aA.cnt xs:Nat):Int)≤KB) : ∃ys,pI xs k=some (ys,k+((aF M.aA.cnt xs:Nat):Int))∧oR ys k=some (k+((aF M.aA.cnt xs:Nat):Int))∧ys.length=xs.length:=by
 have hm:=le_max hx.1
 obtain ⟨ys,h1,h2,h3⟩:=lE (ML:=cR) (HL:=cP) (c:=M.aA.cnt) (ok:=M.aA.ok) (fun x hx k h0 hB=>M.aA.pP x hx k h0 hB) (fun n k l=>by simp only [cR];rw [if_neg (by rw [aP];simp)]) (fun n k l=>by simp only [cP];rw [if_neg (by rw [aP];simp)]) xs [] fuel k (by simpa using hx.1) (by unfold fuel;omega) hx.2 h0 hB
 refine ⟨ys,by unfold pI;simpa using h2,by unfold oR;simpa using h3 fuel (by unfold fuel;omega),h1⟩
def M.aN.cnt (x:M.aN):Nat:=2
set_option maxHeartbeats 4000000 in
theorem M.aN.pP (x:M.aN) (hx:M.aN.ok x) (k:Int) (h0:0≤k) (hB:k+((M.aN.cnt x:Nat):Int)≤KB) : ∃x':M.aN,(∀n (pre post:List M.aN),(pre++x::post).length≤maxLen→cM (n+1) k pre.length (pre++x::post)=cM n (k+((M.aN.cnt x:Nat):Int)) ((pre.length+1:Nat):Int) (pre++x'::post)) ∧ ∀n (l:List M.aN) (i:Nat),l[i]? = some x'→l.length≤maxLen→dK l (n+1) k i=dK l n (k+((M.aN.cnt x:Nat):Int)) ((i+1:Nat):Int):=by
 unfold KB at hB;unfold M.aN.cnt at hB ⊢
 have A:(0≤k∧k≤KB)∧(0≤k+1∧k+1≤KB)∧(0≤k+1+1∧k+1+1≤KB):=by
  unfold KB
  refine ⟨?_,?_,?_⟩<;>omega
 have hE:k+1+1=k+((M.aN.cnt x:Nat):Int):=by unfold M.aN.cnt;omega
 unfold M.aN.cnt at hE
 obtain ⟨q0,q1,q2⟩:=A
 have t0:aG (k)=some (mtx (k)):=mt q0.1 (Int.lt_of_add_one_le q1.2)
 have w0:=wk2 q0
 have w1:=wk2 q1
 refine ⟨⟨(mtx (k)),k+1⟩,fun n pre post hl => ?_,fun n l i hi hl => ?_⟩
 ·have hl':=le_max hl
  have hp:pre.length<9223372036854775807:=by simp at hl';omega
  simp only [cM]
  rw [if_pos (aAp pre post x)]
  simp (maxSteps:=2000000) only [rZ,rX,Option.bind_some,bD hp,t0,w0,w1]
  rw [hE]
 ·have hl':=le_max hl
  have hp:i<9223372036854775807:=by have:=(List.getElem?_eq_some_iff.1 hi).1;omega
  simp only [dK]
  rw [if_pos (aCh hi)]
  simp (maxSteps:=2000000) only [aAr hi,Option.bind_some,bD hp,t0,w0,w1,bne_self_eq_false,beq_self_eq_true,Bool.not_true,Bool.false_eq_true,if_false]
  rw [hE]
theorem M.aCk.hO (xs:List M.aN) (hx:(xs.length≤maxLen ∧ ∀y∈xs,M.aN.ok y)) (k:Int) (h0:0≤k) (hB:k+((aF M.aN.cnt xs:Nat):Int)≤KB) : ∃ys,pH xs k=some (ys,k+((aF M.aN.cnt xs:Nat):Int))∧pD ys k=some (k+((aF M.aN.cnt xs:Nat):Int))∧ys.length=xs.length:=by
 have hm:=le_max hx.1
 obtain ⟨ys,h1,h2,h3⟩:=lE (ML:=cM) (HL:=dK) (c:=M.aN.cnt) (ok:=M.aN.ok) (fun x hx k h0 hB=>M.aN.pP x hx k h0 hB) (fun n k l=>by simp only [cM];rw [if_neg (by rw [aP];simp)]) (fun n k l=>by simp only [dK];rw [if_neg (by rw [aP];simp)]) xs [] fuel k (by simpa using hx.1) (by unfold fuel;omega) hx.2 h0 hB
 refine ⟨ys,by unfold pH;simpa using h2,by unfold pD;simpa using h3 fuel (by unfold fuel;omega),h1⟩
def M.Instr.cnt (x:M.Instr):Nat:=4
set_option maxHeartbeats 4000000 in
theorem M.Instr.pP (x:M.Instr) (hx:M.Instr.ok x) (k:Int) (h0:0≤k) (hB:k+((M.Instr.cnt x:Nat):Int)≤KB) : ∃x':M.Instr,(∀n (pre post:List M.Instr),(pre++x::post).length≤maxLen→cX (n+1) k pre.length (pre++x::post)=cX n (k+((M.Instr.cnt x:Nat):Int)) ((pre.length+1:Nat):Int) (pre++x'::post)) ∧ ∀n (l:List M.Instr) (i:Nat),l[i]? = some x'→l.length≤maxLen→eF l (n+1) k i=eF l n (k+((M.Instr.cnt x:Nat):Int)) ((i+1:Nat):Int):=by
 unfold KB at hB;unfold M.Instr.cnt at hB ⊢
 have A:(0≤k∧k≤KB)∧(0≤k+1∧k+1≤KB)∧(0≤k+1+1∧k+1+1≤KB)∧(0≤k+1+1+1∧k+1+1+1≤KB)∧(0≤k+1+1+1+1∧k+1+1+1+1≤KB):=by
  unfold KB
  refine ⟨?_,?_,?_,?_,?_⟩<;>omega
 have hE:k+1+1+1+1=k+((M.Instr.cnt x:Nat):Int):=by unfold M.Instr.cnt;omega
 unfold M.Instr.cnt at hE
 obtain ⟨q0,q1,q2,q3,q4⟩:=A
 have w0:=wk2 q0
 have w1:=wk2 q1
 have w2:=wk2 q2
 have t3:aG (k+1+1+1)=some (mtx (k+1+1+1)):=mt q3.1 (Int.lt_of_add_one_le q4.2)
 have w3:=wk2 q3
 refine ⟨⟨k,k+1,k+1+1,(mtx (k+1+1+1))⟩,fun n pre post hl => ?_,fun n l i hi hl => ?_⟩
 ·have hl':=le_max hl
  have hp:pre.length<9223372036854775807:=by simp at hl';omega
  simp only [cX]
  rw [if_pos (aAp pre post x)]
  simp (maxSteps:=2000000) only [rZ,rX,Option.bind_some,bD hp,w0,w1,w2,t3,w3]
  rw [hE]
 ·have hl':=le_max hl
  have hp:i<9223372036854775807:=by have:=(List.getElem?_eq_some_iff.1 hi).1;omega
  simp only [eF]
  rw [if_pos (aCh hi)]
  simp (maxSteps:=2000000) only [aAr hi,Option.bind_some,bD hp,w0,w1,w2,t3,w3,bne_self_eq_false,beq_self_eq_true,Bool.not_true,Bool.false_eq_true,if_false]
  rw [hE]
theorem M.aEr.hO (xs:List M.Instr) (hx:(xs.length≤maxLen ∧ ∀y∈xs,M.Instr.ok y)) (k:Int) (h0:0≤k) (hB:k+((aF M.Instr.cnt xs:Nat):Int)≤KB) : ∃ys,rJ xs k=some (ys,k+((aF M.Instr.cnt xs:Nat):Int))∧qZ ys k=some (k+((aF M.Instr.cnt xs:Nat):Int))∧ys.length=xs.length:=by
 have hm:=le_max hx.1
 obtain ⟨ys,h1,h2,h3⟩:=lE (ML:=cX) (HL:=eF) (c:=M.Instr.cnt) (ok:=M.Instr.ok) (fun x hx k h0 hB=>M.Instr.pP x hx k h0 hB) (fun n k l=>by simp only [cX];rw [if_neg (by rw [aP];simp)]) (fun n k l=>by simp only [eF];rw [if_neg (by rw [aP];simp)]) xs [] fuel k (by simpa using hx.1) (by unfold fuel;omega) hx.2 h0 hB
 refine ⟨ys,by unfold rJ;simpa using h2,by unfold qZ;simpa using h3 fuel (by unfold fuel;omega),h1⟩
set_option maxHeartbeats 4000000 in
theorem M.aK0.pP (x:Int) (hx:True) (k:Int) (h0:0≤k) (hB:k+(((fun _:Int=>1) x:Nat):Int)≤KB) : ∃x':Int,(∀n (pre post:List Int),(pre++x::post).length≤maxLen→eW (n+1) k pre.length (pre++x::post)=eW n (k+(((fun _:Int=>1) x:Nat):Int)) ((pre.length+1:Nat):Int) (pre++x'::post)) ∧ ∀n (l:List Int) (i:Nat),l[i]? = some x'→l.length≤maxLen→fX l (n+1) k i=fX l n (k+(((fun _:Int=>1) x:Nat):Int)) ((i+1:Nat):Int):=by
 unfold KB at hB;(try simp only [] at hB ⊢)
 have A:(0≤k∧k≤KB)∧(0≤k+1∧k+1≤KB):=by
  unfold KB
  refine ⟨?_,?_⟩<;>omega
 have hE:k+1=k+(((fun _:Int=>1) x:Nat):Int):=by simp
 obtain ⟨q0,q1⟩:=A
 have w0:=wk2 q0
 refine ⟨k,fun n pre post hl => ?_,fun n l i hi hl => ?_⟩
 ·have hl':=le_max hl
  have hp:pre.length<9223372036854775807:=by simp at hl';omega
  simp only [eW]
  rw [if_pos (aAp pre post x)]
  simp (maxSteps:=2000000) only [rZ,rX,Option.bind_some,bD hp,w0]
  rw [hE]
 ·have hl':=le_max hl
  have hp:i<9223372036854775807:=by have:=(List.getElem?_eq_some_iff.1 hi).1;omega
  simp only [fX]
  rw [if_pos (aCh hi)]
  simp (maxSteps:=2000000) only [aAr hi,Option.bind_some,bD hp,w0,bne_self_eq_false,beq_self_eq_true,Bool.not_true,Bool.false_eq_true,if_false]
  rw [hE]
theorem M.aK0.cl (xs:List Int):aF (fun _:Int=>1) xs=xs.length:=by
 induction xs with
 | nil=>rfl
 | cons x xs ih=>simp only [aF,ih,List.length_cons];omega
theorem M.aK0.hO (xs:List Int) (hx:okI xs) (k:Int) (h0:0≤k) (hB:k+((xs.length:Nat):Int)≤KB) : ∃ys,wV xs k=some (ys,k+((xs.length:Nat):Int))∧wR ys k=some (k+((xs.length:Nat):Int))∧ys.length=xs.length:=by
 have hm:=le_max hx.1
 rw [←M.aK0.cl xs] at hB ⊢
 obtain ⟨ys,h1,h2,h3⟩:=lE (ML:=eW) (HL:=fX) (c:=(fun _:Int=>1)) (ok:=(fun _:Int=>True)) (fun x hx k h0 hB=>M.aK0.pP x hx k h0 hB) (fun n k l=>by simp only [eW];rw [if_neg (by rw [aP];simp)]) (fun n k l=>by simp only [fX];rw [if_neg (by rw [aP];simp)]) xs [] fuel k (by simpa using hx.1) (by unfold fuel;omega) (fun _ _=>trivial) h0 hB
 refine ⟨ys,by unfold wV;simpa using h2,by unfold wR;simpa using h3 fuel (by unfold fuel;omega),by have:=M.aK0.cl xs;omega⟩
def M.bI.cnt (x:M.bI):Nat:=8+(aF M.aN.cnt x.aN)+(aF M.Instr.cnt x.Machine.Script)+(x.Machine.Regs.length)
set_option maxHeartbeats 4000000 in
theorem M.bI.pP (x:M.bI) (hx:M.bI.ok x) (k:Int) (h0:0≤k) (hB:k+((M.bI.cnt x:Nat):Int)≤KB) : ∃x':M.bI,(∀n (pre post:List M.bI),(pre++x::post).length≤maxLen→dU (n+1) k pre.length (pre++x::post)=dU n (k+((M.bI.cnt x:Nat):Int)) ((pre.length+1:Nat):Int) (pre++x'::post)) ∧ ∀n (l:List M.bI) (i:Nat),l[i]? = some x'→l.length≤maxLen→dW l (n+1) k i=dW l n (k+((M.bI.cnt x:Nat):Int)) ((i+1:Nat):Int):=by
 unfold KB at hB;unfold M.bI.cnt at hB ⊢
 have A:(0≤k∧k≤KB)∧(0≤k+1∧k+1≤KB)∧(0≤k+1+1∧k+1+1≤KB)∧(0≤k+1+1+1∧k+1+1+1≤KB)∧(0≤k+1+1+1+1∧k+1+1+1+1≤KB)∧(0≤k+1+1+1+1+((aF M.aN.cnt x.aN:Nat):Int)∧k+1+1+1+1+((aF M.aN.cnt x.aN:Nat):Int)≤KB)∧(0≤k+1+1+1+1+((aF M.aN.cnt x.aN:Nat):Int)+((aF M.Instr.cnt x.Machine.Script:Nat):Int)∧k+1+1+1+1+((aF M.aN.cnt x.aN:Nat):Int)+((aF M.Instr.cnt x.Machine.Script:Nat):Int)≤KB)∧(0≤k+1+1+1+1+((aF M.aN.cnt x.aN:Nat):Int)+((aF M.Instr.cnt x.Machine.Script:Nat):Int)+1∧k+1+1+1+1+((aF M.aN.cnt x.aN:Nat):Int)+((aF M.Instr.cnt x.Machine.Script:Nat):Int)+1≤KB)∧(0≤k+1+1+1+1+((aF M.aN.cnt x.aN:Nat):Int)+((aF M.Instr.cnt x.Machine.Script:Nat):Int)+1+((x.Machine.Regs.length:Nat):Int)∧k+1+1+1+1+((aF M.aN.cnt x.aN:Nat):Int)+((aF M.Instr.cnt x.Machine.Script:Nat):Int)+1+((x.Machine.Regs.length:Nat):Int)≤KB)∧(0≤k+1+1+1+1+((aF M.aN.cnt x.aN:Nat):Int)+((aF M.Instr.cnt x.Machine.Script:Nat):Int)+1+((x.Machine.Regs.length:Nat):Int)+1∧k+1+1+1+1+((aF M.aN.cnt x.aN:Nat):Int)+((aF M.Instr.cnt x.Machine.Script:Nat):Int)+1+((x.Machine.Regs.length:Nat):Int)+1≤KB)∧(0≤k+1+1+1+1+((aF M.aN.cnt x.aN:Nat):Int)+((aF M.Instr.cnt x.Machine.Script:Nat):Int)+1+((x.Machine.Regs.length:Nat):Int)+1+1∧k+1+1+1+1+((aF M.aN.cnt x.aN:Nat):Int)+((aF M.Instr.cnt x.Machine.Script:Nat):Int)+1+((x.Machine.Regs.length:Nat):Int)+1+1≤KB)∧(0≤k+1+1+1+1+((aF M.aN.cnt x.aN:Nat):Int)+((aF M.Instr.cnt x.Machine.Script:Nat):Int)+1+((x.Machine.Regs.length:Nat):Int)+1+1+1∧k+1+1+1+1+((aF M.aN.cnt x.aN:Nat):Int)+((aF M.Instr.cnt x.Machine.Script:Nat):Int)+1+((x.Machine.Regs.length:Nat):Int)+1+1+1≤KB):=by
  unfold KB
  refine ⟨?_,?_,?_,?_,?_,?_,?_,?_,?_,?_,?_,?_⟩<;>omega
 have hE:k+1+1+1+1+((aF M.aN.cnt x.aN:Nat):Int)+((aF M.Instr.cnt x.Machine.Script:Nat):Int)+1+((x.Machine.Regs.length:Nat):Int)+1+1+1=k+((M.bI.cnt x:Nat):Int):=by unfold M.bI.cnt;omega
 unfold M.bI.cnt at hE
 obtain ⟨q0,q1,q2,q3,q4,q5,q6,q7,q8,q9,q10,q11⟩:=A
 have w0:=wk2 q0
 have t1:aG (k+1)=some (mtx (k+1)):=mt q1.1 (Int.lt_of_add_one_le q2.2)
 have w1:=wk2 q1
 have t2:aG (k+1+1)=some (mtx (k+1+1)):=mt q2.1 (Int.lt_of_add_one_le q3.2)
 have w2:=wk2 q2
 have w3:=wk2 q3
 obtain ⟨y1,a1,b1,_⟩:=M.aCk.hO _ hx.aN (k+1+1+1+1) q4.1 q5.2
 have d1:(decide (k+1+1+1+1+((aF M.aN.cnt x.aN:Nat):Int)<0))=false:=dk q5.1
 obtain ⟨y2,a2,b2,_⟩:=M.aEr.hO _ hx.Machine.Script (k+1+1+1+1+((aF M.aN.cnt x.aN:Nat):Int)) q5.1 q6.2
 have d2:(decide (k+1+1+1+1+((aF M.aN.cnt x.aN:Nat):Int)+((aF M.Instr.cnt x.Machine.Script:Nat):Int)<0))=false:=dk q6.1
 have w6:=wk2 q6
 obtain ⟨y3,a3,b3,_⟩:=M.aK0.hO _ hx.Machine.Regs (k+1+1+1+1+((aF M.aN.cnt x.aN:Nat):Int)+((aF M.Instr.cnt x.Machine.Script:Nat):Int)+1) q7.1 q8.2
 have d3:(decide (k+1+1+1+1+((aF M.aN.cnt x.aN:Nat):Int)+((aF M.Instr.cnt x.Machine.Script:Nat):Int)+1+((x.Machine.Regs.length:Nat):Int)<0))=false:=dk q8.1
 have w8:=wk2 q8
 have w9:=wk2 q9
 have w10:=wk2 q10
 refine ⟨⟨k,(mtx (k+1)),(mtx (k+1+1)),k+1+1+1,y1,⟨y2,k+1+1+1+1+((aF M.aN.cnt x.aN:Nat):Int)+((aF M.Instr.cnt x.Machine.Script:Nat):Int),y3,k+1+1+1+1+((aF M.aN.cnt x.aN:Nat):Int)+((aF M.Instr.cnt x.Machine.Script:Nat):Int)+1+((x.Machine.Regs.length:Nat):Int),((Int.tmod (k+1+1+1+1+((aF M.aN.cnt x.aN:Nat):Int)+((aF M.Instr.cnt x.Machine.Script:Nat):Int)+1+((x.Machine.Regs.length:Nat):Int)+1) 3)==0),((Int.tmod (k+1+1+1+1+((aF M.aN.cnt x.aN:Nat):Int)+((aF M.Instr.cnt x.Machine.Script:Nat):Int)+1+((x.Machine.Regs.length:Nat):Int)+1+1) 3)==0)⟩⟩,fun n pre post hl => ?_,fun n l i hi hl => ?_⟩
 ·have hl':=le_max hl
  have hp:pre.length<9223372036854775807:=by simp at hl';omega
  simp only [dU]
  rw [if_pos (aAp pre post x)]
  simp (maxSteps:=2000000) only [rZ,rX,Option.bind_some,bD hp,w0,t1,w1,t2,w2,w3,a1,a2,w6,a3,w8,w9,w10]
  rw [hE]
 ·have hl':=le_max hl
  have hp:i<9223372036854775807:=by have:=(List.getElem?_eq_some_iff.1 hi).1;omega
  simp only [dW]
  rw [if_pos (aCh hi)]
  simp (maxSteps:=2000000) only [aAr hi,Option.bind_some,bD hp,w0,t1,w1,t2,w2,w3,b1,d1,b2,d2,w6,b3,d3,w8,w9,w10,bne_self_eq_false,beq_self_eq_true,Bool.not_true,Bool.false_eq_true,if_false]
  rw [hE]
theorem M.aIh.hO (xs:List M.bI) (hx:(xs.length≤maxLen ∧ ∀y∈xs,M.bI.ok y)) (k:Int) (h0:0≤k) (hB:k+((aF M.bI.cnt xs:Nat):Int)≤KB) : ∃ys,sR xs k=some (ys,k+((aF M.bI.cnt xs:Nat):Int))∧sU ys k=some (k+((aF M.bI.cnt xs:Nat):Int))∧ys.length=xs.length:=by
 have hm:=le_max hx.1
 obtain ⟨ys,h1,h2,h3⟩:=lE (ML:=dU) (HL:=dW) (c:=M.bI.cnt) (ok:=M.bI.ok) (fun x hx k h0 hB=>M.bI.pP x hx k h0 hB) (fun n k l=>by simp only [dU];rw [if_neg (by rw [aP];simp)]) (fun n k l=>by simp only [dW];rw [if_neg (by rw [aP];simp)]) xs [] fuel k (by simpa using hx.1) (by unfold fuel;omega) hx.2 h0 hB
 refine ⟨ys,by unfold sR;simpa using h2,by unfold sU;simpa using h3 fuel (by unfold fuel;omega),h1⟩
def M.cG.cnt (x:M.cG):Nat:=4
set_option maxHeartbeats 4000000 in
theorem M.cG.pP (x:M.cG) (hx:M.cG.ok x) (k:Int) (h0:0≤k) (hB:k+((M.cG.cnt x:Nat):Int)≤KB) : ∃x':M.cG,(∀n (pre post:List M.cG),(pre++x::post).length≤maxLen→dS (n+1) k pre.length (pre++x::post)=dS n (k+((M.cG.cnt x:Nat):Int)) ((pre.length+1:Nat):Int) (pre++x'::post)) ∧ ∀n (l:List M.cG) (i:Nat),l[i]? = some x'→l.length≤maxLen→fG l (n+1) k i=fG l n (k+((M.cG.cnt x:Nat):Int)) ((i+1:Nat):Int):=by
 unfold KB at hB;unfold M.cG.cnt at hB ⊢
 have A:(0≤k∧k≤KB)∧(0≤k+1∧k+1≤KB)∧(0≤k+1+1∧k+1+1≤KB)∧(0≤k+1+1+1∧k+1+1+1≤KB)∧(0≤k+1+1+1+1∧k+1+1+1+1≤KB):=by
  unfold KB
  refine ⟨?_,?_,?_,?_,?_⟩<;>omega
 have hE:k+1+1+1+1=k+((M.cG.cnt x:Nat):Int):=by unfold M.cG.cnt;omega
 unfold M.cG.cnt at hE
 obtain ⟨q0,q1,q2,q3,q4⟩:=A
 have t0:aG (k)=some (mtx (k)):=mt q0.1 (Int.lt_of_add_one_le q1.2)
 have w0:=wk2 q0
 have w1:=wk2 q1
 have w2:=wk2 q2
 have w3:=wk2 q3
 refine ⟨⟨(mtx (k)),k+1,((Int.tmod (k+1+1) 3)==0),((Int.tmod (k+1+1+1) 3)==0)⟩,fun n pre post hl => ?_,fun n l i hi hl => ?_⟩
 ·have hl':=le_max hl
  have hp:pre.length<9223372036854775807:=by simp at hl';omega
  simp only [dS]
  rw [if_pos (aAp pre post x)]
  simp (maxSteps:=2000000) only [rZ,rX,Option.bind_some,bD hp,t0,w0,w1,w2,w3]
  rw [hE]
 ·have hl':=le_max hl
  have hp:i<9223372036854775807:=by have:=(List.getElem?_eq_some_iff.1 hi).1;omega
  simp only [fG]
  rw [if_pos (aCh hi)]
  simp (maxSteps:=2000000) only [aAr hi,Option.bind_some,bD hp,t0,w0,w1,w2,w3,bne_self_eq_false,beq_self_eq_true,Bool.not_true,Bool.false_eq_true,if_false]
  rw [hE]
theorem M.aIm.hO (xs:List M.cG) (hx:(xs.length≤maxLen ∧ ∀y∈xs,M.cG.ok y)) (k:Int) (h0:0≤k) (hB:k+((aF M.cG.cnt xs:Nat):Int)≤KB) : ∃ys,tY xs k=some (ys,k+((aF M.cG.cnt xs:Nat):Int))∧tX ys k=some (k+((aF M.cG.cnt xs:Nat):Int))∧ys.length=xs.length:=by
 have hm:=le_max hx.1
 obtain ⟨ys,h1,h2,h3⟩:=lE (ML:=dS) (HL:=fG) (c:=M.cG.cnt) (ok:=M.cG.ok) (fun x hx k h0 hB=>M.cG.pP x hx k h0 hB) (fun n k l=>by simp only [dS];rw [if_neg (by rw [aP];simp)]) (fun n k l=>by simp only [fG];rw [if_neg (by rw [aP];simp)]) xs [] fuel k (by simpa using hx.1) (by unfold fuel;omega) hx.2 h0 hB
 refine ⟨ys,by unfold tY;simpa using h2,by unfold tX;simpa using h3 fuel (by unfold fuel;omega),h1⟩
def M.fK.cnt (x:M.fK):Nat:=3
set_option maxHeartbeats 4000000 in
theorem M.fK.pP (x:M.fK) (hx:M.fK.ok x) (k:Int) (h0:0≤k) (hB:k+((M.fK.cnt x:Nat):Int)≤KB) : ∃x':M.fK,(∀n (pre post:List M.fK),(pre++x::post).length≤maxLen→dQ (n+1) k pre.length (pre++x::post)=dQ n (k+((M.fK.cnt x:Nat):Int)) ((pre.length+1:Nat):Int) (pre++x'::post)) ∧ ∀n (l:List M.fK) (i:Nat),l[i]? = some x'→l.length≤maxLen→fJ l (n+1) k i=fJ l n (k+((M.fK.cnt x:Nat):Int)) ((i+1:Nat):Int):=by
 unfold KB at hB;unfold M.fK.cnt at hB ⊢
 have A:(0≤k∧k≤KB)∧(0≤k+1∧k+1≤KB)∧(0≤k+1+1∧k+1+1≤KB)∧(0≤k+1+1+1∧k+1+1+1≤KB):=by
  unfold KB
  refine ⟨?_,?_,?_,?_⟩<;>omega
 have hE:k+1+1+1=k+((M.fK.cnt x:Nat):Int):=by unfold M.fK.cnt;omega
 unfold M.fK.cnt at hE
 obtain ⟨q0,q1,q2,q3⟩:=A
 have w0:=wk2 q0
 have w1:=wk2 q1
 have w2:=wk2 q2
 refine ⟨⟨k,k+1,k+1+1⟩,fun n pre post hl => ?_,fun n l i hi hl => ?_⟩
 ·have hl':=le_max hl
  have hp:pre.length<9223372036854775807:=by simp at hl';omega
  simp only [dQ]
  rw [if_pos (aAp pre post x)]
  simp (maxSteps:=2000000) only [rZ,rX,Option.bind_some,bD hp,w0,w1,w2]
  rw [hE]
 ·have hl':=le_max hl
  have hp:i<9223372036854775807:=by have:=(List.getElem?_eq_some_iff.1 hi).1;omega
  simp only [fJ]
  rw [if_pos (aCh hi)]
  simp (maxSteps:=2000000) only [aAr hi,Option.bind_some,bD hp,w0,w1,w2,bne_self_eq_false,beq_self_eq_true,Bool.not_true,Bool.false_eq_true,if_false]
  rw [hE]
theorem M.aJD.hO (xs:List M.fK) (hx:(xs.length≤maxLen ∧ ∀y∈xs,M.fK.ok y)) (k:Int) (h0:0≤k) (hB:k+((aF M.fK.cnt xs:Nat):Int)≤KB) : ∃ys,uB xs k=some (ys,k+((aF M.fK.cnt xs:Nat):Int))∧uE ys k=some (k+((aF M.fK.cnt xs:Nat):Int))∧ys.length=xs.length:=by
 have hm:=le_max hx.1
 obtain ⟨ys,h1,h2,h3⟩:=lE (ML:=dQ) (HL:=fJ) (c:=M.fK.cnt) (ok:=M.fK.ok) (fun x hx k h0 hB=>M.fK.pP x hx k h0 hB) (fun n k l=>by simp only [dQ];rw [if_neg (by rw [aP];simp)]) (fun n k l=>by simp only [fJ];rw [if_neg (by rw [aP];simp)]) xs [] fuel k (by simpa using hx.1) (by unfold fuel;omega) hx.2 h0 hB
 refine ⟨ys,by unfold uB;simpa using h2,by unfold uE;simpa using h3 fuel (by unfold fuel;omega),h1⟩
set_option maxHeartbeats 4000000 in
theorem M.aAY.pP (x:ByteArray) (hx:True) (k:Int) (h0:0≤k) (hB:k+(((fun _:ByteArray=>1) x:Nat):Int)≤KB) : ∃x':ByteArray,(∀n (pre post:List ByteArray),(pre++x::post).length≤maxLen→cQ (n+1) k pre.length (pre++x::post)=cQ n (k+(((fun _:ByteArray=>1) x:Nat):Int)) ((pre.length+1:Nat):Int) (pre++x'::post)) ∧ ∀n (l:List ByteArray) (i:Nat),l[i]? = some x'→l.length≤maxLen→dJ l (n+1) k i=dJ l n (k+(((fun _:ByteArray=>1) x:Nat):Int)) ((i+1:Nat):Int):=by
 unfold KB at hB;(try simp only [] at hB ⊢)
 have A:(0≤k∧k≤KB)∧(0≤k+1∧k+1≤KB):=by
  unfold KB
  refine ⟨?_,?_⟩<;>omega
 have hE:k+1=k+(((fun _:ByteArray=>1) x:Nat):Int):=by simp
 obtain ⟨q0,q1⟩:=A
 have t0:aG (k)=some (mtx (k)):=mt q0.1 (Int.lt_of_add_one_le q1.2)
 have w0:=wk2 q0
 refine ⟨(mtx (k)),fun n pre post hl => ?_,fun n l i hi hl => ?_⟩
 ·have hl':=le_max hl
  have hp:pre.length<9223372036854775807:=by simp at hl';omega
  simp only [cQ]
  rw [if_pos (aAp pre post x)]
  simp (maxSteps:=2000000) only [rZ,rX,Option.bind_some,bD hp,t0,w0]
  rw [hE]
 ·have hl':=le_max hl
  have hp:i<9223372036854775807:=by have:=(List.getElem?_eq_some_iff.1 hi).1;omega
  simp only [dJ]
  rw [if_pos (aCh hi)]
  simp (maxSteps:=2000000) only [aAr hi,Option.bind_some,bD hp,t0,w0,bne_self_eq_false,beq_self_eq_true,Bool.not_true,Bool.false_eq_true,if_false]
  rw [hE]
theorem M.aAY.cl (xs:List ByteArray):aF (fun _:ByteArray=>1) xs=xs.length:=by
 induction xs with
 | nil=>rfl
 | cons x xs ih=>simp only [aF,ih,List.length_cons];omega
theorem M.aAY.hO (xs:List ByteArray) (hx:okS xs) (k:Int) (h0:0≤k) (hB:k+((xs.length:Nat):Int)≤KB) : ∃ys,nZ xs k=some (ys,k+((xs.length:Nat):Int))∧oH ys k=some (k+((xs.length:Nat):Int))∧ys.length=xs.length:=by
 have hm:=le_max hx.1
 rw [←M.aAY.cl xs] at hB ⊢
 obtain ⟨ys,h1,h2,h3⟩:=lE (ML:=cQ) (HL:=dJ) (c:=(fun _:ByteArray=>1)) (ok:=(fun _:ByteArray=>True)) (fun x hx k h0 hB=>M.aAY.pP x hx k h0 hB) (fun n k l=>by simp only [cQ];rw [if_neg (by rw [aP];simp)]) (fun n k l=>by simp only [dJ];rw [if_neg (by rw [aP];simp)]) xs [] fuel k (by simpa using hx.1) (by unfold fuel;omega) (fun _ _=>trivial) h0 hB
 refine ⟨ys,by unfold nZ;simpa using h2,by unfold oH;simpa using h3 fuel (by unfold fuel;omega),by have:=M.aAY.cl xs;omega⟩
def M.Site.cnt (x:M.Site):Nat:=3+(x.Files.length)
set_option maxHeartbeats 4000000 in
theorem M.Site.pP (x:M.Site) (hx:M.Site.ok x) (k:Int) (h0:0≤k) (hB:k+((M.Site.cnt x:Nat):Int)≤KB) : ∃x':M.Site,(∀n (pre post:List M.Site),(pre++x::post).length≤maxLen→dY (n+1) k pre.length (pre++x::post)=dY n (k+((M.Site.cnt x:Nat):Int)) ((pre.length+1:Nat):Int) (pre++x'::post)) ∧ ∀n (l:List M.Site) (i:Nat),l[i]? = some x'→l.length≤maxLen→fB l (n+1) k i=fB l n (k+((M.Site.cnt x:Nat):Int)) ((i+1:Nat):Int):=by
 unfold KB at hB;unfold M.Site.cnt at hB ⊢
 have A:(0≤k∧k≤KB)∧(0≤k+1∧k+1≤KB)∧(0≤k+1+1∧k+1+1≤KB)∧(0≤k+1+1+((x.Files.length:Nat):Int)∧k+1+1+((x.Files.length:Nat):Int)≤KB)∧(0≤k+1+1+((x.Files.length:Nat):Int)+1∧k+1+1+((x.Files.length:Nat):Int)+1≤KB):=by
  unfold KB
  refine ⟨?_,?_,?_,?_,?_⟩<;>omega
 have hE:k+1+1+((x.Files.length:Nat):Int)+1=k+((M.Site.cnt x:Nat):Int):=by unfold M.Site.cnt;omega
 unfold M.Site.cnt at hE
 obtain ⟨q0,q1,q2,q3,q4⟩:=A
 have t0:aG (k)=some (mtx (k)):=mt q0.1 (Int.lt_of_add_one_le q1.2)
 have w0:=wk2 q0
 have w1:=wk2 q1
 obtain ⟨y1,a1,b1,_⟩:=M.aAY.hO _ hx.Files (k+1+1) q2.1 q3.2
 have d1:(decide (k+1+1+((x.Files.length:Nat):Int)<0))=false:=dk q3.1
 have w3:=wk2 q3
 refine ⟨⟨(mtx (k)),k+1,y1,((Int.tmod (k+1+1+((x.Files.length:Nat):Int)) 3)==0)⟩,fun n pre post hl => ?_,fun n l i hi hl => ?_⟩
 ·have hl':=le_max hl
  have hp:pre.length<9223372036854775807:=by simp at hl';omega
  simp only [dY]
  rw [if_pos (aAp pre post x)]
  simp (maxSteps:=2000000) only [rZ,rX,Option.bind_some,bD hp,t0,w0,w1,a1,w3]
  rw [hE]
 ·have hl':=le_max hl
  have hp:i<9223372036854775807:=by have:=(List.getElem?_eq_some_iff.1 hi).1;omega
  simp only [fB]
  rw [if_pos (aCh hi)]
  simp (maxSteps:=2000000) only [aAr hi,Option.bind_some,bD hp,t0,w0,w1,b1,d1,w3,bne_self_eq_false,beq_self_eq_true,Bool.not_true,Bool.false_eq_true,if_false]
  rw [hE]
theorem M.aIa.hO (xs:List M.Site) (hx:(xs.length≤maxLen ∧ ∀y∈xs,M.Site.ok y)) (k:Int) (h0:0≤k) (hB:k+((aF M.Site.cnt xs:Nat):Int)≤KB) : ∃ys,tR xs k=some (ys,k+((aF M.Site.cnt xs:Nat):Int))∧uW ys k=some (k+((aF M.Site.cnt xs:Nat):Int))∧ys.length=xs.length:=by
 have hm:=le_max hx.1
 obtain ⟨ys,h1,h2,h3⟩:=lE (ML:=dY) (HL:=fB) (c:=M.Site.cnt) (ok:=M.Site.ok) (fun x hx k h0 hB=>M.Site.pP x hx k h0 hB) (fun n k l=>by simp only [dY];rw [if_neg (by rw [aP];simp)]) (fun n k l=>by simp only [fB];rw [if_neg (by rw [aP];simp)]) xs [] fuel k (by simpa using hx.1) (by unfold fuel;omega) hx.2 h0 hB
 refine ⟨ys,by unfold tR;simpa using h2,by unfold uW;simpa using h3 fuel (by unfold fuel;omega),h1⟩
def M.aJ.cnt (x:M.aJ):Nat:=2
set_option maxHeartbeats 4000000 in
theorem M.aJ.pP (x:M.aJ) (hx:M.aJ.ok x) (k:Int) (h0:0≤k) (hB:k+((M.aJ.cnt x:Nat):Int)≤KB) : ∃x':M.aJ,(∀n (pre post:List M.aJ),(pre++x::post).length≤maxLen→cD (n+1) k pre.length (pre++x::post)=cD n (k+((M.aJ.cnt x:Nat):Int)) ((pre.length+1:Nat):Int) (pre++x'::post)) ∧ ∀n (l:List M.aJ) (i:Nat),l[i]? = some x'→l.length≤maxLen→cV l (n+1) k i=cV l n (k+((M.aJ.cnt x:Nat):Int)) ((i+1:Nat):Int):=by
 unfold KB at hB;unfold M.aJ.cnt at hB ⊢
 have A:(0≤k∧k≤KB)∧(0≤k+1∧k+1≤KB)∧(0≤k+1+1∧k+1+1≤KB):=by
  unfold KB
  refine ⟨?_,?_,?_⟩<;>omega
 have hE:k+1+1=k+((M.aJ.cnt x:Nat):Int):=by unfold M.aJ.cnt;omega
 unfold M.aJ.cnt at hE
 obtain ⟨q0,q1,q2⟩:=A
 have w0:=wk2 q0
 have w1:=wk2 q1
 refine ⟨⟨k,k+1⟩,fun n pre post hl => ?_,fun n l i hi hl => ?_⟩
 ·have hl':=le_max hl
  have hp:pre.length<9223372036854775807:=by simp at hl';omega
  simp only [cD]
  rw [if_pos (aAp pre post x)]
  simp (maxSteps:=2000000) only [rZ,rX,Option.bind_some,bD hp,w0,w1]
  rw [hE]
 ·have hl':=le_max hl
  have hp:i<9223372036854775807:=by have:=(List.getElem?_eq_some_iff.1 hi).1;omega
  simp only [cV]
  rw [if_pos (aCh hi)]
  simp (maxSteps:=2000000) only [aAr hi,Option.bind_some,bD hp,w0,w1,bne_self_eq_false,beq_self_eq_true,Bool.not_true,Bool.false_eq_true,if_false]
  rw [hE]
theorem M.aB0.hO (xs:List M.aJ) (hx:(xs.length≤maxLen ∧ ∀y∈xs,M.aJ.ok y)) (k:Int) (h0:0≤k) (hB:k+((aF M.aJ.cnt xs:Nat):Int)≤KB) : ∃ys,mY xs k=some (ys,k+((aF M.aJ.cnt xs:Nat):Int))∧mX ys k=some (k+((aF M.aJ.cnt xs:Nat):Int))∧ys.length=xs.length:=by
 have hm:=le_max hx.1
 obtain ⟨ys,h1,h2,h3⟩:=lE (ML:=cD) (HL:=cV) (c:=M.aJ.cnt) (ok:=M.aJ.ok) (fun x hx k h0 hB=>M.aJ.pP x hx k h0 hB) (fun n k l=>by simp only [cD];rw [if_neg (by rw [aP];simp)]) (fun n k l=>by simp only [cV];rw [if_neg (by rw [aP];simp)]) xs [] fuel k (by simpa using hx.1) (by unfold fuel;omega) hx.2 h0 hB
 refine ⟨ys,by unfold mY;simpa using h2,by unfold mX;simpa using h3 fuel (by unfold fuel;omega),h1⟩
def M.Server.cnt (x:M.Server):Nat:=2+(aF M.Item.cnt x.aH.Items)+(aF M.aJ.cnt x.aJ)+(aF M.aY.cnt x.Changes)
set_option maxHeartbeats 4000000 in
theorem M.Server.pP (x:M.Server) (hx:M.Server.ok x) (k:Int) (h0:0≤k) (hB:k+((M.Server.cnt x:Nat):Int)≤KB) : ∃x':M.Server,(∀n (pre post:List M.Server),(pre++x::post).length≤maxLen→cK (n+1) k pre.length (pre++x::post)=cK n (k+((M.Server.cnt x:Nat):Int)) ((pre.length+1:Nat):Int) (pre++x'::post)) ∧ ∀n (l:List M.Server) (i:Nat),l[i]? = some x'→l.length≤maxLen→cO l (n+1) k i=cO l n (k+((M.Server.cnt x:Nat):Int)) ((i+1:Nat):Int):=by
 unfold KB at hB;unfold M.Server.cnt at hB ⊢
 have A:(0≤k∧k≤KB)∧(0≤k+1∧k+1≤KB)∧(0≤k+1+((aF M.Item.cnt x.aH.Items:Nat):Int)∧k+1+((aF M.Item.cnt x.aH.Items:Nat):Int)≤KB)∧(0≤k+1+((aF M.Item.cnt x.aH.Items:Nat):Int)+1∧k+1+((aF M.Item.cnt x.aH.Items:Nat):Int)+1≤KB)∧(0≤k+1+((aF M.Item.cnt x.aH.Items:Nat):Int)+1+((aF M.aJ.cnt x.aJ:Nat):Int)∧k+1+((aF M.Item.cnt x.aH.Items:Nat):Int)+1+((aF M.aJ.cnt x.aJ:Nat):Int)≤KB)∧(0≤k+1+((aF M.Item.cnt x.aH.Items:Nat):Int)+1+((aF M.aJ.cnt x.aJ:Nat):Int)+((aF M.aY.cnt x.Changes:Nat):Int)∧k+1+((aF M.Item.cnt x.aH.Items:Nat):Int)+1+((aF M.aJ.cnt x.aJ:Nat):Int)+((aF M.aY.cnt x.Changes:Nat):Int)≤KB):=by
  unfold KB
  refine ⟨?_,?_,?_,?_,?_,?_⟩<;>omega
 have hE:k+1+((aF M.Item.cnt x.aH.Items:Nat):Int)+1+((aF M.aJ.cnt x.aJ:Nat):Int)+((aF M.aY.cnt x.Changes:Nat):Int)=k+((M.Server.cnt x:Nat):Int):=by unfold M.Server.cnt;omega
 unfold M.Server.cnt at hE
 obtain ⟨q0,q1,q2,q3,q4,q5⟩:=A
 have t0:aG (k)=some (mtx (k)):=mt q0.1 (Int.lt_of_add_one_le q1.2)
 have w0:=wk2 q0
 obtain ⟨y1,a1,b1,_⟩:=M.aFN.hO _ hx.aH.Items (k+1) q1.1 q2.2
 have d1:(decide (k+1+((aF M.Item.cnt x.aH.Items:Nat):Int)<0))=false:=dk q2.1
 have w2:=wk2 q2
 obtain ⟨y2,a2,b2,_⟩:=M.aB0.hO _ hx.aJ (k+1+((aF M.Item.cnt x.aH.Items:Nat):Int)+1) q3.1 q4.2
 have d2:(decide (k+1+((aF M.Item.cnt x.aH.Items:Nat):Int)+1+((aF M.aJ.cnt x.aJ:Nat):Int)<0))=false:=dk q4.1
 obtain ⟨y3,a3,b3,_⟩:=M.aCG.hO _ hx.Changes (k+1+((aF M.Item.cnt x.aH.Items:Nat):Int)+1+((aF M.aJ.cnt x.aJ:Nat):Int)) q4.1 q5.2
 have d3:(decide (k+1+((aF M.Item.cnt x.aH.Items:Nat):Int)+1+((aF M.aJ.cnt x.aJ:Nat):Int)+((aF M.aY.cnt x.Changes:Nat):Int)<0))=false:=dk q5.1
 refine ⟨⟨⟨(mtx (k)),y1,k+1+((aF M.Item.cnt x.aH.Items:Nat):Int)⟩,y2,y3⟩,fun n pre post hl => ?_,fun n l i hi hl => ?_⟩
 ·have hl':=le_max hl
  have hp:pre.length<9223372036854775807:=by simp at hl';omega
  simp only [cK]
  rw [if_pos (aAp pre post x)]
  simp (maxSteps:=2000000) only [rZ,rX,Option.bind_some,bD hp,t0,w0,a1,w2,a2,a3]
  rw [hE]
 ·have hl':=le_max hl
  have hp:i<9223372036854775807:=by have:=(List.getElem?_eq_some_iff.1 hi).1;omega
  simp only [cO]
  rw [if_pos (aCh hi)]
  simp (maxSteps:=2000000) only [aAr hi,Option.bind_some,bD hp,t0,w0,b1,d1,w2,b2,d2,b3,d3,bne_self_eq_false,beq_self_eq_true,Bool.not_true,Bool.false_eq_true,if_false]
  rw [hE]
theorem M.aCn.hO (xs:List M.Server) (hx:(xs.length≤maxLen ∧ ∀y∈xs,M.Server.ok y)) (k:Int) (h0:0≤k) (hB:k+((aF M.Server.cnt xs:Nat):Int)≤KB) : ∃ys,oU xs k=some (ys,k+((aF M.Server.cnt xs:Nat):Int))∧pJ ys k=some (k+((aF M.Server.cnt xs:Nat):Int))∧ys.length=xs.length:=by
 have hm:=le_max hx.1
 obtain ⟨ys,h1,h2,h3⟩:=lE (ML:=cK) (HL:=cO) (c:=M.Server.cnt) (ok:=M.Server.ok) (fun x hx k h0 hB=>M.Server.pP x hx k h0 hB) (fun n k l=>by simp only [cK];rw [if_neg (by rw [aP];simp)]) (fun n k l=>by simp only [cO];rw [if_neg (by rw [aP];simp)]) xs [] fuel k (by simpa using hx.1) (by unfold fuel;omega) hx.2 h0 hB
 refine ⟨ys,by unfold oU;simpa using h2,by unfold pJ;simpa using h3 fuel (by unfold fuel;omega),h1⟩
def M.World.aOL (x:M.World):Nat:=(aF M.aA.cnt x.aC.Buckets)+(aF M.bI.cnt x.Pages)+(aF M.cG.cnt x.Locks.Locks)+(aF M.fK.cnt x.Channel.Mails)+(aF M.Site.cnt x.Sites)+(aF M.Server.cnt x.Servers)
theorem M.World.hO (x:M.World) (hx:M.World.ok x) (k:Int) (h0:0≤k) (hB:k+((M.World.aOL x:Nat):Int)≤KB) : ∃y1 y2 y3 y4 y5 y6,nR x k=some (y1,y2,y3,y4,y5,y6,k+((M.World.aOL x:Nat):Int))∧nW (⟨x.Now,x.Online,x.Device,⟨y1⟩,y2,x.NextPage,⟨y3⟩,⟨y4⟩,y5,y6⟩:M.World) k=some (k+((M.World.aOL x:Nat):Int)):=by
 unfold KB at hB;unfold M.World.aOL at hB ⊢
 obtain ⟨y1,a1,b1,_⟩:=M.aCm.hO _ hx.aC.Buckets (k) (by omega) (by unfold KB;omega)
 obtain ⟨y2,a2,b2,_⟩:=M.aIh.hO _ hx.Pages (k+((aF M.aA.cnt x.aC.Buckets:Nat):Int)) (by omega) (by unfold KB;omega)
 obtain ⟨y3,a3,b3,_⟩:=M.aIm.hO _ hx.Locks.Locks (k+((aF M.aA.cnt x.aC.Buckets:Nat):Int)+((aF M.bI.cnt x.Pages:Nat):Int)) (by omega) (by unfold KB;omega)
 obtain ⟨y4,a4,b4,_⟩:=M.aJD.hO _ hx.Channel.Mails (k+((aF M.aA.cnt x.aC.Buckets:Nat):Int)+((aF M.bI.cnt x.Pages:Nat):Int)+((aF M.cG.cnt x.Locks.Locks:Nat):Int)) (by omega) (by unfold KB;omega)
 obtain ⟨y5,a5,b5,_⟩:=M.aIa.hO _ hx.Sites (k+((aF M.aA.cnt x.aC.Buckets:Nat):Int)+((aF M.bI.cnt x.Pages:Nat):Int)+((aF M.cG.cnt x.Locks.Locks:Nat):Int)+((aF M.fK.cnt x.Channel.Mails:Nat):Int)) (by omega) (by unfold KB;omega)
 obtain ⟨y6,a6,b6,_⟩:=M.aCn.hO _ hx.Servers (k+((aF M.aA.cnt x.aC.Buckets:Nat):Int)+((aF M.bI.cnt x.Pages:Nat):Int)+((aF M.cG.cnt x.Locks.Locks:Nat):Int)+((aF M.fK.cnt x.Channel.Mails:Nat):Int)+((aF M.Site.cnt x.Sites:Nat):Int)) (by omega) (by unfold KB;omega)
 refine ⟨y1,y2,y3,y4,y5,y6,?_,?_⟩
 ·unfold nR
  simp only [vX,pW,vN,a1,a2,a3,a4,a5,a6,Option.bind_some]
  try (simp only [Option.some.injEq,Prod.mk.injEq,true_and];omega)
 ·unfold nW
  simp (disch:=(first | omega | (unfold KB;omega))) only [vM,pX,vV,b1,b2,b3,b4,b5,b6,Option.bind_some,dk,Bool.false_eq_true,if_false]
  try (simp only [Option.some.injEq];omega)
theorem M.aCg.gB (xs:List Int):xs.length≤40*(xs.length):=by omega
theorem M.Cached.gB (x:M.Cached):M.Cached.cnt x≤40+40*M.Cached.sz x:=by
 unfold M.Cached.cnt
 simp only [M.Cached.sz,M.Response.sz]
 have:=M.aCg.gB x.Response.Body
 omega
theorem M.aCi.gB (xs:List M.Cached):aF M.Cached.cnt xs≤40*((xs.length+aF M.Cached.sz xs)):=mV (fun x _=>M.Cached.gB x)
theorem M.Cache.gB (x:M.Cache):M.Cache.cnt x≤40+40*M.Cache.sz x:=by
 unfold M.Cache.cnt
 simp only [M.Cache.sz]
 have:=M.aCi.gB x.Entries
 omega
theorem M.aEd.gB (xs:List M.Cache):aF M.Cache.cnt xs≤40*((xs.length+aF M.Cache.sz xs)):=mV (fun x _=>M.Cache.gB x)
theorem M.Field.gB (x:M.Field):M.Field.cnt x≤40+40*M.Field.sz x:=by
 unfold M.Field.cnt
 simp only [M.Field.sz]
 omega
theorem M.aE7.gB (xs:List M.Field):aF M.Field.cnt xs≤40*((xs.length+aF M.Field.sz xs)):=mV (fun x _=>M.Field.gB x)
theorem M.Item.gB (x:M.Item):M.Item.cnt x≤40+40*M.Item.sz x:=by
 unfold M.Item.cnt
 simp only [M.Item.sz,M.Key.sz,M.aU.sz]
 have:=M.aE7.gB x.aU.Fields
 omega
theorem M.aFN.gB (xs:List M.Item):aF M.Item.cnt xs≤40*((xs.length+aF M.Item.sz xs)):=mV (fun x _=>M.Item.gB x)
theorem M.aH.gB (x:M.aH):M.aH.cnt x≤40+40*M.aH.sz x:=by
 unfold M.aH.cnt
 simp only [M.aH.sz]
 have:=M.aFN.gB x.Items
 omega
theorem M.aEO.gB (xs:List M.aH):aF M.aH.cnt xs≤40*((xs.length+aF M.aH.sz xs)):=mV (fun x _=>M.aH.gB x)
theorem M.aD.gB (x:M.aD):M.aD.cnt x≤40+40*M.aD.sz x:=by
 unfold M.aD.cnt
 simp only [M.aD.sz]
 omega
theorem M.aBL.gB (xs:List M.aD):aF M.aD.cnt xs≤40*((xs.length+aF M.aD.sz xs)):=mV (fun x _=>M.aD.gB x)
theorem M.aY.gB (x:M.aY):M.aY.cnt x≤40+40*M.aY.sz x:=by
 unfold M.aY.cnt
 simp only [M.aY.sz,M.Key.sz]
 omega
theorem M.aCG.gB (xs:List M.aY):aF M.aY.cnt xs≤40*((xs.length+aF M.aY.sz xs)):=mV (fun x _=>M.aY.gB x)
theorem M.aA.gB (x:M.aA):M.aA.cnt x≤40+40*M.aA.sz x:=by
 unfold M.aA.cnt
 simp only [M.aA.sz,M.Registration.sz,M.aM.sz,M.bB.sz,M.Database.sz,M.aE.sz,M.aH.sz,M.Sync.sz,M.aV.sz]
 have:=M.aEd.gB x.Caches.Caches
 have:=M.aEO.gB x.bB.Base.Stores
 have:=M.aBL.gB x.bB.Base.Unique
 have:=M.aCg.gB x.bB.Log
 have:=M.aFN.gB x.aE.Base.Items
 have:=M.aCG.gB x.aE.Sync.aV.Writes
 omega
theorem M.aCm.gB (xs:List M.aA):aF M.aA.cnt xs≤40*((xs.length+aF M.aA.sz xs)):=mV (fun x _=>M.aA.gB x)
theorem M.aN.gB (x:M.aN):M.aN.cnt x≤40+40*M.aN.sz x:=by
 unfold M.aN.cnt
 simp only [M.aN.sz]
 omega
theorem M.aCk.gB (xs:List M.aN):aF M.aN.cnt xs≤40*((xs.length+aF M.aN.sz xs)):=mV (fun x _=>M.aN.gB x)
theorem M.Instr.gB (x:M.Instr):M.Instr.cnt x≤40+40*M.Instr.sz x:=by
 unfold M.Instr.cnt
 simp only [M.Instr.sz]
 omega
theorem M.aEr.gB (xs:List M.Instr):aF M.Instr.cnt xs≤40*((xs.length+aF M.Instr.sz xs)):=mV (fun x _=>M.Instr.gB x)
theorem M.aK0.gB (xs:List Int):xs.length≤40*(xs.length):=by omega
theorem M.bI.gB (x:M.bI):M.bI.cnt x≤40+40*M.bI.sz x:=by
 unfold M.bI.cnt
 simp only [M.bI.sz,M.Machine.sz]
 have:=M.aCk.gB x.aN
 have:=M.aEr.gB x.Machine.Script
 have:=M.aK0.gB x.Machine.Regs
 omega
theorem M.aIh.gB (xs:List M.bI):aF M.bI.cnt xs≤40*((xs.length+aF M.bI.sz xs)):=mV (fun x _=>M.bI.gB x)
theorem M.cG.gB (x:M.cG):M.cG.cnt x≤40+40*M.cG.sz x:=by
 unfold M.cG.cnt
 simp only [M.cG.sz]
 omega
theorem M.aIm.gB (xs:List M.cG):aF M.cG.cnt xs≤40*((xs.length+aF M.cG.sz xs)):=mV (fun x _=>M.cG.gB x)
theorem M.fK.gB (x:M.fK):M.fK.cnt x≤40:=by
 unfold M.fK.cnt
 omega
theorem M.aJD.gB (xs:List M.fK):aF M.fK.cnt xs≤40*(xs.length):=Nat.le_trans (aD8 (fun x _=>M.fK.gB x)) (by omega)
theorem M.aAY.gB (xs:List ByteArray):xs.length≤40*((xs.length+aF ByteArray.size xs)):=by omega
theorem M.Site.gB (x:M.Site):M.Site.cnt x≤40+40*M.Site.sz x:=by
 unfold M.Site.cnt
 simp only [M.Site.sz]
 have:=M.aAY.gB x.Files
 omega
theorem M.aIa.gB (xs:List M.Site):aF M.Site.cnt xs≤40*((xs.length+aF M.Site.sz xs)):=mV (fun x _=>M.Site.gB x)
theorem M.aJ.gB (x:M.aJ):M.aJ.cnt x≤40:=by
 unfold M.aJ.cnt
 omega
theorem M.aB0.gB (xs:List M.aJ):aF M.aJ.cnt xs≤40*(xs.length):=Nat.le_trans (aD8 (fun x _=>M.aJ.gB x)) (by omega)
theorem M.Server.gB (x:M.Server):M.Server.cnt x≤40+40*M.Server.sz x:=by
 unfold M.Server.cnt
 simp only [M.Server.sz,M.aH.sz]
 have:=M.aFN.gB x.aH.Items
 have:=M.aB0.gB x.aJ
 have:=M.aCG.gB x.Changes
 omega
theorem M.aCn.gB (xs:List M.Server):aF M.Server.cnt xs≤40*((xs.length+aF M.Server.sz xs)):=mV (fun x _=>M.Server.gB x)
theorem M.World.aON (x:M.World):M.World.aOL x≤40*M.World.sz x:=by
 unfold M.World.aOL
 simp only [M.World.sz,M.aC.sz,M.aR.sz,M.Channel.sz]
 have:=M.aCm.gB x.aC.Buckets
 have:=M.aIh.gB x.Pages
 have:=M.aIm.gB x.Locks.Locks
 have:=M.aJD.gB x.Channel.Mails
 have:=M.aIa.gB x.Sites
 have:=M.aCn.gB x.Servers
 omega
end Go.Proofs.YtnhpbpnhmapeeaaGreat.gen
