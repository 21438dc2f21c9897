/-
  Helper text. No conditions.
-/
import Derived.Test.YtimblbmbfdopgaaGreatOpenPagePz
set_option linter.unusedVariables false
set_option linter.unusedSimpArgs false
namespace Go.Proofs.YtimblbmbfdopgaaGreat.gen
open Go Go.Sh
theorem aQR : ∀(n:Nat) (v:Int) (b:ByteArray),v.toNat<n→0≤v→(b.size:Int)+v≤KB → ∃t,lW n v b=some t∧t.size≤4611686018427387905
 | 0,v,b,h,_,_=>by omega
 | n+1,v,b,h,h0,hb=>by
  unfold KB at hb
  simp only [lW]
  by_cases hv:v>0
  ·rw [if_pos (by simp;omega)]
   have h1:=Int.tmod_nonneg 10 h0
   have h2:=Int.tmod_lt_of_pos v (show (0:Int)<10 by omega)
   have hu:=aQE (IntKind.i64.wrap (48+Int.tmod v 10))
   have hd:Int.tdiv v 10=v/10:=Int.tdiv_eq_ediv_of_nonneg h0
   have hs:toStr [IntKind.u8.wrap (IntKind.i64.wrap (48+Int.tmod v 10))]=some (aDL [IntKind.u8.wrap (IntKind.i64.wrap (48+Int.tmod v 10))]):=by
    unfold toStr;rw [if_pos (by simp;omega)]
   have hz:(aDL [IntKind.u8.wrap (IntKind.i64.wrap (48+Int.tmod v 10))]).size=1:=rfl
   rw [hs,qA]
   unfold cat
   rw [if_pos (by rw [hz];omega),qA,hd,eX (by omega) (by omega)]
   refine aQR n (v/10) _ (by omega) (by omega) ?_
   rw [ByteArray.size_append,hz]
   unfold KB
   omega
  ·rw [if_neg (by simp;omega)]
   have hq:cat (⟨#[109]⟩:ByteArray) b=some ((⟨#[109]⟩:ByteArray)++b):=by
    unfold cat;rw [if_pos (by show 1+b.size≤_;omega)]
   first | exact ⟨_,by rw [hq,qA],by rw [ByteArray.size_append];show 1+b.size≤_;omega⟩ | exact ⟨_,by rw [hq];rfl,by rw [ByteArray.size_append];show 1+b.size≤_;omega⟩
theorem aQ7 (k:Int) (h0:0≤k) (h:k<KB) : ∃t,aJ k=some t:=by
 unfold aJ
 by_cases hk:k≤0
 ·exact ⟨_,by rw [if_pos (by simpa using hk)]⟩
 ·rw [if_neg (by simpa using hk)]
  obtain ⟨t,h1,_⟩:=aQR fuel k ⟨#[]⟩ (by unfold fuel KB at *;omega) h0 (by show ((0:Nat):Int)+k≤KB;omega)
  exact ⟨t,h1⟩
def mtx (k:Int):ByteArray:=(aJ k).getD ⟨#[]⟩
theorem mt {k:Int} (h0:0≤k) (h:k<KB):aJ k=some (mtx k):=by
 obtain ⟨t,ht⟩:=aQ7 k h0 h
 unfold mtx;rw [ht];rfl
def M.Instr.cnt (x:M.Instr):Nat:=4
set_option maxHeartbeats 4000000 in
theorem M.Instr.sC (x:M.Instr) (hx:M.Instr.ok x) (k:Int) (h0:0≤k) (hB:k+((M.Instr.cnt x:Nat):Int)≤KB) : ∃x':M.Instr,(∀n (pre post:List M.Instr),(pre++x::post).length≤maxLen→dD (n+1) k pre.length (pre++x::post)=dD n (k+((M.Instr.cnt x:Nat):Int)) ((pre.length+1:Nat):Int) (pre++x'::post)) ∧ ∀n (l:List M.Instr) (i:Nat),l[i]? = some x'→l.length≤maxLen→eD l (n+1) k i=eD l n (k+((M.Instr.cnt x:Nat):Int)) ((i+1:Nat):Int):=by
 unfold KB at hB;unfold M.Instr.cnt at hB ⊢
 have A:(0≤k∧k≤KB)∧(0≤k+1∧k+1≤KB)∧(0≤k+1+1∧k+1+1≤KB)∧(0≤k+1+1+1∧k+1+1+1≤KB)∧(0≤k+1+1+1+1∧k+1+1+1+1≤KB):=by
  unfold KB
  refine ⟨?_,?_,?_,?_,?_⟩<;>omega
 have hE:k+1+1+1+1=k+((M.Instr.cnt x:Nat):Int):=by unfold M.Instr.cnt;omega
 unfold M.Instr.cnt at hE
 obtain ⟨q0,q1,q2,q3,q4⟩:=A
 have w0:=wk2 q0
 have w1:=wk2 q1
 have w2:=wk2 q2
 have t3:aJ (k+1+1+1)=some (mtx (k+1+1+1)):=mt q3.1 (Int.lt_of_add_one_le q4.2)
 have w3:=wk2 q3
 refine ⟨⟨k,k+1,k+1+1,(mtx (k+1+1+1))⟩,fun n pre post hl => ?_,fun n l i hi hl => ?_⟩
 ·have hl':=le_max hl
  have hp:pre.length<9223372036854775807:=by simp at hl';omega
  simp only [dD]
  rw [if_pos (aBr pre post x)]
  simp (maxSteps:=2000000) only [uS,uR,qA,bF hp,w0,w1,w2,t3,w3]
  rw [hE]
 ·have hl':=le_max hl
  have hp:i<9223372036854775807:=by have:=(List.getElem?_eq_some_iff.1 hi).1;omega
  simp only [eD]
  rw [if_pos (aDz hi)]
  simp (maxSteps:=2000000) only [aBT hi,qA,bF hp,w0,w1,w2,t3,w3,bne_self_eq_false,beq_self_eq_true,qB,qD,if_false]
  rw [hE]
theorem M.aDP.gX (xs:List M.Instr) (hx:(xs.length≤maxLen ∧ ∀y∈xs,M.Instr.ok y)) (k:Int) (h0:0≤k) (hB:k+((aF M.Instr.cnt xs:Nat):Int)≤KB) : ∃ys,nO xs k=some (ys,k+((aF M.Instr.cnt xs:Nat):Int))∧tV ys k=some (k+((aF M.Instr.cnt xs:Nat):Int))∧ys.length=xs.length:=by
 have hm:=le_max hx.1
 obtain ⟨ys,h1,h2,h3⟩:=mA (ML:=dD) (HL:=eD) (c:=M.Instr.cnt) (ok:=M.Instr.ok) (fun x hx k h0 hB=>M.Instr.sC x hx k h0 hB) (fun n k l=>by simp only [dD];rw [if_neg (by rw [aP];simp)]) (fun n k l=>by simp only [eD];rw [if_neg (by rw [aP];simp)]) xs [] fuel k (by simpa using hx.1) (by unfold fuel;omega) hx.2 h0 hB
 refine ⟨ys,by unfold nO;simpa using h2,by unfold tV;simpa using h3 fuel (by unfold fuel;omega),h1⟩
set_option maxHeartbeats 4000000 in
theorem M.aDy.sC (x:Int) (hx:True) (k:Int) (h0:0≤k) (hB:k+(((fun _:Int=>1) x:Nat):Int)≤KB) : ∃x':Int,(∀n (pre post:List Int),(pre++x::post).length≤maxLen→dY (n+1) k pre.length (pre++x::post)=dY n (k+(((fun _:Int=>1) x:Nat):Int)) ((pre.length+1:Nat):Int) (pre++x'::post)) ∧ ∀n (l:List Int) (i:Nat),l[i]? = some x'→l.length≤maxLen→fI l (n+1) k i=fI l n (k+(((fun _:Int=>1) x:Nat):Int)) ((i+1:Nat):Int):=by
 unfold KB at hB;(try simp only [] at hB ⊢)
 have A:(0≤k∧k≤KB)∧(0≤k+1∧k+1≤KB):=by
  unfold KB
  refine ⟨?_,?_⟩<;>omega
 have hE:k+1=k+(((fun _:Int=>1) x:Nat):Int):=by simp
 obtain ⟨q0,q1⟩:=A
 have w0:=wk2 q0
 refine ⟨(IntKind.u8.wrap k),fun n pre post hl => ?_,fun n l i hi hl => ?_⟩
 ·have hl':=le_max hl
  have hp:pre.length<9223372036854775807:=by simp at hl';omega
  simp only [dY]
  rw [if_pos (aBr pre post x)]
  simp (maxSteps:=2000000) only [uS,uR,qA,bF hp,w0]
  rw [hE]
 ·have hl':=le_max hl
  have hp:i<9223372036854775807:=by have:=(List.getElem?_eq_some_iff.1 hi).1;omega
  simp only [fI]
  rw [if_pos (aDz hi)]
  simp (maxSteps:=2000000) only [aBT hi,qA,bF hp,w0,bne_self_eq_false,beq_self_eq_true,qB,qD,if_false]
  rw [hE]
theorem M.aDy.cl (xs:List Int):aF (fun _:Int=>1) xs=xs.length:=by
 induction xs with
 | nil=>rfl
 | cons x xs ih=>simp only [aF,ih,qJ];omega
theorem M.aDy.gX (xs:List Int) (hx:okB xs) (k:Int) (h0:0≤k) (hB:k+((xs.length:Nat):Int)≤KB) : ∃ys,pC xs k=some (ys,k+((xs.length:Nat):Int))∧oO ys k=some (k+((xs.length:Nat):Int))∧ys.length=xs.length:=by
 have hm:=le_max hx.1
 rw [←M.aDy.cl xs] at hB ⊢
 obtain ⟨ys,h1,h2,h3⟩:=mA (ML:=dY) (HL:=fI) (c:=(fun _:Int=>1)) (ok:=(fun _:Int=>True)) (fun x hx k h0 hB=>M.aDy.sC x hx k h0 hB) (fun n k l=>by simp only [dY];rw [if_neg (by rw [aP];simp)]) (fun n k l=>by simp only [fI];rw [if_neg (by rw [aP];simp)]) xs [] fuel k (by simpa using hx.1) (by unfold fuel;omega) (fun _ _=>trivial) h0 hB
 refine ⟨ys,by unfold pC;simpa using h2,by unfold oO;simpa using h3 fuel (by unfold fuel;omega),by have:=M.aDy.cl xs;omega⟩
def M.Cached.cnt (x:M.Cached):Nat:=6+(x.Response.Body.length)
set_option maxHeartbeats 4000000 in
theorem M.Cached.sC (x:M.Cached) (hx:M.Cached.ok x) (k:Int) (h0:0≤k) (hB:k+((M.Cached.cnt x:Nat):Int)≤KB) : ∃x':M.Cached,(∀n (pre post:List M.Cached),(pre++x::post).length≤maxLen→cQ (n+1) k pre.length (pre++x::post)=cQ n (k+((M.Cached.cnt x:Nat):Int)) ((pre.length+1:Nat):Int) (pre++x'::post)) ∧ ∀n (l:List M.Cached) (i:Nat),l[i]? = some x'→l.length≤maxLen→dO l (n+1) k i=dO l n (k+((M.Cached.cnt x:Nat):Int)) ((i+1:Nat):Int):=by
 unfold KB at hB;unfold M.Cached.cnt at hB ⊢
 have A:(0≤k∧k≤KB)∧(0≤k+1∧k+1≤KB)∧(0≤k+1+1∧k+1+1≤KB)∧(0≤k+1+1+1∧k+1+1+1≤KB)∧(0≤k+1+1+1+1∧k+1+1+1+1≤KB)∧(0≤k+1+1+1+1+1∧k+1+1+1+1+1≤KB)∧(0≤k+1+1+1+1+1+((x.Response.Body.length:Nat):Int)∧k+1+1+1+1+1+((x.Response.Body.length:Nat):Int)≤KB)∧(0≤k+1+1+1+1+1+((x.Response.Body.length:Nat):Int)+1∧k+1+1+1+1+1+((x.Response.Body.length:Nat):Int)+1≤KB):=by
  unfold KB
  refine ⟨?_,?_,?_,?_,?_,?_,?_,?_⟩<;>omega
 have hE:k+1+1+1+1+1+((x.Response.Body.length:Nat):Int)+1=k+((M.Cached.cnt x:Nat):Int):=by unfold M.Cached.cnt;omega
 unfold M.Cached.cnt at hE
 obtain ⟨q0,q1,q2,q3,q4,q5,q6,q7⟩:=A
 have t0:aJ (k)=some (mtx (k)):=mt q0.1 (Int.lt_of_add_one_le q1.2)
 have w0:=wk2 q0
 have t1:aJ (k+1)=some (mtx (k+1)):=mt q1.1 (Int.lt_of_add_one_le q2.2)
 have w1:=wk2 q1
 have w2:=wk2 q2
 have w3:=wk2 q3
 have w4:=wk2 q4
 obtain ⟨y1,a1,b1,_⟩:=M.aDy.gX _ hx.Response.Body (k+1+1+1+1+1) q5.1 q6.2
 have d1:(decide (k+1+1+1+1+1+((x.Response.Body.length:Nat):Int)<0))=false:=dk q6.1
 have w6:=wk2 q6
 refine ⟨⟨(mtx (k)),(mtx (k+1)),⟨k+1+1,k+1+1+1,k+1+1+1+1,y1,((Int.tmod (k+1+1+1+1+1+((x.Response.Body.length:Nat):Int)) 3)==0)⟩⟩,fun n pre post hl => ?_,fun n l i hi hl => ?_⟩
 ·have hl':=le_max hl
  have hp:pre.length<9223372036854775807:=by simp at hl';omega
  simp only [cQ]
  rw [if_pos (aBr pre post x)]
  simp (maxSteps:=2000000) only [uS,uR,qA,bF hp,t0,w0,t1,w1,w2,w3,w4,a1,w6]
  rw [hE]
 ·have hl':=le_max hl
  have hp:i<9223372036854775807:=by have:=(List.getElem?_eq_some_iff.1 hi).1;omega
  simp only [dO]
  rw [if_pos (aDz hi)]
  simp (maxSteps:=2000000) only [aBT hi,qA,bF hp,t0,w0,t1,w1,w2,w3,w4,b1,d1,w6,bne_self_eq_false,beq_self_eq_true,qB,qD,if_false]
  rw [hE]
theorem M.aD0.gX (xs:List M.Cached) (hx:(xs.length≤maxLen ∧ ∀y∈xs,M.Cached.ok y)) (k:Int) (h0:0≤k) (hB:k+((aF M.Cached.cnt xs:Nat):Int)≤KB) : ∃ys,pN xs k=some (ys,k+((aF M.Cached.cnt xs:Nat):Int))∧pF ys k=some (k+((aF M.Cached.cnt xs:Nat):Int))∧ys.length=xs.length:=by
 have hm:=le_max hx.1
 obtain ⟨ys,h1,h2,h3⟩:=mA (ML:=cQ) (HL:=dO) (c:=M.Cached.cnt) (ok:=M.Cached.ok) (fun x hx k h0 hB=>M.Cached.sC x hx k h0 hB) (fun n k l=>by simp only [cQ];rw [if_neg (by rw [aP];simp)]) (fun n k l=>by simp only [dO];rw [if_neg (by rw [aP];simp)]) xs [] fuel k (by simpa using hx.1) (by unfold fuel;omega) hx.2 h0 hB
 refine ⟨ys,by unfold pN;simpa using h2,by unfold pF;simpa using h3 fuel (by unfold fuel;omega),h1⟩
def M.Cache.cnt (x:M.Cache):Nat:=1+(aF M.Cached.cnt x.Entries)
set_option maxHeartbeats 4000000 in
theorem M.Cache.sC (x:M.Cache) (hx:M.Cache.ok x) (k:Int) (h0:0≤k) (hB:k+((M.Cache.cnt x:Nat):Int)≤KB) : ∃x':M.Cache,(∀n (pre post:List M.Cache),(pre++x::post).length≤maxLen→dI (n+1) k pre.length (pre++x::post)=dI n (k+((M.Cache.cnt x:Nat):Int)) ((pre.length+1:Nat):Int) (pre++x'::post)) ∧ ∀n (l:List M.Cache) (i:Nat),l[i]? = some x'→l.length≤maxLen→eG l (n+1) k i=eG l n (k+((M.Cache.cnt x:Nat):Int)) ((i+1:Nat):Int):=by
 unfold KB at hB;unfold M.Cache.cnt at hB ⊢
 have A:(0≤k∧k≤KB)∧(0≤k+1∧k+1≤KB)∧(0≤k+1+((aF M.Cached.cnt x.Entries:Nat):Int)∧k+1+((aF M.Cached.cnt x.Entries:Nat):Int)≤KB):=by
  unfold KB
  refine ⟨?_,?_,?_⟩<;>omega
 have hE:k+1+((aF M.Cached.cnt x.Entries:Nat):Int)=k+((M.Cache.cnt x:Nat):Int):=by unfold M.Cache.cnt;omega
 unfold M.Cache.cnt at hE
 obtain ⟨q0,q1,q2⟩:=A
 have w0:=wk2 q0
 obtain ⟨y1,a1,b1,_⟩:=M.aD0.gX _ hx.Entries (k+1) q1.1 q2.2
 have d1:(decide (k+1+((aF M.Cached.cnt x.Entries:Nat):Int)<0))=false:=dk q2.1
 refine ⟨⟨k,y1⟩,fun n pre post hl => ?_,fun n l i hi hl => ?_⟩
 ·have hl':=le_max hl
  have hp:pre.length<9223372036854775807:=by simp at hl';omega
  simp only [dI]
  rw [if_pos (aBr pre post x)]
  simp (maxSteps:=2000000) only [uS,uR,qA,bF hp,w0,a1]
  rw [hE]
 ·have hl':=le_max hl
  have hp:i<9223372036854775807:=by have:=(List.getElem?_eq_some_iff.1 hi).1;omega
  simp only [eG]
  rw [if_pos (aDz hi)]
  simp (maxSteps:=2000000) only [aBT hi,qA,bF hp,w0,b1,d1,bne_self_eq_false,beq_self_eq_true,qB,qD,if_false]
  rw [hE]
theorem M.aF4.gX (xs:List M.Cache) (hx:(xs.length≤maxLen ∧ ∀y∈xs,M.Cache.ok y)) (k:Int) (h0:0≤k) (hB:k+((aF M.Cache.cnt xs:Nat):Int)≤KB) : ∃ys,uP xs k=some (ys,k+((aF M.Cache.cnt xs:Nat):Int))∧sN ys k=some (k+((aF M.Cache.cnt xs:Nat):Int))∧ys.length=xs.length:=by
 have hm:=le_max hx.1
 obtain ⟨ys,h1,h2,h3⟩:=mA (ML:=dI) (HL:=eG) (c:=M.Cache.cnt) (ok:=M.Cache.ok) (fun x hx k h0 hB=>M.Cache.sC x hx k h0 hB) (fun n k l=>by simp only [dI];rw [if_neg (by rw [aP];simp)]) (fun n k l=>by simp only [eG];rw [if_neg (by rw [aP];simp)]) xs [] fuel k (by simpa using hx.1) (by unfold fuel;omega) hx.2 h0 hB
 refine ⟨ys,by unfold uP;simpa using h2,by unfold sN;simpa using h3 fuel (by unfold fuel;omega),h1⟩
def M.Field.cnt (x:M.Field):Nat:=2
set_option maxHeartbeats 4000000 in
theorem M.Field.sC (x:M.Field) (hx:M.Field.ok x) (k:Int) (h0:0≤k) (hB:k+((M.Field.cnt x:Nat):Int)≤KB) : ∃x':M.Field,(∀n (pre post:List M.Field),(pre++x::post).length≤maxLen→dE (n+1) k pre.length (pre++x::post)=dE n (k+((M.Field.cnt x:Nat):Int)) ((pre.length+1:Nat):Int) (pre++x'::post)) ∧ ∀n (l:List M.Field) (i:Nat),l[i]? = some x'→l.length≤maxLen→eK l (n+1) k i=eK l n (k+((M.Field.cnt x:Nat):Int)) ((i+1:Nat):Int):=by
 unfold KB at hB;unfold M.Field.cnt at hB ⊢
 have A:(0≤k∧k≤KB)∧(0≤k+1∧k+1≤KB)∧(0≤k+1+1∧k+1+1≤KB):=by
  unfold KB
  refine ⟨?_,?_,?_⟩<;>omega
 have hE:k+1+1=k+((M.Field.cnt x:Nat):Int):=by unfold M.Field.cnt;omega
 unfold M.Field.cnt at hE
 obtain ⟨q0,q1,q2⟩:=A
 have t0:aJ (k)=some (mtx (k)):=mt q0.1 (Int.lt_of_add_one_le q1.2)
 have w0:=wk2 q0
 have w1:=wk2 q1
 refine ⟨⟨(mtx (k)),k+1⟩,fun n pre post hl => ?_,fun n l i hi hl => ?_⟩
 ·have hl':=le_max hl
  have hp:pre.length<9223372036854775807:=by simp at hl';omega
  simp only [dE]
  rw [if_pos (aBr pre post x)]
  simp (maxSteps:=2000000) only [uS,uR,qA,bF hp,t0,w0,w1]
  rw [hE]
 ·have hl':=le_max hl
  have hp:i<9223372036854775807:=by have:=(List.getElem?_eq_some_iff.1 hi).1;omega
  simp only [eK]
  rw [if_pos (aDz hi)]
  simp (maxSteps:=2000000) only [aBT hi,qA,bF hp,t0,w0,w1,bne_self_eq_false,beq_self_eq_true,qB,qD,if_false]
  rw [hE]
theorem M.aGY.gX (xs:List M.Field) (hx:(xs.length≤maxLen ∧ ∀y∈xs,M.Field.ok y)) (k:Int) (h0:0≤k) (hB:k+((aF M.Field.cnt xs:Nat):Int)≤KB) : ∃ys,uG xs k=some (ys,k+((aF M.Field.cnt xs:Nat):Int))∧tE ys k=some (k+((aF M.Field.cnt xs:Nat):Int))∧ys.length=xs.length:=by
 have hm:=le_max hx.1
 obtain ⟨ys,h1,h2,h3⟩:=mA (ML:=dE) (HL:=eK) (c:=M.Field.cnt) (ok:=M.Field.ok) (fun x hx k h0 hB=>M.Field.sC x hx k h0 hB) (fun n k l=>by simp only [dE];rw [if_neg (by rw [aP];simp)]) (fun n k l=>by simp only [eK];rw [if_neg (by rw [aP];simp)]) xs [] fuel k (by simpa using hx.1) (by unfold fuel;omega) hx.2 h0 hB
 refine ⟨ys,by unfold uG;simpa using h2,by unfold tE;simpa using h3 fuel (by unfold fuel;omega),h1⟩
def M.Item.cnt (x:M.Item):Nat:=3+(aF M.Field.cnt x.aW.Fields)
set_option maxHeartbeats 4000000 in
theorem M.Item.sC (x:M.Item) (hx:M.Item.ok x) (k:Int) (h0:0≤k) (hB:k+((M.Item.cnt x:Nat):Int)≤KB) : ∃x':M.Item,(∀n (pre post:List M.Item),(pre++x::post).length≤maxLen→dW (n+1) k pre.length (pre++x::post)=dW n (k+((M.Item.cnt x:Nat):Int)) ((pre.length+1:Nat):Int) (pre++x'::post)) ∧ ∀n (l:List M.Item) (i:Nat),l[i]? = some x'→l.length≤maxLen→fK l (n+1) k i=fK l n (k+((M.Item.cnt x:Nat):Int)) ((i+1:Nat):Int):=by
 unfold KB at hB;unfold M.Item.cnt at hB ⊢
 have A:(0≤k∧k≤KB)∧(0≤k+1∧k+1≤KB)∧(0≤k+1+1∧k+1+1≤KB)∧(0≤k+1+1+1∧k+1+1+1≤KB)∧(0≤k+1+1+1+((aF M.Field.cnt x.aW.Fields:Nat):Int)∧k+1+1+1+((aF M.Field.cnt x.aW.Fields:Nat):Int)≤KB):=by
  unfold KB
  refine ⟨?_,?_,?_,?_,?_⟩<;>omega
 have hE:k+1+1+1+((aF M.Field.cnt x.aW.Fields:Nat):Int)=k+((M.Item.cnt x:Nat):Int):=by unfold M.Item.cnt;omega
 unfold M.Item.cnt at hE
 obtain ⟨q0,q1,q2,q3,q4⟩:=A
 have w0:=wk2 q0
 have w1:=wk2 q1
 have t2:aJ (k+1+1)=some (mtx (k+1+1)):=mt q2.1 (Int.lt_of_add_one_le q3.2)
 have w2:=wk2 q2
 obtain ⟨y1,a1,b1,_⟩:=M.aGY.gX _ hx.aW.Fields (k+1+1+1) q3.1 q4.2
 have d1:(decide (k+1+1+1+((aF M.Field.cnt x.aW.Fields:Nat):Int)<0))=false:=dk q4.1
 refine ⟨⟨⟨k,k+1,(mtx (k+1+1))⟩,⟨y1⟩⟩,fun n pre post hl => ?_,fun n l i hi hl => ?_⟩
 ·have hl':=le_max hl
  have hp:pre.length<9223372036854775807:=by simp at hl';omega
  simp only [dW]
  rw [if_pos (aBr pre post x)]
  simp (maxSteps:=2000000) only [uS,uR,qA,bF hp,w0,w1,t2,w2,a1]
  rw [hE]
 ·have hl':=le_max hl
  have hp:i<9223372036854775807:=by have:=(List.getElem?_eq_some_iff.1 hi).1;omega
  simp only [fK]
  rw [if_pos (aDz hi)]
  simp (maxSteps:=2000000) only [aBT hi,qA,bF hp,w0,w1,t2,w2,b1,d1,bne_self_eq_false,beq_self_eq_true,qB,qD,if_false]
  rw [hE]
theorem M.aGr.gX (xs:List M.Item) (hx:(xs.length≤maxLen ∧ ∀y∈xs,M.Item.ok y)) (k:Int) (h0:0≤k) (hB:k+((aF M.Item.cnt xs:Nat):Int)≤KB) : ∃ys,mF xs k=some (ys,k+((aF M.Item.cnt xs:Nat):Int))∧mI ys k=some (k+((aF M.Item.cnt xs:Nat):Int))∧ys.length=xs.length:=by
 have hm:=le_max hx.1
 obtain ⟨ys,h1,h2,h3⟩:=mA (ML:=dW) (HL:=fK) (c:=M.Item.cnt) (ok:=M.Item.ok) (fun x hx k h0 hB=>M.Item.sC x hx k h0 hB) (fun n k l=>by simp only [dW];rw [if_neg (by rw [aP];simp)]) (fun n k l=>by simp only [fK];rw [if_neg (by rw [aP];simp)]) xs [] fuel k (by simpa using hx.1) (by unfold fuel;omega) hx.2 h0 hB
 refine ⟨ys,by unfold mF;simpa using h2,by unfold mI;simpa using h3 fuel (by unfold fuel;omega),h1⟩
def M.aH.cnt (x:M.aH):Nat:=2+(aF M.Item.cnt x.Items)
set_option maxHeartbeats 4000000 in
theorem M.aH.sC (x:M.aH) (hx:M.aH.ok x) (k:Int) (h0:0≤k) (hB:k+((M.aH.cnt x:Nat):Int)≤KB) : ∃x':M.aH,(∀n (pre post:List M.aH),(pre++x::post).length≤maxLen→dH (n+1) k pre.length (pre++x::post)=dH n (k+((M.aH.cnt x:Nat):Int)) ((pre.length+1:Nat):Int) (pre++x'::post)) ∧ ∀n (l:List M.aH) (i:Nat),l[i]? = some x'→l.length≤maxLen→eH l (n+1) k i=eH l n (k+((M.aH.cnt x:Nat):Int)) ((i+1:Nat):Int):=by
 unfold KB at hB;unfold M.aH.cnt at hB ⊢
 have A:(0≤k∧k≤KB)∧(0≤k+1∧k+1≤KB)∧(0≤k+1+((aF M.Item.cnt x.Items:Nat):Int)∧k+1+((aF M.Item.cnt x.Items:Nat):Int)≤KB)∧(0≤k+1+((aF M.Item.cnt x.Items:Nat):Int)+1∧k+1+((aF M.Item.cnt x.Items:Nat):Int)+1≤KB):=by
  unfold KB
  refine ⟨?_,?_,?_,?_⟩<;>omega
 have hE:k+1+((aF M.Item.cnt x.Items:Nat):Int)+1=k+((M.aH.cnt x:Nat):Int):=by unfold M.aH.cnt;omega
 unfold M.aH.cnt at hE
 obtain ⟨q0,q1,q2,q3⟩:=A
 have t0:aJ (k)=some (mtx (k)):=mt q0.1 (Int.lt_of_add_one_le q1.2)
 have w0:=wk2 q0
 obtain ⟨y1,a1,b1,_⟩:=M.aGr.gX _ hx.Items (k+1) q1.1 q2.2
 have d1:(decide (k+1+((aF M.Item.cnt x.Items:Nat):Int)<0))=false:=dk q2.1
 have w2:=wk2 q2
 refine ⟨⟨(mtx (k)),y1,k+1+((aF M.Item.cnt x.Items:Nat):Int)⟩,fun n pre post hl => ?_,fun n l i hi hl => ?_⟩
 ·have hl':=le_max hl
  have hp:pre.length<9223372036854775807:=by simp at hl';omega
  simp only [dH]
  rw [if_pos (aBr pre post x)]
  simp (maxSteps:=2000000) only [uS,uR,qA,bF hp,t0,w0,a1,w2]
  rw [hE]
 ·have hl':=le_max hl
  have hp:i<9223372036854775807:=by have:=(List.getElem?_eq_some_iff.1 hi).1;omega
  simp only [eH]
  rw [if_pos (aDz hi)]
  simp (maxSteps:=2000000) only [aBT hi,qA,bF hp,t0,w0,b1,d1,w2,bne_self_eq_false,beq_self_eq_true,qB,qD,if_false]
  rw [hE]
theorem M.aFs.gX (xs:List M.aH) (hx:(xs.length≤maxLen ∧ ∀y∈xs,M.aH.ok y)) (k:Int) (h0:0≤k) (hB:k+((aF M.aH.cnt xs:Nat):Int)≤KB) : ∃ys,tA xs k=some (ys,k+((aF M.aH.cnt xs:Nat):Int))∧sI ys k=some (k+((aF M.aH.cnt xs:Nat):Int))∧ys.length=xs.length:=by
 have hm:=le_max hx.1
 obtain ⟨ys,h1,h2,h3⟩:=mA (ML:=dH) (HL:=eH) (c:=M.aH.cnt) (ok:=M.aH.ok) (fun x hx k h0 hB=>M.aH.sC x hx k h0 hB) (fun n k l=>by simp only [dH];rw [if_neg (by rw [aP];simp)]) (fun n k l=>by simp only [eH];rw [if_neg (by rw [aP];simp)]) xs [] fuel k (by simpa using hx.1) (by unfold fuel;omega) hx.2 h0 hB
 refine ⟨ys,by unfold tA;simpa using h2,by unfold sI;simpa using h3 fuel (by unfold fuel;omega),h1⟩
def M.aE.cnt (x:M.aE):Nat:=2
set_option maxHeartbeats 4000000 in
theorem M.aE.sC (x:M.aE) (hx:M.aE.ok x) (k:Int) (h0:0≤k) (hB:k+((M.aE.cnt x:Nat):Int)≤KB) : ∃x':M.aE,(∀n (pre post:List M.aE),(pre++x::post).length≤maxLen→bY (n+1) k pre.length (pre++x::post)=bY n (k+((M.aE.cnt x:Nat):Int)) ((pre.length+1:Nat):Int) (pre++x'::post)) ∧ ∀n (l:List M.aE) (i:Nat),l[i]? = some x'→l.length≤maxLen→cM l (n+1) k i=cM l n (k+((M.aE.cnt x:Nat):Int)) ((i+1:Nat):Int):=by
 unfold KB at hB;unfold M.aE.cnt at hB ⊢
 have A:(0≤k∧k≤KB)∧(0≤k+1∧k+1≤KB)∧(0≤k+1+1∧k+1+1≤KB):=by
  unfold KB
  refine ⟨?_,?_,?_⟩<;>omega
 have hE:k+1+1=k+((M.aE.cnt x:Nat):Int):=by unfold M.aE.cnt;omega
 unfold M.aE.cnt at hE
 obtain ⟨q0,q1,q2⟩:=A
 have t0:aJ (k)=some (mtx (k)):=mt q0.1 (Int.lt_of_add_one_le q1.2)
 have w0:=wk2 q0
 have t1:aJ (k+1)=some (mtx (k+1)):=mt q1.1 (Int.lt_of_add_one_le q2.2)
 have w1:=wk2 q1
 refine ⟨⟨(mtx (k)),(mtx (k+1))⟩,fun n pre post hl => ?_,fun n l i hi hl => ?_⟩
 ·have hl':=le_max hl
  have hp:pre.length<9223372036854775807:=by simp at hl';omega
  simp only [bY]
  rw [if_pos (aBr pre post x)]
  simp (maxSteps:=2000000) only [uS,uR,qA,bF hp,t0,w0,t1,w1]
  rw [hE]
 ·have hl':=le_max hl
  have hp:i<9223372036854775807:=by have:=(List.getElem?_eq_some_iff.1 hi).1;omega
  simp only [cM]
  rw [if_pos (aDz hi)]
  simp (maxSteps:=2000000) only [aBT hi,qA,bF hp,t0,w0,t1,w1,bne_self_eq_false,beq_self_eq_true,qB,qD,if_false]
  rw [hE]
theorem M.aCI.gX (xs:List M.aE) (hx:(xs.length≤maxLen ∧ ∀y∈xs,M.aE.ok y)) (k:Int) (h0:0≤k) (hB:k+((aF M.aE.cnt xs:Nat):Int)≤KB) : ∃ys,mQ xs k=some (ys,k+((aF M.aE.cnt xs:Nat):Int))∧mP ys k=some (k+((aF M.aE.cnt xs:Nat):Int))∧ys.length=xs.length:=by
 have hm:=le_max hx.1
 obtain ⟨ys,h1,h2,h3⟩:=mA (ML:=bY) (HL:=cM) (c:=M.aE.cnt) (ok:=M.aE.ok) (fun x hx k h0 hB=>M.aE.sC x hx k h0 hB) (fun n k l=>by simp only [bY];rw [if_neg (by rw [aP];simp)]) (fun n k l=>by simp only [cM];rw [if_neg (by rw [aP];simp)]) xs [] fuel k (by simpa using hx.1) (by unfold fuel;omega) hx.2 h0 hB
 refine ⟨ys,by unfold mQ;simpa using h2,by unfold mP;simpa using h3 fuel (by unfold fuel;omega),h1⟩
def M.aZ.cnt (x:M.aZ):Nat:=7
set_option maxHeartbeats 4000000 in
theorem M.aZ.sC (x:M.aZ) (hx:M.aZ.ok x) (k:Int) (h0:0≤k) (hB:k+((M.aZ.cnt x:Nat):Int)≤KB) : ∃x':M.aZ,(∀n (pre post:List M.aZ),(pre++x::post).length≤maxLen→dG (n+1) k pre.length (pre++x::post)=dG n (k+((M.aZ.cnt x:Nat):Int)) ((pre.length+1:Nat):Int) (pre++x'::post)) ∧ ∀n (l:List M.aZ) (i:Nat),l[i]? = some x'→l.length≤maxLen→eE l (n+1) k i=eE l n (k+((M.aZ.cnt x:Nat):Int)) ((i+1:Nat):Int):=by
 unfold KB at hB;unfold M.aZ.cnt at hB ⊢
 have A:(0≤k∧k≤KB)∧(0≤k+1∧k+1≤KB)∧(0≤k+1+1∧k+1+1≤KB)∧(0≤k+1+1+1∧k+1+1+1≤KB)∧(0≤k+1+1+1+1∧k+1+1+1+1≤KB)∧(0≤k+1+1+1+1+1∧k+1+1+1+1+1≤KB)∧(0≤k+1+1+1+1+1+1∧k+1+1+1+1+1+1≤KB)∧(0≤k+1+1+1+1+1+1+1∧k+1+1+1+1+1+1+1≤KB):=by
  unfold KB
  refine ⟨?_,?_,?_,?_,?_,?_,?_,?_⟩<;>omega
 have hE:k+1+1+1+1+1+1+1=k+((M.aZ.cnt x:Nat):Int):=by unfold M.aZ.cnt;omega
 unfold M.aZ.cnt at hE
 obtain ⟨q0,q1,q2,q3,q4,q5,q6,q7⟩:=A
 have w0:=wk2 q0
 have w1:=wk2 q1
 have w2:=wk2 q2
 have w3:=wk2 q3
 have t4:aJ (k+1+1+1+1)=some (mtx (k+1+1+1+1)):=mt q4.1 (Int.lt_of_add_one_le q5.2)
 have w4:=wk2 q4
 have t5:aJ (k+1+1+1+1+1)=some (mtx (k+1+1+1+1+1)):=mt q5.1 (Int.lt_of_add_one_le q6.2)
 have w5:=wk2 q5
 have w6:=wk2 q6
 refine ⟨⟨k,k+1,⟨k+1+1,k+1+1+1,(mtx (k+1+1+1+1))⟩,(mtx (k+1+1+1+1+1)),k+1+1+1+1+1+1⟩,fun n pre post hl => ?_,fun n l i hi hl => ?_⟩
 ·have hl':=le_max hl
  have hp:pre.length<9223372036854775807:=by simp at hl';omega
  simp only [dG]
  rw [if_pos (aBr pre post x)]
  simp (maxSteps:=2000000) only [uS,uR,qA,bF hp,w0,w1,w2,w3,t4,w4,t5,w5,w6]
  rw [hE]
 ·have hl':=le_max hl
  have hp:i<9223372036854775807:=by have:=(List.getElem?_eq_some_iff.1 hi).1;omega
  simp only [eE]
  rw [if_pos (aDz hi)]
  simp (maxSteps:=2000000) only [aBT hi,qA,bF hp,w0,w1,w2,w3,t4,w4,t5,w5,w6,bne_self_eq_false,beq_self_eq_true,qB,qD,if_false]
  rw [hE]
theorem M.aDJ.gX (xs:List M.aZ) (hx:(xs.length≤maxLen ∧ ∀y∈xs,M.aZ.ok y)) (k:Int) (h0:0≤k) (hB:k+((aF M.aZ.cnt xs:Nat):Int)≤KB) : ∃ys,nF xs k=some (ys,k+((aF M.aZ.cnt xs:Nat):Int))∧nI ys k=some (k+((aF M.aZ.cnt xs:Nat):Int))∧ys.length=xs.length:=by
 have hm:=le_max hx.1
 obtain ⟨ys,h1,h2,h3⟩:=mA (ML:=dG) (HL:=eE) (c:=M.aZ.cnt) (ok:=M.aZ.ok) (fun x hx k h0 hB=>M.aZ.sC x hx k h0 hB) (fun n k l=>by simp only [dG];rw [if_neg (by rw [aP];simp)]) (fun n k l=>by simp only [eE];rw [if_neg (by rw [aP];simp)]) xs [] fuel k (by simpa using hx.1) (by unfold fuel;omega) hx.2 h0 hB
 refine ⟨ys,by unfold nF;simpa using h2,by unfold nI;simpa using h3 fuel (by unfold fuel;omega),h1⟩
def M.aC.cnt (x:M.aC):Nat:=18+(aF M.Cache.cnt x.Caches.Caches)+(aF M.aH.cnt x.bC.Base.Stores)+(aF M.aE.cnt x.bC.Base.Unique)+(x.bC.Log.length)+(aF M.Item.cnt x.aD.Base.Items)+(aF M.aZ.cnt x.aD.Sync.aR.Writes)
set_option maxHeartbeats 4000000 in
theorem M.aC.sC (x:M.aC) (hx:M.aC.ok x) (k:Int) (h0:0≤k) (hB:k+((M.aC.cnt x:Nat):Int)≤KB) : ∃x':M.aC,(∀n (pre post:List M.aC),(pre++x::post).length≤maxLen→cV (n+1) k pre.length (pre++x::post)=cV n (k+((M.aC.cnt x:Nat):Int)) ((pre.length+1:Nat):Int) (pre++x'::post)) ∧ ∀n (l:List M.aC) (i:Nat),l[i]? = some x'→l.length≤maxLen→cT l (n+1) k i=cT l n (k+((M.aC.cnt x:Nat):Int)) ((i+1:Nat):Int):=by
 unfold KB at hB;unfold M.aC.cnt at hB ⊢
 have A:(0≤k∧k≤KB)∧(0≤k+1∧k+1≤KB)∧(0≤k+1+1∧k+1+1≤KB)∧(0≤k+1+1+1∧k+1+1+1≤KB)∧(0≤k+1+1+1+1∧k+1+1+1+1≤KB)∧(0≤k+1+1+1+1+1∧k+1+1+1+1+1≤KB)∧(0≤k+1+1+1+1+1+1∧k+1+1+1+1+1+1≤KB)∧(0≤k+1+1+1+1+1+1+((aF M.Cache.cnt x.Caches.Caches:Nat):Int)∧k+1+1+1+1+1+1+((aF M.Cache.cnt x.Caches.Caches:Nat):Int)≤KB)∧(0≤k+1+1+1+1+1+1+((aF M.Cache.cnt x.Caches.Caches:Nat):Int)+1∧k+1+1+1+1+1+1+((aF M.Cache.cnt x.Caches.Caches:Nat):Int)+1≤KB)∧(0≤k+1+1+1+1+1+1+((aF M.Cache.cnt x.Caches.Caches:Nat):Int)+1+1∧k+1+1+1+1+1+1+((aF M.Cache.cnt x.Caches.Caches:Nat):Int)+1+1≤KB)∧(0≤k+1+1+1+1+1+1+((aF M.Cache.cnt x.Caches.Caches:Nat):Int)+1+1+((aF M.aH.cnt x.bC.Base.Stores:Nat):Int)∧k+1+1+1+1+1+1+((aF M.Cache.cnt x.Caches.Caches:Nat):Int)+1+1+((aF M.aH.cnt x.bC.Base.Stores:Nat):Int)≤KB)∧(0≤k+1+1+1+1+1+1+((aF M.Cache.cnt x.Caches.Caches:Nat):Int)+1+1+((aF M.aH.cnt x.bC.Base.Stores:Nat):Int)+((aF M.aE.cnt x.bC.Base.Unique:Nat):Int)∧k+1+1+1+1+1+1+((aF M.Cache.cnt x.Caches.Caches:Nat):Int)+1+1+((aF M.aH.cnt x.bC.Base.Stores:Nat):Int)+((aF M.aE.cnt x.bC.Base.Unique:Nat):Int)≤KB)∧(0≤k+1+1+1+1+1+1+((aF M.Cache.cnt x.Caches.Caches:Nat):Int)+1+1+((aF M.aH.cnt x.bC.Base.Stores:Nat):Int)+((aF M.aE.cnt x.bC.Base.Unique:Nat):Int)+((x.bC.Log.length:Nat):Int)∧k+1+1+1+1+1+1+((aF M.Cache.cnt x.Caches.Caches:Nat):Int)+1+1+((aF M.aH.cnt x.bC.Base.Stores:Nat):Int)+((aF M.aE.cnt x.bC.Base.Unique:Nat):Int)+((x.bC.Log.length:Nat):Int)≤KB)∧(0≤k+1+1+1+1+1+1+((aF M.Cache.cnt x.Caches.Caches:Nat):Int)+1+1+((aF M.aH.cnt x.bC.Base.Stores:Nat):Int)+((aF M.aE.cnt x.bC.Base.Unique:Nat):Int)+((x.bC.Log.length:Nat):Int)+1∧k+1+1+1+1+1+1+((aF M.Cache.cnt x.Caches.Caches:Nat):Int)+1+1+((aF M.aH.cnt x.bC.Base.Stores:Nat):Int)+((aF M.aE.cnt x.bC.Base.Unique:Nat):Int)+((x.bC.Log.length:Nat):Int)+1≤KB)∧(0≤k+1+1+1+1+1+1+((aF M.Cache.cnt x.Caches.Caches:Nat):Int)+1+1+((aF M.aH.cnt x.bC.Base.Stores:Nat):Int)+((aF M.aE.cnt x.bC.Base.Unique:Nat):Int)+((x.bC.Log.length:Nat):Int)+1+1∧k+1+1+1+1+1+1+((aF M.Cache.cnt x.Caches.Caches:Nat):Int)+1+1+((aF M.aH.cnt x.bC.Base.Stores:Nat):Int)+((aF M.aE.cnt x.bC.Base.Unique:Nat):Int)+((x.bC.Log.length:Nat):Int)+1+1≤KB)∧(0≤k+1+1+1+1+1+1+((aF M.Cache.cnt x.Caches.Caches:Nat):Int)+1+1+((aF M.aH.cnt x.bC.Base.Stores:Nat):Int)+((aF M.aE.cnt x.bC.Base.Unique:Nat):Int)+((x.bC.Log.length:Nat):Int)+1+1+((aF M.Item.cnt x.aD.Base.Items:Nat):Int)∧k+1+1+1+1+1+1+((aF M.Cache.cnt x.Caches.Caches:Nat):Int)+1+1+((aF M.aH.cnt x.bC.Base.Stores:Nat):Int)+((aF M.aE.cnt x.bC.Base.Unique:Nat):Int)+((x.bC.Log.length:Nat):Int)+1+1+((aF M.Item.cnt x.aD.Base.Items:Nat):Int)≤KB)∧(0≤k+1+1+1+1+1+1+((aF M.Cache.cnt x.Caches.Caches:Nat):Int)+1+1+((aF M.aH.cnt x.bC.Base.Stores:Nat):Int)+((aF M.aE.cnt x.bC.Base.Unique:Nat):Int)+((x.bC.Log.length:Nat):Int)+1+1+((aF M.Item.cnt x.aD.Base.Items:Nat):Int)+1∧k+1+1+1+1+1+1+((aF M.Cache.cnt x.Caches.Caches:Nat):Int)+1+1+((aF M.aH.cnt x.bC.Base.Stores:Nat):Int)+((aF M.aE.cnt x.bC.Base.Unique:Nat):Int)+((x.bC.Log.length:Nat):Int)+1+1+((aF M.Item.cnt x.aD.Base.Items:Nat):Int)+1≤KB)∧(0≤k+1+1+1+1+1+1+((aF M.Cache.cnt x.Caches.Caches:Nat):Int)+1+1+((aF M.aH.cnt x.bC.Base.Stores:Nat):Int)+((aF M.aE.cnt x.bC.Base.Unique:Nat):Int)+((x.bC.Log.length:Nat):Int)+1+1+((aF M.Item.cnt x.aD.Base.Items:Nat):Int)+1+1∧k+1+1+1+1+1+1+((aF M.Cache.cnt x.Caches.Caches:Nat):Int)+1+1+((aF M.aH.cnt x.bC.Base.Stores:Nat):Int)+((aF M.aE.cnt x.bC.Base.Unique:Nat):Int)+((x.bC.Log.length:Nat):Int)+1+1+((aF M.Item.cnt x.aD.Base.Items:Nat):Int)+1+1≤KB)∧(0≤k+1+1+1+1+1+1+((aF M.Cache.cnt x.Caches.Caches:Nat):Int)+1+1+((aF M.aH.cnt x.bC.Base.Stores:Nat):Int)+((aF M.aE.cnt x.bC.Base.Unique:Nat):Int)+((x.bC.Log.length:Nat):Int)+1+1+((aF M.Item.cnt x.aD.Base.Items:Nat):Int)+1+1+1∧k+1+1+1+1+1+1+((aF M.Cache.cnt x.Caches.Caches:Nat):Int)+1+1+((aF M.aH.cnt x.bC.Base.Stores:Nat):Int)+((aF M.aE.cnt x.bC.Base.Unique:Nat):Int)+((x.bC.Log.length:Nat):Int)+1+1+((aF M.Item.cnt x.aD.Base.Items:Nat):Int)+1+1+1≤KB)∧(0≤k+1+1+1+1+1+1+((aF M.Cache.cnt x.Caches.Caches:Nat):Int)+1+1+((aF M.aH.cnt x.bC.Base.Stores:Nat):Int)+((aF M.aE.cnt x.bC.Base.Unique:Nat):Int)+((x.bC.Log.length:Nat):Int)+1+1+((aF M.Item.cnt x.aD.Base.Items:Nat):Int)+1+1+1+1∧k+1+1+1+1+1+1+((aF M.Cache.cnt x.Caches.Caches:Nat):Int)+1+1+((aF M.aH.cnt x.bC.Base.Stores:Nat):Int)+((aF M.aE.cnt x.bC.Base.Unique:Nat):Int)+((x.bC.Log.length:Nat):Int)+1+1+((aF M.Item.cnt x.aD.Base.Items:Nat):Int)+1+1+1+1≤KB)∧(0≤k+1+1+1+1+1+1+((aF M.Cache.cnt x.Caches.Caches:Nat):Int)+1+1+((aF M.aH.cnt x.bC.Base.Stores:Nat):Int)+((aF M.aE.cnt x.bC.Base.Unique:Nat):Int)+((x.bC.Log.length:Nat):Int)+1+1+((aF M.Item.cnt x.aD.Base.Items:Nat):Int)+1+1+1+1+((aF M.aZ.cnt x.aD.Sync.aR.Writes:Nat):Int)∧k+1+1+1+1+1+1+((aF M.Cache.cnt x.Caches.Caches:Nat):Int)+1+1+((aF M.aH.cnt x.bC.Base.Stores:Nat):Int)+((aF M.aE.cnt x.bC.Base.Unique:Nat):Int)+((x.bC.Log.length:Nat):Int)+1+1+((aF M.Item.cnt x.aD.Base.Items:Nat):Int)+1+1+1+1+((aF M.aZ.cnt x.aD.Sync.aR.Writes:Nat):Int)≤KB)∧(0≤k+1+1+1+1+1+1+((aF M.Cache.cnt x.Caches.Caches:Nat):Int)+1+1+((aF M.aH.cnt x.bC.Base.Stores:Nat):Int)+((aF M.aE.cnt x.bC.Base.Unique:Nat):Int)+((x.bC.Log.length:Nat):Int)+1+1+((aF M.Item.cnt x.aD.Base.Items:Nat):Int)+1+1+1+1+((aF M.aZ.cnt x.aD.Sync.aR.Writes:Nat):Int)+1∧k+1+1+1+1+1+1+((aF M.Cache.cnt x.Caches.Caches:Nat):Int)+1+1+((aF M.aH.cnt x.bC.Base.Stores:Nat):Int)+((aF M.aE.cnt x.bC.Base.Unique:Nat):Int)+((x.bC.Log.length:Nat):Int)+1+1+((aF M.Item.cnt x.aD.Base.Items:Nat):Int)+1+1+1+1+((aF M.aZ.cnt x.aD.Sync.aR.Writes:Nat):Int)+1≤KB)∧(0≤k+1+1+1+1+1+1+((aF M.Cache.cnt x.Caches.Caches:Nat):Int)+1+1+((aF M.aH.cnt x.bC.Base.Stores:Nat):Int)+((aF M.aE.cnt x.bC.Base.Unique:Nat):Int)+((x.bC.Log.length:Nat):Int)+1+1+((aF M.Item.cnt x.aD.Base.Items:Nat):Int)+1+1+1+1+((aF M.aZ.cnt x.aD.Sync.aR.Writes:Nat):Int)+1+1∧k+1+1+1+1+1+1+((aF M.Cache.cnt x.Caches.Caches:Nat):Int)+1+1+((aF M.aH.cnt x.bC.Base.Stores:Nat):Int)+((aF M.aE.cnt x.bC.Base.Unique:Nat):Int)+((x.bC.Log.length:Nat):Int)+1+1+((aF M.Item.cnt x.aD.Base.Items:Nat):Int)+1+1+1+1+((aF M.aZ.cnt x.aD.Sync.aR.Writes:Nat):Int)+1+1≤KB)∧(0≤k+1+1+1+1+1+1+((aF M.Cache.cnt x.Caches.Caches:Nat):Int)+1+1+((aF M.aH.cnt x.bC.Base.Stores:Nat):Int)+((aF M.aE.cnt x.bC.Base.Unique:Nat):Int)+((x.bC.Log.length:Nat):Int)+1+1+((aF M.Item.cnt x.aD.Base.Items:Nat):Int)+1+1+1+1+((aF M.aZ.cnt x.aD.Sync.aR.Writes:Nat):Int)+1+1+1∧k+1+1+1+1+1+1+((aF M.Cache.cnt x.Caches.Caches:Nat):Int)+1+1+((aF M.aH.cnt x.bC.Base.Stores:Nat):Int)+((aF M.aE.cnt x.bC.Base.Unique:Nat):Int)+((x.bC.Log.length:Nat):Int)+1+1+((aF M.Item.cnt x.aD.Base.Items:Nat):Int)+1+1+1+1+((aF M.aZ.cnt x.aD.Sync.aR.Writes:Nat):Int)+1+1+1≤KB)∧(0≤k+1+1+1+1+1+1+((aF M.Cache.cnt x.Caches.Caches:Nat):Int)+1+1+((aF M.aH.cnt x.bC.Base.Stores:Nat):Int)+((aF M.aE.cnt x.bC.Base.Unique:Nat):Int)+((x.bC.Log.length:Nat):Int)+1+1+((aF M.Item.cnt x.aD.Base.Items:Nat):Int)+1+1+1+1+((aF M.aZ.cnt x.aD.Sync.aR.Writes:Nat):Int)+1+1+1+1∧k+1+1+1+1+1+1+((aF M.Cache.cnt x.Caches.Caches:Nat):Int)+1+1+((aF M.aH.cnt x.bC.Base.Stores:Nat):Int)+((aF M.aE.cnt x.bC.Base.Unique:Nat):Int)+((x.bC.Log.length:Nat):Int)+1+1+((aF M.Item.cnt x.aD.Base.Items:Nat):Int)+1+1+1+1+((aF M.aZ.cnt x.aD.Sync.aR.Writes:Nat):Int)+1+1+1+1≤KB):=by
  unfold KB
  refine ⟨?_,?_,?_,?_,?_,?_,?_,?_,?_,?_,?_,?_,?_,?_,?_,?_,?_,?_,?_,?_,?_,?_,?_,?_,?_⟩<;>omega
 have hE:k+1+1+1+1+1+1+((aF M.Cache.cnt x.Caches.Caches:Nat):Int)+1+1+((aF M.aH.cnt x.bC.Base.Stores:Nat):Int)+((aF M.aE.cnt x.bC.Base.Unique:Nat):Int)+((x.bC.Log.length:Nat):Int)+1+1+((aF M.Item.cnt x.aD.Base.Items:Nat):Int)+1+1+1+1+((aF M.aZ.cnt x.aD.Sync.aR.Writes:Nat):Int)+1+1+1+1=k+((M.aC.cnt x:Nat):Int):=by unfold M.aC.cnt;omega
 unfold M.aC.cnt at hE
 obtain ⟨q0,q1,q2,q3,q4,q5,q6,q7,q8,q9,q10,q11,q12,q13,q14,q15,q16,q17,q18,q19,q20,q21,q22,q23,q24⟩:=A
 have t0:aJ (k)=some (mtx (k)):=mt q0.1 (Int.lt_of_add_one_le q1.2)
 have w0:=wk2 q0
 have t1:aJ (k+1)=some (mtx (k+1)):=mt q1.1 (Int.lt_of_add_one_le q2.2)
 have w1:=wk2 q1
 have t2:aJ (k+1+1)=some (mtx (k+1+1)):=mt q2.1 (Int.lt_of_add_one_le q3.2)
 have w2:=wk2 q2
 have w3:=wk2 q3
 have w4:=wk2 q4
 have w5:=wk2 q5
 obtain ⟨y1,a1,b1,_⟩:=M.aF4.gX _ hx.Caches.Caches (k+1+1+1+1+1+1) q6.1 q7.2
 have d1:(decide (k+1+1+1+1+1+1+((aF M.Cache.cnt x.Caches.Caches:Nat):Int)<0))=false:=dk q7.1
 have t7:aJ (k+1+1+1+1+1+1+((aF M.Cache.cnt x.Caches.Caches:Nat):Int))=some (mtx (k+1+1+1+1+1+1+((aF M.Cache.cnt x.Caches.Caches:Nat):Int))):=mt q7.1 (Int.lt_of_add_one_le q8.2)
 have w7:=wk2 q7
 have w8:=wk2 q8
 obtain ⟨y2,a2,b2,_⟩:=M.aFs.gX _ hx.bC.Base.Stores (k+1+1+1+1+1+1+((aF M.Cache.cnt x.Caches.Caches:Nat):Int)+1+1) q9.1 q10.2
 have d2:(decide (k+1+1+1+1+1+1+((aF M.Cache.cnt x.Caches.Caches:Nat):Int)+1+1+((aF M.aH.cnt x.bC.Base.Stores:Nat):Int)<0))=false:=dk q10.1
 obtain ⟨y3,a3,b3,_⟩:=M.aCI.gX _ hx.bC.Base.Unique (k+1+1+1+1+1+1+((aF M.Cache.cnt x.Caches.Caches:Nat):Int)+1+1+((aF M.aH.cnt x.bC.Base.Stores:Nat):Int)) q10.1 q11.2
 have d3:(decide (k+1+1+1+1+1+1+((aF M.Cache.cnt x.Caches.Caches:Nat):Int)+1+1+((aF M.aH.cnt x.bC.Base.Stores:Nat):Int)+((aF M.aE.cnt x.bC.Base.Unique:Nat):Int)<0))=false:=dk q11.1
 obtain ⟨y4,a4,b4,_⟩:=M.aDy.gX _ hx.bC.Log (k+1+1+1+1+1+1+((aF M.Cache.cnt x.Caches.Caches:Nat):Int)+1+1+((aF M.aH.cnt x.bC.Base.Stores:Nat):Int)+((aF M.aE.cnt x.bC.Base.Unique:Nat):Int)) q11.1 q12.2
 have d4:(decide (k+1+1+1+1+1+1+((aF M.Cache.cnt x.Caches.Caches:Nat):Int)+1+1+((aF M.aH.cnt x.bC.Base.Stores:Nat):Int)+((aF M.aE.cnt x.bC.Base.Unique:Nat):Int)+((x.bC.Log.length:Nat):Int)<0))=false:=dk q12.1
 have w12:=wk2 q12
 have t13:aJ (k+1+1+1+1+1+1+((aF M.Cache.cnt x.Caches.Caches:Nat):Int)+1+1+((aF M.aH.cnt x.bC.Base.Stores:Nat):Int)+((aF M.aE.cnt x.bC.Base.Unique:Nat):Int)+((x.bC.Log.length:Nat):Int)+1)=some (mtx (k+1+1+1+1+1+1+((aF M.Cache.cnt x.Caches.Caches:Nat):Int)+1+1+((aF M.aH.cnt x.bC.Base.Stores:Nat):Int)+((aF M.aE.cnt x.bC.Base.Unique:Nat):Int)+((x.bC.Log.length:Nat):Int)+1)):=mt q13.1 (Int.lt_of_add_one_le q14.2)
 have w13:=wk2 q13
 obtain ⟨y5,a5,b5,_⟩:=M.aGr.gX _ hx.aD.Base.Items (k+1+1+1+1+1+1+((aF M.Cache.cnt x.Caches.Caches:Nat):Int)+1+1+((aF M.aH.cnt x.bC.Base.Stores:Nat):Int)+((aF M.aE.cnt x.bC.Base.Unique:Nat):Int)+((x.bC.Log.length:Nat):Int)+1+1) q14.1 q15.2
 have d5:(decide (k+1+1+1+1+1+1+((aF M.Cache.cnt x.Caches.Caches:Nat):Int)+1+1+((aF M.aH.cnt x.bC.Base.Stores:Nat):Int)+((aF M.aE.cnt x.bC.Base.Unique:Nat):Int)+((x.bC.Log.length:Nat):Int)+1+1+((aF M.Item.cnt x.aD.Base.Items:Nat):Int)<0))=false:=dk q15.1
 have w15:=wk2 q15
 have w16:=wk2 q16
 have w17:=wk2 q17
 have w18:=wk2 q18
 obtain ⟨y6,a6,b6,_⟩:=M.aDJ.gX _ hx.aD.Sync.aR.Writes (k+1+1+1+1+1+1+((aF M.Cache.cnt x.Caches.Caches:Nat):Int)+1+1+((aF M.aH.cnt x.bC.Base.Stores:Nat):Int)+((aF M.aE.cnt x.bC.Base.Unique:Nat):Int)+((x.bC.Log.length:Nat):Int)+1+1+((aF M.Item.cnt x.aD.Base.Items:Nat):Int)+1+1+1+1) q19.1 q20.2
 have d6:(decide (k+1+1+1+1+1+1+((aF M.Cache.cnt x.Caches.Caches:Nat):Int)+1+1+((aF M.aH.cnt x.bC.Base.Stores:Nat):Int)+((aF M.aE.cnt x.bC.Base.Unique:Nat):Int)+((x.bC.Log.length:Nat):Int)+1+1+((aF M.Item.cnt x.aD.Base.Items:Nat):Int)+1+1+1+1+((aF M.aZ.cnt x.aD.Sync.aR.Writes:Nat):Int)<0))=false:=dk q20.1
 have w20:=wk2 q20
 have w21:=wk2 q21
 have w22:=wk2 q22
 have w23:=wk2 q23
 refine ⟨⟨(mtx (k)),(mtx (k+1)),⟨(mtx (k+1+1)),k+1+1+1,k+1+1+1+1,k+1+1+1+1+1⟩,⟨y1⟩,⟨⟨(mtx (k+1+1+1+1+1+1+((aF M.Cache.cnt x.Caches.Caches:Nat):Int))),k+1+1+1+1+1+1+((aF M.Cache.cnt x.Caches.Caches:Nat):Int)+1,y2,y3⟩,y4,k+1+1+1+1+1+1+((aF M.Cache.cnt x.Caches.Caches:Nat):Int)+1+1+((aF M.aH.cnt x.bC.Base.Stores:Nat):Int)+((aF M.aE.cnt x.bC.Base.Unique:Nat):Int)+((x.bC.Log.length:Nat):Int)⟩,⟨⟨(mtx (k+1+1+1+1+1+1+((aF M.Cache.cnt x.Caches.Caches:Nat):Int)+1+1+((aF M.aH.cnt x.bC.Base.Stores:Nat):Int)+((aF M.aE.cnt x.bC.Base.Unique:Nat):Int)+((x.bC.Log.length:Nat):Int)+1)),y5,k+1+1+1+1+1+1+((aF M.Cache.cnt x.Caches.Caches:Nat):Int)+1+1+((aF M.aH.cnt x.bC.Base.Stores:Nat):Int)+((aF M.aE.cnt x.bC.Base.Unique:Nat):Int)+((x.bC.Log.length:Nat):Int)+1+1+((aF M.Item.cnt x.aD.Base.Items:Nat):Int)⟩,k+1+1+1+1+1+1+((aF M.Cache.cnt x.Caches.Caches:Nat):Int)+1+1+((aF M.aH.cnt x.bC.Base.Stores:Nat):Int)+((aF M.aE.cnt x.bC.Base.Unique:Nat):Int)+((x.bC.Log.length:Nat):Int)+1+1+((aF M.Item.cnt x.aD.Base.Items:Nat):Int)+1,⟨⟨k+1+1+1+1+1+1+((aF M.Cache.cnt x.Caches.Caches:Nat):Int)+1+1+((aF M.aH.cnt x.bC.Base.Stores:Nat):Int)+((aF M.aE.cnt x.bC.Base.Unique:Nat):Int)+((x.bC.Log.length:Nat):Int)+1+1+((aF M.Item.cnt x.aD.Base.Items:Nat):Int)+1+1,k+1+1+1+1+1+1+((aF M.Cache.cnt x.Caches.Caches:Nat):Int)+1+1+((aF M.aH.cnt x.bC.Base.Stores:Nat):Int)+((aF M.aE.cnt x.bC.Base.Unique:Nat):Int)+((x.bC.Log.length:Nat):Int)+1+1+((aF M.Item.cnt x.aD.Base.Items:Nat):Int)+1+1+1,y6⟩,k+1+1+1+1+1+1+((aF M.Cache.cnt x.Caches.Caches:Nat):Int)+1+1+((aF M.aH.cnt x.bC.Base.Stores:Nat):Int)+((aF M.aE.cnt x.bC.Base.Unique:Nat):Int)+((x.bC.Log.length:Nat):Int)+1+1+((aF M.Item.cnt x.aD.Base.Items:Nat):Int)+1+1+1+1+((aF M.aZ.cnt x.aD.Sync.aR.Writes:Nat):Int),k+1+1+1+1+1+1+((aF M.Cache.cnt x.Caches.Caches:Nat):Int)+1+1+((aF M.aH.cnt x.bC.Base.Stores:Nat):Int)+((aF M.aE.cnt x.bC.Base.Unique:Nat):Int)+((x.bC.Log.length:Nat):Int)+1+1+((aF M.Item.cnt x.aD.Base.Items:Nat):Int)+1+1+1+1+((aF M.aZ.cnt x.aD.Sync.aR.Writes:Nat):Int)+1⟩⟩,k+1+1+1+1+1+1+((aF M.Cache.cnt x.Caches.Caches:Nat):Int)+1+1+((aF M.aH.cnt x.bC.Base.Stores:Nat):Int)+((aF M.aE.cnt x.bC.Base.Unique:Nat):Int)+((x.bC.Log.length:Nat):Int)+1+1+((aF M.Item.cnt x.aD.Base.Items:Nat):Int)+1+1+1+1+((aF M.aZ.cnt x.aD.Sync.aR.Writes:Nat):Int)+1+1,((Int.tmod (k+1+1+1+1+1+1+((aF M.Cache.cnt x.Caches.Caches:Nat):Int)+1+1+((aF M.aH.cnt x.bC.Base.Stores:Nat):Int)+((aF M.aE.cnt x.bC.Base.Unique:Nat):Int)+((x.bC.Log.length:Nat):Int)+1+1+((aF M.Item.cnt x.aD.Base.Items:Nat):Int)+1+1+1+1+((aF M.aZ.cnt x.aD.Sync.aR.Writes:Nat):Int)+1+1+1) 3)==0)⟩,fun n pre post hl => ?_,fun n l i hi hl => ?_⟩
 ·have hl':=le_max hl
  have hp:pre.length<9223372036854775807:=by simp at hl';omega
  simp only [cV]
  rw [if_pos (aBr pre post x)]
  simp (maxSteps:=2000000) only [uS,uR,qA,bF hp,t0,w0,t1,w1,t2,w2,w3,w4,w5,a1,t7,w7,w8,a2,a3,a4,w12,t13,w13,a5,w15,w16,w17,w18,a6,w20,w21,w22,w23]
  rw [hE]
 ·have hl':=le_max hl
  have hp:i<9223372036854775807:=by have:=(List.getElem?_eq_some_iff.1 hi).1;omega
  simp only [cT]
  rw [if_pos (aDz hi)]
  simp (maxSteps:=2000000) only [aBT hi,qA,bF hp,t0,w0,t1,w1,t2,w2,w3,w4,w5,b1,d1,t7,w7,w8,b2,d2,b3,d3,b4,d4,w12,t13,w13,b5,d5,w15,w16,w17,w18,b6,d6,w20,w21,w22,w23,bne_self_eq_false,beq_self_eq_true,qB,qD,if_false]
  rw [hE]
theorem M.aD5.gX (xs:List M.aC) (hx:(xs.length≤maxLen ∧ ∀y∈xs,M.aC.ok y)) (k:Int) (h0:0≤k) (hB:k+((aF M.aC.cnt xs:Nat):Int)≤KB) : ∃ys,rH xs k=some (ys,k+((aF M.aC.cnt xs:Nat):Int))∧pV ys k=some (k+((aF M.aC.cnt xs:Nat):Int))∧ys.length=xs.length:=by
 have hm:=le_max hx.1
 obtain ⟨ys,h1,h2,h3⟩:=mA (ML:=cV) (HL:=cT) (c:=M.aC.cnt) (ok:=M.aC.ok) (fun x hx k h0 hB=>M.aC.sC x hx k h0 hB) (fun n k l=>by simp only [cV];rw [if_neg (by rw [aP];simp)]) (fun n k l=>by simp only [cT];rw [if_neg (by rw [aP];simp)]) xs [] fuel k (by simpa using hx.1) (by unfold fuel;omega) hx.2 h0 hB
 refine ⟨ys,by unfold rH;simpa using h2,by unfold pV;simpa using h3 fuel (by unfold fuel;omega),h1⟩
def M.aK.cnt (x:M.aK):Nat:=2
set_option maxHeartbeats 4000000 in
theorem M.aK.sC (x:M.aK) (hx:M.aK.ok x) (k:Int) (h0:0≤k) (hB:k+((M.aK.cnt x:Nat):Int)≤KB) : ∃x':M.aK,(∀n (pre post:List M.aK),(pre++x::post).length≤maxLen→cP (n+1) k pre.length (pre++x::post)=cP n (k+((M.aK.cnt x:Nat):Int)) ((pre.length+1:Nat):Int) (pre++x'::post)) ∧ ∀n (l:List M.aK) (i:Nat),l[i]? = some x'→l.length≤maxLen→dN l (n+1) k i=dN l n (k+((M.aK.cnt x:Nat):Int)) ((i+1:Nat):Int):=by
 unfold KB at hB;unfold M.aK.cnt at hB ⊢
 have A:(0≤k∧k≤KB)∧(0≤k+1∧k+1≤KB)∧(0≤k+1+1∧k+1+1≤KB):=by
  unfold KB
  refine ⟨?_,?_,?_⟩<;>omega
 have hE:k+1+1=k+((M.aK.cnt x:Nat):Int):=by unfold M.aK.cnt;omega
 unfold M.aK.cnt at hE
 obtain ⟨q0,q1,q2⟩:=A
 have t0:aJ (k)=some (mtx (k)):=mt q0.1 (Int.lt_of_add_one_le q1.2)
 have w0:=wk2 q0
 have w1:=wk2 q1
 refine ⟨⟨(mtx (k)),k+1⟩,fun n pre post hl => ?_,fun n l i hi hl => ?_⟩
 ·have hl':=le_max hl
  have hp:pre.length<9223372036854775807:=by simp at hl';omega
  simp only [cP]
  rw [if_pos (aBr pre post x)]
  simp (maxSteps:=2000000) only [uS,uR,qA,bF hp,t0,w0,w1]
  rw [hE]
 ·have hl':=le_max hl
  have hp:i<9223372036854775807:=by have:=(List.getElem?_eq_some_iff.1 hi).1;omega
  simp only [dN]
  rw [if_pos (aDz hi)]
  simp (maxSteps:=2000000) only [aBT hi,qA,bF hp,t0,w0,w1,bne_self_eq_false,beq_self_eq_true,qB,qD,if_false]
  rw [hE]
theorem M.aD4.gX (xs:List M.aK) (hx:(xs.length≤maxLen ∧ ∀y∈xs,M.aK.ok y)) (k:Int) (h0:0≤k) (hB:k+((aF M.aK.cnt xs:Nat):Int)≤KB) : ∃ys,rF xs k=some (ys,k+((aF M.aK.cnt xs:Nat):Int))∧rA ys k=some (k+((aF M.aK.cnt xs:Nat):Int))∧ys.length=xs.length:=by
 have hm:=le_max hx.1
 obtain ⟨ys,h1,h2,h3⟩:=mA (ML:=cP) (HL:=dN) (c:=M.aK.cnt) (ok:=M.aK.ok) (fun x hx k h0 hB=>M.aK.sC x hx k h0 hB) (fun n k l=>by simp only [cP];rw [if_neg (by rw [aP];simp)]) (fun n k l=>by simp only [dN];rw [if_neg (by rw [aP];simp)]) xs [] fuel k (by simpa using hx.1) (by unfold fuel;omega) hx.2 h0 hB
 refine ⟨ys,by unfold rF;simpa using h2,by unfold rA;simpa using h3 fuel (by unfold fuel;omega),h1⟩
set_option maxHeartbeats 4000000 in
theorem M.aMG.sC (x:Int) (hx:True) (k:Int) (h0:0≤k) (hB:k+(((fun _:Int=>1) x:Nat):Int)≤KB) : ∃x':Int,(∀n (pre post:List Int),(pre++x::post).length≤maxLen→eV (n+1) k pre.length (pre++x::post)=eV n (k+(((fun _:Int=>1) x:Nat):Int)) ((pre.length+1:Nat):Int) (pre++x'::post)) ∧ ∀n (l:List Int) (i:Nat),l[i]? = some x'→l.length≤maxLen→gA l (n+1) k i=gA l n (k+(((fun _:Int=>1) x:Nat):Int)) ((i+1:Nat):Int):=by
 unfold KB at hB;(try simp only [] at hB ⊢)
 have A:(0≤k∧k≤KB)∧(0≤k+1∧k+1≤KB):=by
  unfold KB
  refine ⟨?_,?_⟩<;>omega
 have hE:k+1=k+(((fun _:Int=>1) x:Nat):Int):=by simp
 obtain ⟨q0,q1⟩:=A
 have w0:=wk2 q0
 refine ⟨k,fun n pre post hl => ?_,fun n l i hi hl => ?_⟩
 ·have hl':=le_max hl
  have hp:pre.length<9223372036854775807:=by simp at hl';omega
  simp only [eV]
  rw [if_pos (aBr pre post x)]
  simp (maxSteps:=2000000) only [uS,uR,qA,bF hp,w0]
  rw [hE]
 ·have hl':=le_max hl
  have hp:i<9223372036854775807:=by have:=(List.getElem?_eq_some_iff.1 hi).1;omega
  simp only [gA]
  rw [if_pos (aDz hi)]
  simp (maxSteps:=2000000) only [aBT hi,qA,bF hp,w0,bne_self_eq_false,beq_self_eq_true,qB,qD,if_false]
  rw [hE]
theorem M.aMG.cl (xs:List Int):aF (fun _:Int=>1) xs=xs.length:=by
 induction xs with
 | nil=>rfl
 | cons x xs ih=>simp only [aF,ih,qJ];omega
theorem M.aMG.gX (xs:List Int) (hx:okI xs) (k:Int) (h0:0≤k) (hB:k+((xs.length:Nat):Int)≤KB) : ∃ys,zH xs k=some (ys,k+((xs.length:Nat):Int))∧zA ys k=some (k+((xs.length:Nat):Int))∧ys.length=xs.length:=by
 have hm:=le_max hx.1
 rw [←M.aMG.cl xs] at hB ⊢
 obtain ⟨ys,h1,h2,h3⟩:=mA (ML:=eV) (HL:=gA) (c:=(fun _:Int=>1)) (ok:=(fun _:Int=>True)) (fun x hx k h0 hB=>M.aMG.sC x hx k h0 hB) (fun n k l=>by simp only [eV];rw [if_neg (by rw [aP];simp)]) (fun n k l=>by simp only [gA];rw [if_neg (by rw [aP];simp)]) xs [] fuel k (by simpa using hx.1) (by unfold fuel;omega) (fun _ _=>trivial) h0 hB
 refine ⟨ys,by unfold zH;simpa using h2,by unfold zA;simpa using h3 fuel (by unfold fuel;omega),by have:=M.aMG.cl xs;omega⟩
def M.bH.cnt (x:M.bH):Nat:=8+(aF M.aK.cnt x.aK)+(aF M.Instr.cnt x.Machine.Script)+(x.Machine.Regs.length)
set_option maxHeartbeats 4000000 in
theorem M.bH.sC (x:M.bH) (hx:M.bH.ok x) (k:Int) (h0:0≤k) (hB:k+((M.bH.cnt x:Nat):Int)≤KB) : ∃x':M.bH,(∀n (pre post:List M.bH),(pre++x::post).length≤maxLen→dU (n+1) k pre.length (pre++x::post)=dU n (k+((M.bH.cnt x:Nat):Int)) ((pre.length+1:Nat):Int) (pre++x'::post)) ∧ ∀n (l:List M.bH) (i:Nat),l[i]? = some x'→l.length≤maxLen→dV l (n+1) k i=dV l n (k+((M.bH.cnt x:Nat):Int)) ((i+1:Nat):Int):=by
 unfold KB at hB;unfold M.bH.cnt at hB ⊢
 have A:(0≤k∧k≤KB)∧(0≤k+1∧k+1≤KB)∧(0≤k+1+1∧k+1+1≤KB)∧(0≤k+1+1+1∧k+1+1+1≤KB)∧(0≤k+1+1+1+1∧k+1+1+1+1≤KB)∧(0≤k+1+1+1+1+((aF M.aK.cnt x.aK:Nat):Int)∧k+1+1+1+1+((aF M.aK.cnt x.aK:Nat):Int)≤KB)∧(0≤k+1+1+1+1+((aF M.aK.cnt x.aK:Nat):Int)+((aF M.Instr.cnt x.Machine.Script:Nat):Int)∧k+1+1+1+1+((aF M.aK.cnt x.aK:Nat):Int)+((aF M.Instr.cnt x.Machine.Script:Nat):Int)≤KB)∧(0≤k+1+1+1+1+((aF M.aK.cnt x.aK:Nat):Int)+((aF M.Instr.cnt x.Machine.Script:Nat):Int)+1∧k+1+1+1+1+((aF M.aK.cnt x.aK:Nat):Int)+((aF M.Instr.cnt x.Machine.Script:Nat):Int)+1≤KB)∧(0≤k+1+1+1+1+((aF M.aK.cnt x.aK:Nat):Int)+((aF M.Instr.cnt x.Machine.Script:Nat):Int)+1+((x.Machine.Regs.length:Nat):Int)∧k+1+1+1+1+((aF M.aK.cnt x.aK:Nat):Int)+((aF M.Instr.cnt x.Machine.Script:Nat):Int)+1+((x.Machine.Regs.length:Nat):Int)≤KB)∧(0≤k+1+1+1+1+((aF M.aK.cnt x.aK:Nat):Int)+((aF M.Instr.cnt x.Machine.Script:Nat):Int)+1+((x.Machine.Regs.length:Nat):Int)+1∧k+1+1+1+1+((aF M.aK.cnt x.aK:Nat):Int)+((aF M.Instr.cnt x.Machine.Script:Nat):Int)+1+((x.Machine.Regs.length:Nat):Int)+1≤KB)∧(0≤k+1+1+1+1+((aF M.aK.cnt x.aK:Nat):Int)+((aF M.Instr.cnt x.Machine.Script:Nat):Int)+1+((x.Machine.Regs.length:Nat):Int)+1+1∧k+1+1+1+1+((aF M.aK.cnt x.aK:Nat):Int)+((aF M.Instr.cnt x.Machine.Script:Nat):Int)+1+((x.Machine.Regs.length:Nat):Int)+1+1≤KB)∧(0≤k+1+1+1+1+((aF M.aK.cnt x.aK:Nat):Int)+((aF M.Instr.cnt x.Machine.Script:Nat):Int)+1+((x.Machine.Regs.length:Nat):Int)+1+1+1∧k+1+1+1+1+((aF M.aK.cnt x.aK:Nat):Int)+((aF M.Instr.cnt x.Machine.Script:Nat):Int)+1+((x.Machine.Regs.length:Nat):Int)+1+1+1≤KB):=by
  unfold KB
  refine ⟨?_,?_,?_,?_,?_,?_,?_,?_,?_,?_,?_,?_⟩<;>omega
 have hE:k+1+1+1+1+((aF M.aK.cnt x.aK:Nat):Int)+((aF M.Instr.cnt x.Machine.Script:Nat):Int)+1+((x.Machine.Regs.length:Nat):Int)+1+1+1=k+((M.bH.cnt x:Nat):Int):=by unfold M.bH.cnt;omega
 unfold M.bH.cnt at hE
 obtain ⟨q0,q1,q2,q3,q4,q5,q6,q7,q8,q9,q10,q11⟩:=A
 have w0:=wk2 q0
 have t1:aJ (k+1)=some (mtx (k+1)):=mt q1.1 (Int.lt_of_add_one_le q2.2)
 have w1:=wk2 q1
 have t2:aJ (k+1+1)=some (mtx (k+1+1)):=mt q2.1 (Int.lt_of_add_one_le q3.2)
 have w2:=wk2 q2
 have w3:=wk2 q3
 obtain ⟨y1,a1,b1,_⟩:=M.aD4.gX _ hx.aK (k+1+1+1+1) q4.1 q5.2
 have d1:(decide (k+1+1+1+1+((aF M.aK.cnt x.aK:Nat):Int)<0))=false:=dk q5.1
 obtain ⟨y2,a2,b2,_⟩:=M.aDP.gX _ hx.Machine.Script (k+1+1+1+1+((aF M.aK.cnt x.aK:Nat):Int)) q5.1 q6.2
 have d2:(decide (k+1+1+1+1+((aF M.aK.cnt x.aK:Nat):Int)+((aF M.Instr.cnt x.Machine.Script:Nat):Int)<0))=false:=dk q6.1
 have w6:=wk2 q6
 obtain ⟨y3,a3,b3,_⟩:=M.aMG.gX _ hx.Machine.Regs (k+1+1+1+1+((aF M.aK.cnt x.aK:Nat):Int)+((aF M.Instr.cnt x.Machine.Script:Nat):Int)+1) q7.1 q8.2
 have d3:(decide (k+1+1+1+1+((aF M.aK.cnt x.aK:Nat):Int)+((aF M.Instr.cnt x.Machine.Script:Nat):Int)+1+((x.Machine.Regs.length:Nat):Int)<0))=false:=dk q8.1
 have w8:=wk2 q8
 have w9:=wk2 q9
 have w10:=wk2 q10
 refine ⟨⟨k,(mtx (k+1)),(mtx (k+1+1)),k+1+1+1,y1,⟨y2,k+1+1+1+1+((aF M.aK.cnt x.aK:Nat):Int)+((aF M.Instr.cnt x.Machine.Script:Nat):Int),y3,k+1+1+1+1+((aF M.aK.cnt x.aK:Nat):Int)+((aF M.Instr.cnt x.Machine.Script:Nat):Int)+1+((x.Machine.Regs.length:Nat):Int),((Int.tmod (k+1+1+1+1+((aF M.aK.cnt x.aK:Nat):Int)+((aF M.Instr.cnt x.Machine.Script:Nat):Int)+1+((x.Machine.Regs.length:Nat):Int)+1) 3)==0),((Int.tmod (k+1+1+1+1+((aF M.aK.cnt x.aK:Nat):Int)+((aF M.Instr.cnt x.Machine.Script:Nat):Int)+1+((x.Machine.Regs.length:Nat):Int)+1+1) 3)==0)⟩⟩,fun n pre post hl => ?_,fun n l i hi hl => ?_⟩
 ·have hl':=le_max hl
  have hp:pre.length<9223372036854775807:=by simp at hl';omega
  simp only [dU]
  rw [if_pos (aBr pre post x)]
  simp (maxSteps:=2000000) only [uS,uR,qA,bF hp,w0,t1,w1,t2,w2,w3,a1,a2,w6,a3,w8,w9,w10]
  rw [hE]
 ·have hl':=le_max hl
  have hp:i<9223372036854775807:=by have:=(List.getElem?_eq_some_iff.1 hi).1;omega
  simp only [dV]
  rw [if_pos (aDz hi)]
  simp (maxSteps:=2000000) only [aBT hi,qA,bF hp,w0,t1,w1,t2,w2,w3,b1,d1,b2,d2,w6,b3,d3,w8,w9,w10,bne_self_eq_false,beq_self_eq_true,qB,qD,if_false]
  rw [hE]
theorem M.aJs.gX (xs:List M.bH) (hx:(xs.length≤maxLen ∧ ∀y∈xs,M.bH.ok y)) (k:Int) (h0:0≤k) (hB:k+((aF M.bH.cnt xs:Nat):Int)≤KB) : ∃ys,vO xs k=some (ys,k+((aF M.bH.cnt xs:Nat):Int))∧vT ys k=some (k+((aF M.bH.cnt xs:Nat):Int))∧ys.length=xs.length:=by
 have hm:=le_max hx.1
 obtain ⟨ys,h1,h2,h3⟩:=mA (ML:=dU) (HL:=dV) (c:=M.bH.cnt) (ok:=M.bH.ok) (fun x hx k h0 hB=>M.bH.sC x hx k h0 hB) (fun n k l=>by simp only [dU];rw [if_neg (by rw [aP];simp)]) (fun n k l=>by simp only [dV];rw [if_neg (by rw [aP];simp)]) xs [] fuel k (by simpa using hx.1) (by unfold fuel;omega) hx.2 h0 hB
 refine ⟨ys,by unfold vO;simpa using h2,by unfold vT;simpa using h3 fuel (by unfold fuel;omega),h1⟩
def M.cJ.cnt (x:M.cJ):Nat:=4
set_option maxHeartbeats 4000000 in
theorem M.cJ.sC (x:M.cJ) (hx:M.cJ.ok x) (k:Int) (h0:0≤k) (hB:k+((M.cJ.cnt x:Nat):Int)≤KB) : ∃x':M.cJ,(∀n (pre post:List M.cJ),(pre++x::post).length≤maxLen→dS (n+1) k pre.length (pre++x::post)=dS n (k+((M.cJ.cnt x:Nat):Int)) ((pre.length+1:Nat):Int) (pre++x'::post)) ∧ ∀n (l:List M.cJ) (i:Nat),l[i]? = some x'→l.length≤maxLen→fJ l (n+1) k i=fJ l n (k+((M.cJ.cnt x:Nat):Int)) ((i+1:Nat):Int):=by
 unfold KB at hB;unfold M.cJ.cnt at hB ⊢
 have A:(0≤k∧k≤KB)∧(0≤k+1∧k+1≤KB)∧(0≤k+1+1∧k+1+1≤KB)∧(0≤k+1+1+1∧k+1+1+1≤KB)∧(0≤k+1+1+1+1∧k+1+1+1+1≤KB):=by
  unfold KB
  refine ⟨?_,?_,?_,?_,?_⟩<;>omega
 have hE:k+1+1+1+1=k+((M.cJ.cnt x:Nat):Int):=by unfold M.cJ.cnt;omega
 unfold M.cJ.cnt at hE
 obtain ⟨q0,q1,q2,q3,q4⟩:=A
 have t0:aJ (k)=some (mtx (k)):=mt q0.1 (Int.lt_of_add_one_le q1.2)
 have w0:=wk2 q0
 have w1:=wk2 q1
 have w2:=wk2 q2
 have w3:=wk2 q3
 refine ⟨⟨(mtx (k)),k+1,((Int.tmod (k+1+1) 3)==0),((Int.tmod (k+1+1+1) 3)==0)⟩,fun n pre post hl => ?_,fun n l i hi hl => ?_⟩
 ·have hl':=le_max hl
  have hp:pre.length<9223372036854775807:=by simp at hl';omega
  simp only [dS]
  rw [if_pos (aBr pre post x)]
  simp (maxSteps:=2000000) only [uS,uR,qA,bF hp,t0,w0,w1,w2,w3]
  rw [hE]
 ·have hl':=le_max hl
  have hp:i<9223372036854775807:=by have:=(List.getElem?_eq_some_iff.1 hi).1;omega
  simp only [fJ]
  rw [if_pos (aDz hi)]
  simp (maxSteps:=2000000) only [aBT hi,qA,bF hp,t0,w0,w1,w2,w3,bne_self_eq_false,beq_self_eq_true,qB,qD,if_false]
  rw [hE]
theorem M.aJx.gX (xs:List M.cJ) (hx:(xs.length≤maxLen ∧ ∀y∈xs,M.cJ.ok y)) (k:Int) (h0:0≤k) (hB:k+((aF M.cJ.cnt xs:Nat):Int)≤KB) : ∃ys,wR xs k=some (ys,k+((aF M.cJ.cnt xs:Nat):Int))∧wQ ys k=some (k+((aF M.cJ.cnt xs:Nat):Int))∧ys.length=xs.length:=by
 have hm:=le_max hx.1
 obtain ⟨ys,h1,h2,h3⟩:=mA (ML:=dS) (HL:=fJ) (c:=M.cJ.cnt) (ok:=M.cJ.ok) (fun x hx k h0 hB=>M.cJ.sC x hx k h0 hB) (fun n k l=>by simp only [dS];rw [if_neg (by rw [aP];simp)]) (fun n k l=>by simp only [fJ];rw [if_neg (by rw [aP];simp)]) xs [] fuel k (by simpa using hx.1) (by unfold fuel;omega) hx.2 h0 hB
 refine ⟨ys,by unfold wR;simpa using h2,by unfold wQ;simpa using h3 fuel (by unfold fuel;omega),h1⟩
def M.eU.cnt (x:M.eU):Nat:=3
set_option maxHeartbeats 4000000 in
theorem M.eU.sC (x:M.eU) (hx:M.eU.ok x) (k:Int) (h0:0≤k) (hB:k+((M.eU.cnt x:Nat):Int)≤KB) : ∃x':M.eU,(∀n (pre post:List M.eU),(pre++x::post).length≤maxLen→dQ (n+1) k pre.length (pre++x::post)=dQ n (k+((M.eU.cnt x:Nat):Int)) ((pre.length+1:Nat):Int) (pre++x'::post)) ∧ ∀n (l:List M.eU) (i:Nat),l[i]? = some x'→l.length≤maxLen→fN l (n+1) k i=fN l n (k+((M.eU.cnt x:Nat):Int)) ((i+1:Nat):Int):=by
 unfold KB at hB;unfold M.eU.cnt at hB ⊢
 have A:(0≤k∧k≤KB)∧(0≤k+1∧k+1≤KB)∧(0≤k+1+1∧k+1+1≤KB)∧(0≤k+1+1+1∧k+1+1+1≤KB):=by
  unfold KB
  refine ⟨?_,?_,?_,?_⟩<;>omega
 have hE:k+1+1+1=k+((M.eU.cnt x:Nat):Int):=by unfold M.eU.cnt;omega
 unfold M.eU.cnt at hE
 obtain ⟨q0,q1,q2,q3⟩:=A
 have w0:=wk2 q0
 have w1:=wk2 q1
 have w2:=wk2 q2
 refine ⟨⟨k,k+1,k+1+1⟩,fun n pre post hl => ?_,fun n l i hi hl => ?_⟩
 ·have hl':=le_max hl
  have hp:pre.length<9223372036854775807:=by simp at hl';omega
  simp only [dQ]
  rw [if_pos (aBr pre post x)]
  simp (maxSteps:=2000000) only [uS,uR,qA,bF hp,w0,w1,w2]
  rw [hE]
 ·have hl':=le_max hl
  have hp:i<9223372036854775807:=by have:=(List.getElem?_eq_some_iff.1 hi).1;omega
  simp only [fN]
  rw [if_pos (aDz hi)]
  simp (maxSteps:=2000000) only [aBT hi,qA,bF hp,w0,w1,w2,bne_self_eq_false,beq_self_eq_true,qB,qD,if_false]
  rw [hE]
theorem M.aKP.gX (xs:List M.eU) (hx:(xs.length≤maxLen ∧ ∀y∈xs,M.eU.ok y)) (k:Int) (h0:0≤k) (hB:k+((aF M.eU.cnt xs:Nat):Int)≤KB) : ∃ys,wT xs k=some (ys,k+((aF M.eU.cnt xs:Nat):Int))∧wX ys k=some (k+((aF M.eU.cnt xs:Nat):Int))∧ys.length=xs.length:=by
 have hm:=le_max hx.1
 obtain ⟨ys,h1,h2,h3⟩:=mA (ML:=dQ) (HL:=fN) (c:=M.eU.cnt) (ok:=M.eU.ok) (fun x hx k h0 hB=>M.eU.sC x hx k h0 hB) (fun n k l=>by simp only [dQ];rw [if_neg (by rw [aP];simp)]) (fun n k l=>by simp only [fN];rw [if_neg (by rw [aP];simp)]) xs [] fuel k (by simpa using hx.1) (by unfold fuel;omega) hx.2 h0 hB
 refine ⟨ys,by unfold wT;simpa using h2,by unfold wX;simpa using h3 fuel (by unfold fuel;omega),h1⟩
set_option maxHeartbeats 4000000 in
theorem M.aBb.sC (x:ByteArray) (hx:True) (k:Int) (h0:0≤k) (hB:k+(((fun _:ByteArray=>1) x:Nat):Int)≤KB) : ∃x':ByteArray,(∀n (pre post:List ByteArray),(pre++x::post).length≤maxLen→cU (n+1) k pre.length (pre++x::post)=cU n (k+(((fun _:ByteArray=>1) x:Nat):Int)) ((pre.length+1:Nat):Int) (pre++x'::post)) ∧ ∀n (l:List ByteArray) (i:Nat),l[i]? = some x'→l.length≤maxLen→dM l (n+1) k i=dM l n (k+(((fun _:ByteArray=>1) x:Nat):Int)) ((i+1:Nat):Int):=by
 unfold KB at hB;(try simp only [] at hB ⊢)
 have A:(0≤k∧k≤KB)∧(0≤k+1∧k+1≤KB):=by
  unfold KB
  refine ⟨?_,?_⟩<;>omega
 have hE:k+1=k+(((fun _:ByteArray=>1) x:Nat):Int):=by simp
 obtain ⟨q0,q1⟩:=A
 have t0:aJ (k)=some (mtx (k)):=mt q0.1 (Int.lt_of_add_one_le q1.2)
 have w0:=wk2 q0
 refine ⟨(mtx (k)),fun n pre post hl => ?_,fun n l i hi hl => ?_⟩
 ·have hl':=le_max hl
  have hp:pre.length<9223372036854775807:=by simp at hl';omega
  simp only [cU]
  rw [if_pos (aBr pre post x)]
  simp (maxSteps:=2000000) only [uS,uR,qA,bF hp,t0,w0]
  rw [hE]
 ·have hl':=le_max hl
  have hp:i<9223372036854775807:=by have:=(List.getElem?_eq_some_iff.1 hi).1;omega
  simp only [dM]
  rw [if_pos (aDz hi)]
  simp (maxSteps:=2000000) only [aBT hi,qA,bF hp,t0,w0,bne_self_eq_false,beq_self_eq_true,qB,qD,if_false]
  rw [hE]
theorem M.aBb.cl (xs:List ByteArray):aF (fun _:ByteArray=>1) xs=xs.length:=by
 induction xs with
 | nil=>rfl
 | cons x xs ih=>simp only [aF,ih,qJ];omega
theorem M.aBb.gX (xs:List ByteArray) (hx:okS xs) (k:Int) (h0:0≤k) (hB:k+((xs.length:Nat):Int)≤KB) : ∃ys,pG xs k=some (ys,k+((xs.length:Nat):Int))∧pM ys k=some (k+((xs.length:Nat):Int))∧ys.length=xs.length:=by
 have hm:=le_max hx.1
 rw [←M.aBb.cl xs] at hB ⊢
 obtain ⟨ys,h1,h2,h3⟩:=mA (ML:=cU) (HL:=dM) (c:=(fun _:ByteArray=>1)) (ok:=(fun _:ByteArray=>True)) (fun x hx k h0 hB=>M.aBb.sC x hx k h0 hB) (fun n k l=>by simp only [cU];rw [if_neg (by rw [aP];simp)]) (fun n k l=>by simp only [dM];rw [if_neg (by rw [aP];simp)]) xs [] fuel k (by simpa using hx.1) (by unfold fuel;omega) (fun _ _=>trivial) h0 hB
 refine ⟨ys,by unfold pG;simpa using h2,by unfold pM;simpa using h3 fuel (by unfold fuel;omega),by have:=M.aBb.cl xs;omega⟩
def M.Site.cnt (x:M.Site):Nat:=3+(x.Files.length)
set_option maxHeartbeats 4000000 in
theorem M.Site.sC (x:M.Site) (hx:M.Site.ok x) (k:Int) (h0:0≤k) (hB:k+((M.Site.cnt x:Nat):Int)≤KB) : ∃x':M.Site,(∀n (pre post:List M.Site),(pre++x::post).length≤maxLen→dX (n+1) k pre.length (pre++x::post)=dX n (k+((M.Site.cnt x:Nat):Int)) ((pre.length+1:Nat):Int) (pre++x'::post)) ∧ ∀n (l:List M.Site) (i:Nat),l[i]? = some x'→l.length≤maxLen→fC l (n+1) k i=fC l n (k+((M.Site.cnt x:Nat):Int)) ((i+1:Nat):Int):=by
 unfold KB at hB;unfold M.Site.cnt at hB ⊢
 have A:(0≤k∧k≤KB)∧(0≤k+1∧k+1≤KB)∧(0≤k+1+1∧k+1+1≤KB)∧(0≤k+1+1+((x.Files.length:Nat):Int)∧k+1+1+((x.Files.length:Nat):Int)≤KB)∧(0≤k+1+1+((x.Files.length:Nat):Int)+1∧k+1+1+((x.Files.length:Nat):Int)+1≤KB):=by
  unfold KB
  refine ⟨?_,?_,?_,?_,?_⟩<;>omega
 have hE:k+1+1+((x.Files.length:Nat):Int)+1=k+((M.Site.cnt x:Nat):Int):=by unfold M.Site.cnt;omega
 unfold M.Site.cnt at hE
 obtain ⟨q0,q1,q2,q3,q4⟩:=A
 have t0:aJ (k)=some (mtx (k)):=mt q0.1 (Int.lt_of_add_one_le q1.2)
 have w0:=wk2 q0
 have w1:=wk2 q1
 obtain ⟨y1,a1,b1,_⟩:=M.aBb.gX _ hx.Files (k+1+1) q2.1 q3.2
 have d1:(decide (k+1+1+((x.Files.length:Nat):Int)<0))=false:=dk q3.1
 have w3:=wk2 q3
 refine ⟨⟨(mtx (k)),k+1,y1,((Int.tmod (k+1+1+((x.Files.length:Nat):Int)) 3)==0)⟩,fun n pre post hl => ?_,fun n l i hi hl => ?_⟩
 ·have hl':=le_max hl
  have hp:pre.length<9223372036854775807:=by simp at hl';omega
  simp only [dX]
  rw [if_pos (aBr pre post x)]
  simp (maxSteps:=2000000) only [uS,uR,qA,bF hp,t0,w0,w1,a1,w3]
  rw [hE]
 ·have hl':=le_max hl
  have hp:i<9223372036854775807:=by have:=(List.getElem?_eq_some_iff.1 hi).1;omega
  simp only [fC]
  rw [if_pos (aDz hi)]
  simp (maxSteps:=2000000) only [aBT hi,qA,bF hp,t0,w0,w1,b1,d1,w3,bne_self_eq_false,beq_self_eq_true,qB,qD,if_false]
  rw [hE]
theorem M.aJp.gX (xs:List M.Site) (hx:(xs.length≤maxLen ∧ ∀y∈xs,M.Site.ok y)) (k:Int) (h0:0≤k) (hB:k+((aF M.Site.cnt xs:Nat):Int)≤KB) : ∃ys,wL xs k=some (ys,k+((aF M.Site.cnt xs:Nat):Int))∧xP ys k=some (k+((aF M.Site.cnt xs:Nat):Int))∧ys.length=xs.length:=by
 have hm:=le_max hx.1
 obtain ⟨ys,h1,h2,h3⟩:=mA (ML:=dX) (HL:=fC) (c:=M.Site.cnt) (ok:=M.Site.ok) (fun x hx k h0 hB=>M.Site.sC x hx k h0 hB) (fun n k l=>by simp only [dX];rw [if_neg (by rw [aP];simp)]) (fun n k l=>by simp only [fC];rw [if_neg (by rw [aP];simp)]) xs [] fuel k (by simpa using hx.1) (by unfold fuel;omega) hx.2 h0 hB
 refine ⟨ys,by unfold wL;simpa using h2,by unfold xP;simpa using h3 fuel (by unfold fuel;omega),h1⟩
def M.aM.cnt (x:M.aM):Nat:=2
set_option maxHeartbeats 4000000 in
theorem M.aM.sC (x:M.aM) (hx:M.aM.ok x) (k:Int) (h0:0≤k) (hB:k+((M.aM.cnt x:Nat):Int)≤KB) : ∃x':M.aM,(∀n (pre post:List M.aM),(pre++x::post).length≤maxLen→cH (n+1) k pre.length (pre++x::post)=cH n (k+((M.aM.cnt x:Nat):Int)) ((pre.length+1:Nat):Int) (pre++x'::post)) ∧ ∀n (l:List M.aM) (i:Nat),l[i]? = some x'→l.length≤maxLen→dB l (n+1) k i=dB l n (k+((M.aM.cnt x:Nat):Int)) ((i+1:Nat):Int):=by
 unfold KB at hB;unfold M.aM.cnt at hB ⊢
 have A:(0≤k∧k≤KB)∧(0≤k+1∧k+1≤KB)∧(0≤k+1+1∧k+1+1≤KB):=by
  unfold KB
  refine ⟨?_,?_,?_⟩<;>omega
 have hE:k+1+1=k+((M.aM.cnt x:Nat):Int):=by unfold M.aM.cnt;omega
 unfold M.aM.cnt at hE
 obtain ⟨q0,q1,q2⟩:=A
 have w0:=wk2 q0
 have w1:=wk2 q1
 refine ⟨⟨k,k+1⟩,fun n pre post hl => ?_,fun n l i hi hl => ?_⟩
 ·have hl':=le_max hl
  have hp:pre.length<9223372036854775807:=by simp at hl';omega
  simp only [cH]
  rw [if_pos (aBr pre post x)]
  simp (maxSteps:=2000000) only [uS,uR,qA,bF hp,w0,w1]
  rw [hE]
 ·have hl':=le_max hl
  have hp:i<9223372036854775807:=by have:=(List.getElem?_eq_some_iff.1 hi).1;omega
  simp only [dB]
  rw [if_pos (aDz hi)]
  simp (maxSteps:=2000000) only [aBT hi,qA,bF hp,w0,w1,bne_self_eq_false,beq_self_eq_true,qB,qD,if_false]
  rw [hE]
theorem M.aC1.gX (xs:List M.aM) (hx:(xs.length≤maxLen ∧ ∀y∈xs,M.aM.ok y)) (k:Int) (h0:0≤k) (hB:k+((aF M.aM.cnt xs:Nat):Int)≤KB) : ∃ys,oA xs k=some (ys,k+((aF M.aM.cnt xs:Nat):Int))∧nZ ys k=some (k+((aF M.aM.cnt xs:Nat):Int))∧ys.length=xs.length:=by
 have hm:=le_max hx.1
 obtain ⟨ys,h1,h2,h3⟩:=mA (ML:=cH) (HL:=dB) (c:=M.aM.cnt) (ok:=M.aM.ok) (fun x hx k h0 hB=>M.aM.sC x hx k h0 hB) (fun n k l=>by simp only [cH];rw [if_neg (by rw [aP];simp)]) (fun n k l=>by simp only [dB];rw [if_neg (by rw [aP];simp)]) xs [] fuel k (by simpa using hx.1) (by unfold fuel;omega) hx.2 h0 hB
 refine ⟨ys,by unfold oA;simpa using h2,by unfold nZ;simpa using h3 fuel (by unfold fuel;omega),h1⟩
def M.Server.cnt (x:M.Server):Nat:=2+(aF M.Item.cnt x.aH.Items)+(aF M.aM.cnt x.aM)+(aF M.aZ.cnt x.Changes)
set_option maxHeartbeats 4000000 in
theorem M.Server.sC (x:M.Server) (hx:M.Server.ok x) (k:Int) (h0:0≤k) (hB:k+((M.Server.cnt x:Nat):Int)≤KB) : ∃x':M.Server,(∀n (pre post:List M.Server),(pre++x::post).length≤maxLen→cN (n+1) k pre.length (pre++x::post)=cN n (k+((M.Server.cnt x:Nat):Int)) ((pre.length+1:Nat):Int) (pre++x'::post)) ∧ ∀n (l:List M.Server) (i:Nat),l[i]? = some x'→l.length≤maxLen→cR l (n+1) k i=cR l n (k+((M.Server.cnt x:Nat):Int)) ((i+1:Nat):Int):=by
 unfold KB at hB;unfold M.Server.cnt at hB ⊢
 have A:(0≤k∧k≤KB)∧(0≤k+1∧k+1≤KB)∧(0≤k+1+((aF M.Item.cnt x.aH.Items:Nat):Int)∧k+1+((aF M.Item.cnt x.aH.Items:Nat):Int)≤KB)∧(0≤k+1+((aF M.Item.cnt x.aH.Items:Nat):Int)+1∧k+1+((aF M.Item.cnt x.aH.Items:Nat):Int)+1≤KB)∧(0≤k+1+((aF M.Item.cnt x.aH.Items:Nat):Int)+1+((aF M.aM.cnt x.aM:Nat):Int)∧k+1+((aF M.Item.cnt x.aH.Items:Nat):Int)+1+((aF M.aM.cnt x.aM:Nat):Int)≤KB)∧(0≤k+1+((aF M.Item.cnt x.aH.Items:Nat):Int)+1+((aF M.aM.cnt x.aM:Nat):Int)+((aF M.aZ.cnt x.Changes:Nat):Int)∧k+1+((aF M.Item.cnt x.aH.Items:Nat):Int)+1+((aF M.aM.cnt x.aM:Nat):Int)+((aF M.aZ.cnt x.Changes:Nat):Int)≤KB):=by
  unfold KB
  refine ⟨?_,?_,?_,?_,?_,?_⟩<;>omega
 have hE:k+1+((aF M.Item.cnt x.aH.Items:Nat):Int)+1+((aF M.aM.cnt x.aM:Nat):Int)+((aF M.aZ.cnt x.Changes:Nat):Int)=k+((M.Server.cnt x:Nat):Int):=by unfold M.Server.cnt;omega
 unfold M.Server.cnt at hE
 obtain ⟨q0,q1,q2,q3,q4,q5⟩:=A
 have t0:aJ (k)=some (mtx (k)):=mt q0.1 (Int.lt_of_add_one_le q1.2)
 have w0:=wk2 q0
 obtain ⟨y1,a1,b1,_⟩:=M.aGr.gX _ hx.aH.Items (k+1) q1.1 q2.2
 have d1:(decide (k+1+((aF M.Item.cnt x.aH.Items:Nat):Int)<0))=false:=dk q2.1
 have w2:=wk2 q2
 obtain ⟨y2,a2,b2,_⟩:=M.aC1.gX _ hx.aM (k+1+((aF M.Item.cnt x.aH.Items:Nat):Int)+1) q3.1 q4.2
 have d2:(decide (k+1+((aF M.Item.cnt x.aH.Items:Nat):Int)+1+((aF M.aM.cnt x.aM:Nat):Int)<0))=false:=dk q4.1
 obtain ⟨y3,a3,b3,_⟩:=M.aDJ.gX _ hx.Changes (k+1+((aF M.Item.cnt x.aH.Items:Nat):Int)+1+((aF M.aM.cnt x.aM:Nat):Int)) q4.1 q5.2
 have d3:(decide (k+1+((aF M.Item.cnt x.aH.Items:Nat):Int)+1+((aF M.aM.cnt x.aM:Nat):Int)+((aF M.aZ.cnt x.Changes:Nat):Int)<0))=false:=dk q5.1
 refine ⟨⟨⟨(mtx (k)),y1,k+1+((aF M.Item.cnt x.aH.Items:Nat):Int)⟩,y2,y3⟩,fun n pre post hl => ?_,fun n l i hi hl => ?_⟩
 ·have hl':=le_max hl
  have hp:pre.length<9223372036854775807:=by simp at hl';omega
  simp only [cN]
  rw [if_pos (aBr pre post x)]
  simp (maxSteps:=2000000) only [uS,uR,qA,bF hp,t0,w0,a1,w2,a2,a3]
  rw [hE]
 ·have hl':=le_max hl
  have hp:i<9223372036854775807:=by have:=(List.getElem?_eq_some_iff.1 hi).1;omega
  simp only [cR]
  rw [if_pos (aDz hi)]
  simp (maxSteps:=2000000) only [aBT hi,qA,bF hp,t0,w0,b1,d1,w2,b2,d2,b3,d3,bne_self_eq_false,beq_self_eq_true,qB,qD,if_false]
  rw [hE]
theorem M.aD8.gX (xs:List M.Server) (hx:(xs.length≤maxLen ∧ ∀y∈xs,M.Server.ok y)) (k:Int) (h0:0≤k) (hB:k+((aF M.Server.cnt xs:Nat):Int)≤KB) : ∃ys,pW xs k=some (ys,k+((aF M.Server.cnt xs:Nat):Int))∧rJ ys k=some (k+((aF M.Server.cnt xs:Nat):Int))∧ys.length=xs.length:=by
 have hm:=le_max hx.1
 obtain ⟨ys,h1,h2,h3⟩:=mA (ML:=cN) (HL:=cR) (c:=M.Server.cnt) (ok:=M.Server.ok) (fun x hx k h0 hB=>M.Server.sC x hx k h0 hB) (fun n k l=>by simp only [cN];rw [if_neg (by rw [aP];simp)]) (fun n k l=>by simp only [cR];rw [if_neg (by rw [aP];simp)]) xs [] fuel k (by simpa using hx.1) (by unfold fuel;omega) hx.2 h0 hB
 refine ⟨ys,by unfold pW;simpa using h2,by unfold rJ;simpa using h3 fuel (by unfold fuel;omega),h1⟩
def M.World.aPB (x:M.World):Nat:=(aF M.aC.cnt x.aA.Buckets)+(aF M.bH.cnt x.Pages)+(aF M.cJ.cnt x.Locks.Locks)+(aF M.eU.cnt x.Channel.Mails)+(aF M.Site.cnt x.Sites)+(aF M.Server.cnt x.Servers)
theorem M.World.gX (x:M.World) (hx:M.World.ok x) (k:Int) (h0:0≤k) (hB:k+((M.World.aPB x:Nat):Int)≤KB) : ∃y1 y2 y3 y4 y5 y6,oU x k=some (y1,y2,y3,y4,y5,y6,k+((M.World.aPB x:Nat):Int))∧pD (⟨x.Now,x.Online,x.Device,⟨y1⟩,y2,x.NextPage,⟨y3⟩,⟨y4⟩,y5,y6⟩:M.World) k=some (k+((M.World.aPB x:Nat):Int)):=by
 unfold KB at hB;unfold M.World.aPB at hB ⊢
 obtain ⟨y1,a1,b1,_⟩:=M.aD5.gX _ hx.aA.Buckets (k) (by omega) (by unfold KB;omega)
 obtain ⟨y2,a2,b2,_⟩:=M.aJs.gX _ hx.Pages (k+((aF M.aC.cnt x.aA.Buckets:Nat):Int)) (by omega) (by unfold KB;omega)
 obtain ⟨y3,a3,b3,_⟩:=M.aJx.gX _ hx.Locks.Locks (k+((aF M.aC.cnt x.aA.Buckets:Nat):Int)+((aF M.bH.cnt x.Pages:Nat):Int)) (by omega) (by unfold KB;omega)
 obtain ⟨y4,a4,b4,_⟩:=M.aKP.gX _ hx.Channel.Mails (k+((aF M.aC.cnt x.aA.Buckets:Nat):Int)+((aF M.bH.cnt x.Pages:Nat):Int)+((aF M.cJ.cnt x.Locks.Locks:Nat):Int)) (by omega) (by unfold KB;omega)
 obtain ⟨y5,a5,b5,_⟩:=M.aJp.gX _ hx.Sites (k+((aF M.aC.cnt x.aA.Buckets:Nat):Int)+((aF M.bH.cnt x.Pages:Nat):Int)+((aF M.cJ.cnt x.Locks.Locks:Nat):Int)+((aF M.eU.cnt x.Channel.Mails:Nat):Int)) (by omega) (by unfold KB;omega)
 obtain ⟨y6,a6,b6,_⟩:=M.aD8.gX _ hx.Servers (k+((aF M.aC.cnt x.aA.Buckets:Nat):Int)+((aF M.bH.cnt x.Pages:Nat):Int)+((aF M.cJ.cnt x.Locks.Locks:Nat):Int)+((aF M.eU.cnt x.Channel.Mails:Nat):Int)+((aF M.Site.cnt x.Sites:Nat):Int)) (by omega) (by unfold KB;omega)
 refine ⟨y1,y2,y3,y4,y5,y6,?_,?_⟩
 ·unfold oU
  simp only [yG,sD,yB,a1,a2,a3,a4,a5,a6,qA]
  try (simp only [qX,qW,true_and];omega)
 ·unfold pD
  simp (disch:=(first | omega | (unfold KB;omega))) only [yA,sE,yE,b1,b2,b3,b4,b5,b6,qA,dk,qD,if_false]
  try (simp only [qX];omega)
theorem M.aDy.gC (xs:List Int):xs.length≤40*(xs.length):=by omega
theorem M.Cached.gC (x:M.Cached):M.Cached.cnt x≤40+40*M.Cached.sz x:=by
 unfold M.Cached.cnt
 simp only [M.Cached.sz,M.Response.sz]
 have:=M.aDy.gC x.Response.Body
 omega
theorem M.aD0.gC (xs:List M.Cached):aF M.Cached.cnt xs≤40*((xs.length+aF M.Cached.sz xs)):=nV (fun x _=>M.Cached.gC x)
theorem M.Cache.gC (x:M.Cache):M.Cache.cnt x≤40+40*M.Cache.sz x:=by
 unfold M.Cache.cnt
 simp only [M.Cache.sz]
 have:=M.aD0.gC x.Entries
 omega
theorem M.aF4.gC (xs:List M.Cache):aF M.Cache.cnt xs≤40*((xs.length+aF M.Cache.sz xs)):=nV (fun x _=>M.Cache.gC x)
theorem M.Field.gC (x:M.Field):M.Field.cnt x≤40+40*M.Field.sz x:=by
 unfold M.Field.cnt
 simp only [M.Field.sz]
 omega
theorem M.aGY.gC (xs:List M.Field):aF M.Field.cnt xs≤40*((xs.length+aF M.Field.sz xs)):=nV (fun x _=>M.Field.gC x)
theorem M.Item.gC (x:M.Item):M.Item.cnt x≤40+40*M.Item.sz x:=by
 unfold M.Item.cnt
 simp only [M.Item.sz,M.Key.sz,M.aW.sz]
 have:=M.aGY.gC x.aW.Fields
 omega
theorem M.aGr.gC (xs:List M.Item):aF M.Item.cnt xs≤40*((xs.length+aF M.Item.sz xs)):=nV (fun x _=>M.Item.gC x)
theorem M.aH.gC (x:M.aH):M.aH.cnt x≤40+40*M.aH.sz x:=by
 unfold M.aH.cnt
 simp only [M.aH.sz]
 have:=M.aGr.gC x.Items
 omega
theorem M.aFs.gC (xs:List M.aH):aF M.aH.cnt xs≤40*((xs.length+aF M.aH.sz xs)):=nV (fun x _=>M.aH.gC x)
theorem M.aE.gC (x:M.aE):M.aE.cnt x≤40+40*M.aE.sz x:=by
 unfold M.aE.cnt
 simp only [M.aE.sz]
 omega
theorem M.aCI.gC (xs:List M.aE):aF M.aE.cnt xs≤40*((xs.length+aF M.aE.sz xs)):=nV (fun x _=>M.aE.gC x)
theorem M.aZ.gC (x:M.aZ):M.aZ.cnt x≤40+40*M.aZ.sz x:=by
 unfold M.aZ.cnt
 simp only [M.aZ.sz,M.Key.sz]
 omega
theorem M.aDJ.gC (xs:List M.aZ):aF M.aZ.cnt xs≤40*((xs.length+aF M.aZ.sz xs)):=nV (fun x _=>M.aZ.gC x)
theorem M.aC.gC (x:M.aC):M.aC.cnt x≤40+40*M.aC.sz x:=by
 unfold M.aC.cnt
 simp only [M.aC.sz,M.Registration.sz,M.aO.sz,M.bC.sz,M.Database.sz,M.aD.sz,M.aH.sz,M.Sync.sz,M.aR.sz]
 have:=M.aF4.gC x.Caches.Caches
 have:=M.aFs.gC x.bC.Base.Stores
 have:=M.aCI.gC x.bC.Base.Unique
 have:=M.aDy.gC x.bC.Log
 have:=M.aGr.gC x.aD.Base.Items
 have:=M.aDJ.gC x.aD.Sync.aR.Writes
 omega
theorem M.aD5.gC (xs:List M.aC):aF M.aC.cnt xs≤40*((xs.length+aF M.aC.sz xs)):=nV (fun x _=>M.aC.gC x)
theorem M.aK.gC (x:M.aK):M.aK.cnt x≤40+40*M.aK.sz x:=by
 unfold M.aK.cnt
 simp only [M.aK.sz]
 omega
theorem M.aD4.gC (xs:List M.aK):aF M.aK.cnt xs≤40*((xs.length+aF M.aK.sz xs)):=nV (fun x _=>M.aK.gC x)
theorem M.Instr.gC (x:M.Instr):M.Instr.cnt x≤40+40*M.Instr.sz x:=by
 unfold M.Instr.cnt
 simp only [M.Instr.sz]
 omega
theorem M.aDP.gC (xs:List M.Instr):aF M.Instr.cnt xs≤40*((xs.length+aF M.Instr.sz xs)):=nV (fun x _=>M.Instr.gC x)
theorem M.aMG.gC (xs:List Int):xs.length≤40*(xs.length):=by omega
theorem M.bH.gC (x:M.bH):M.bH.cnt x≤40+40*M.bH.sz x:=by
 unfold M.bH.cnt
 simp only [M.bH.sz,M.Machine.sz]
 have:=M.aD4.gC x.aK
 have:=M.aDP.gC x.Machine.Script
 have:=M.aMG.gC x.Machine.Regs
 omega
theorem M.aJs.gC (xs:List M.bH):aF M.bH.cnt xs≤40*((xs.length+aF M.bH.sz xs)):=nV (fun x _=>M.bH.gC x)
theorem M.cJ.gC (x:M.cJ):M.cJ.cnt x≤40+40*M.cJ.sz x:=by
 unfold M.cJ.cnt
 simp only [M.cJ.sz]
 omega
theorem M.aJx.gC (xs:List M.cJ):aF M.cJ.cnt xs≤40*((xs.length+aF M.cJ.sz xs)):=nV (fun x _=>M.cJ.gC x)
theorem M.eU.gC (x:M.eU):M.eU.cnt x≤40:=by
 unfold M.eU.cnt
 omega
theorem M.aKP.gC (xs:List M.eU):aF M.eU.cnt xs≤40*(xs.length):=Nat.le_trans (aFb (fun x _=>M.eU.gC x)) (by omega)
theorem M.aBb.gC (xs:List ByteArray):xs.length≤40*((xs.length+aF ByteArray.size xs)):=by omega
theorem M.Site.gC (x:M.Site):M.Site.cnt x≤40+40*M.Site.sz x:=by
 unfold M.Site.cnt
 simp only [M.Site.sz]
 have:=M.aBb.gC x.Files
 omega
theorem M.aJp.gC (xs:List M.Site):aF M.Site.cnt xs≤40*((xs.length+aF M.Site.sz xs)):=nV (fun x _=>M.Site.gC x)
theorem M.aM.gC (x:M.aM):M.aM.cnt x≤40:=by
 unfold M.aM.cnt
 omega
theorem M.aC1.gC (xs:List M.aM):aF M.aM.cnt xs≤40*(xs.length):=Nat.le_trans (aFb (fun x _=>M.aM.gC x)) (by omega)
theorem M.Server.gC (x:M.Server):M.Server.cnt x≤40+40*M.Server.sz x:=by
 unfold M.Server.cnt
 simp only [M.Server.sz,M.aH.sz]
 have:=M.aGr.gC x.aH.Items
 have:=M.aC1.gC x.aM
 have:=M.aDJ.gC x.Changes
 omega
theorem M.aD8.gC (xs:List M.Server):aF M.Server.cnt xs≤40*((xs.length+aF M.Server.sz xs)):=nV (fun x _=>M.Server.gC x)
theorem M.World.aQS (x:M.World):M.World.aPB x≤40*M.World.sz x:=by
 unfold M.World.aPB
 simp only [M.World.sz,M.aA.sz,M.aQ.sz,M.Channel.sz]
 have:=M.aD5.gC x.aA.Buckets
 have:=M.aJs.gC x.Pages
 have:=M.aJx.gC x.Locks.Locks
 have:=M.aKP.gC x.Channel.Mails
 have:=M.aJp.gC x.Sites
 have:=M.aD8.gC x.Servers
 omega
end Go.Proofs.YtimblbmbfdopgaaGreat.gen
