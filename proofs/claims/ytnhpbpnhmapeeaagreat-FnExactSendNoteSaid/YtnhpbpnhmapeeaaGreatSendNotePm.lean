/-
  Helper text. No conditions.
-/
import Derived.Test.YtnhpbpnhmapeeaaGreatSendNotePz
namespace Go.Proofs.YtnhpbpnhmapeeaaGreat.gen
open Go Go.Sh
set_option linter.unusedVariables false
set_option linter.unusedSimpArgs false
theorem aN4 : ∀(n:Nat) (v:Int) (b:ByteArray),v.toNat<n→0≤v→(b.size:Int)+v≤KB → ∃t,kQ n v b=some t∧t.size≤4611686018427387905
 | 0,v,b,h,_,_=>by omega
 | n+1,v,b,h,h0,hb=>by
  unfold KB at hb
  simp only [kQ]
  by_cases hv:v>0
  ·rw [if_pos (by simp;omega)]
   have h1:=Int.tmod_nonneg 10 h0
   have h2:=Int.tmod_lt_of_pos v (show (0:Int)<10 by omega)
   have hu:=aNu (IntKind.i64.wrap (48+Int.tmod v 10))
   have hd:Int.tdiv v 10=v/10:=Int.tdiv_eq_ediv_of_nonneg h0
   have hs:toStr [IntKind.u8.wrap (IntKind.i64.wrap (48+Int.tmod v 10))]=some (aB8 [IntKind.u8.wrap (IntKind.i64.wrap (48+Int.tmod v 10))]):=by
    unfold toStr;rw [if_pos (by simp;omega)]
   have hz:(aB8 [IntKind.u8.wrap (IntKind.i64.wrap (48+Int.tmod v 10))]).size=1:=rfl
   rw [hs,Option.bind_some]
   unfold cat
   rw [if_pos (by rw [hz];omega),Option.bind_some,hd,nK (by omega) (by omega)]
   refine aN4 n (v/10) _ (by omega) (by omega) ?_
   rw [ByteArray.size_append,hz]
   unfold KB
   omega
  ·rw [if_neg (by simp;omega)]
   have hq:cat (⟨#[109]⟩:ByteArray) b=some ((⟨#[109]⟩:ByteArray)++b):=by
    unfold cat;rw [if_pos (by show 1+b.size≤_;omega)]
   first | exact ⟨_,by rw [hq,Option.bind_some],by rw [ByteArray.size_append];show 1+b.size≤_;omega⟩ | exact ⟨_,by rw [hq];rfl,by rw [ByteArray.size_append];show 1+b.size≤_;omega⟩
theorem aOd (k:Int) (h0:0≤k) (h:k<KB) : ∃t,aJ k=some t:=by
 unfold aJ
 by_cases hk:k≤0
 ·exact ⟨_,by rw [if_pos (by simpa using hk)]⟩
 ·rw [if_neg (by simpa using hk)]
  obtain ⟨t,h1,_⟩:=aN4 fuel k ⟨#[]⟩ (by unfold fuel KB at *;omega) h0 (by show ((0:Nat):Int)+k≤KB;omega)
  exact ⟨t,h1⟩
def mtx (k:Int):ByteArray:=(aJ k).getD ⟨#[]⟩
theorem mt {k:Int} (h0:0≤k) (h:k<KB):aJ k=some (mtx k):=by
 obtain ⟨t,ht⟩:=aOd k h0 h
 unfold mtx;rw [ht];rfl
set_option maxHeartbeats 4000000 in
theorem M.aCe.pL (x:Int) (hx:True) (k:Int) (h0:0≤k) (hB:k+(((fun _:Int=>1) x:Nat):Int)≤KB) : ∃x':Int,(∀n (pre post:List Int),(pre++x::post).length≤maxLen→dS (n+1) k pre.length (pre++x::post)=dS n (k+(((fun _:Int=>1) x:Nat):Int)) ((pre.length+1:Nat):Int) (pre++x'::post)) ∧ ∀n (l:List Int) (i:Nat),l[i]? = some x'→l.length≤maxLen→eY l (n+1) k i=eY l n (k+(((fun _:Int=>1) x:Nat):Int)) ((i+1:Nat):Int):=by
 unfold KB at hB;(try simp only [] at hB ⊢)
 have A:(0≤k∧k≤KB)∧(0≤k+1∧k+1≤KB):=by
  unfold KB
  refine ⟨?_,?_⟩<;>omega
 have hE:k+1=k+(((fun _:Int=>1) x:Nat):Int):=by simp
 obtain ⟨q0,q1⟩:=A
 have w0:=wk2 q0
 refine ⟨(IntKind.u8.wrap k),fun n pre post hl => ?_,fun n l i hi hl => ?_⟩
 ·have hl':=le_max hl
  have hp:pre.length<9223372036854775807:=by simp at hl';omega
  simp only [dS]
  rw [if_pos (aAh pre post x)]
  simp (maxSteps:=2000000) only [rV,rT,Option.bind_some,bH hp,w0]
  rw [hE]
 ·have hl':=le_max hl
  have hp:i<9223372036854775807:=by have:=(List.getElem?_eq_some_iff.1 hi).1;omega
  simp only [eY]
  rw [if_pos (aCf hi)]
  simp (maxSteps:=2000000) only [aAi hi,Option.bind_some,bH hp,w0,bne_self_eq_false,beq_self_eq_true,Bool.not_true,Bool.false_eq_true,if_false]
  rw [hE]
theorem M.aCe.cl (xs:List Int):aG (fun _:Int=>1) xs=xs.length:=by
 induction xs with
 | nil=>rfl
 | cons x xs ih=>simp only [aG,ih,List.length_cons];omega
theorem M.aCe.fT (xs:List Int) (hx:okB xs) (k:Int) (h0:0≤k) (hB:k+((xs.length:Nat):Int)≤KB) : ∃ys,oD xs k=some (ys,k+((xs.length:Nat):Int))∧nV ys k=some (k+((xs.length:Nat):Int))∧ys.length=xs.length:=by
 have hm:=le_max hx.1
 rw [←M.aCe.cl xs] at hB ⊢
 obtain ⟨ys,h1,h2,h3⟩:=kW (ML:=dS) (HL:=eY) (c:=(fun _:Int=>1)) (ok:=(fun _:Int=>True)) (fun x hx k h0 hB=>M.aCe.pL x hx k h0 hB) (fun n k l=>by simp only [dS];rw [if_neg (by rw [aT];simp)]) (fun n k l=>by simp only [eY];rw [if_neg (by rw [aT];simp)]) xs [] fuel k (by simpa using hx.1) (by unfold fuel;omega) (fun _ _=>trivial) h0 hB
 refine ⟨ys,by unfold oD;simpa using h2,by unfold nV;simpa using h3 fuel (by unfold fuel;omega),by have:=M.aCe.cl xs;omega⟩
def M.Cached.cnt (x:M.Cached):Nat:=6+(x.Response.Body.length)
set_option maxHeartbeats 4000000 in
theorem M.Cached.pL (x:M.Cached) (hx:M.Cached.ok x) (k:Int) (h0:0≤k) (hB:k+((M.Cached.cnt x:Nat):Int)≤KB) : ∃x':M.Cached,(∀n (pre post:List M.Cached),(pre++x::post).length≤maxLen→cN (n+1) k pre.length (pre++x::post)=cN n (k+((M.Cached.cnt x:Nat):Int)) ((pre.length+1:Nat):Int) (pre++x'::post)) ∧ ∀n (l:List M.Cached) (i:Nat),l[i]? = some x'→l.length≤maxLen→dI l (n+1) k i=dI l n (k+((M.Cached.cnt x:Nat):Int)) ((i+1:Nat):Int):=by
 unfold KB at hB;unfold M.Cached.cnt at hB ⊢
 have A:(0≤k∧k≤KB)∧(0≤k+1∧k+1≤KB)∧(0≤k+1+1∧k+1+1≤KB)∧(0≤k+1+1+1∧k+1+1+1≤KB)∧(0≤k+1+1+1+1∧k+1+1+1+1≤KB)∧(0≤k+1+1+1+1+1∧k+1+1+1+1+1≤KB)∧(0≤k+1+1+1+1+1+((x.Response.Body.length:Nat):Int)∧k+1+1+1+1+1+((x.Response.Body.length:Nat):Int)≤KB)∧(0≤k+1+1+1+1+1+((x.Response.Body.length:Nat):Int)+1∧k+1+1+1+1+1+((x.Response.Body.length:Nat):Int)+1≤KB):=by
  unfold KB
  refine ⟨?_,?_,?_,?_,?_,?_,?_,?_⟩<;>omega
 have hE:k+1+1+1+1+1+((x.Response.Body.length:Nat):Int)+1=k+((M.Cached.cnt x:Nat):Int):=by unfold M.Cached.cnt;omega
 unfold M.Cached.cnt at hE
 obtain ⟨q0,q1,q2,q3,q4,q5,q6,q7⟩:=A
 have t0:aJ (k)=some (mtx (k)):=mt q0.1 (Int.lt_of_add_one_le q1.2)
 have w0:=wk2 q0
 have t1:aJ (k+1)=some (mtx (k+1)):=mt q1.1 (Int.lt_of_add_one_le q2.2)
 have w1:=wk2 q1
 have w2:=wk2 q2
 have w3:=wk2 q3
 have w4:=wk2 q4
 obtain ⟨y1,a1,b1,_⟩:=M.aCe.fT _ hx.Response.Body (k+1+1+1+1+1) q5.1 q6.2
 have d1:(decide (k+1+1+1+1+1+((x.Response.Body.length:Nat):Int)<0))=false:=dk q6.1
 have w6:=wk2 q6
 refine ⟨⟨(mtx (k)),(mtx (k+1)),⟨k+1+1,k+1+1+1,k+1+1+1+1,y1,((Int.tmod (k+1+1+1+1+1+((x.Response.Body.length:Nat):Int)) 3)==0)⟩⟩,fun n pre post hl => ?_,fun n l i hi hl => ?_⟩
 ·have hl':=le_max hl
  have hp:pre.length<9223372036854775807:=by simp at hl';omega
  simp only [cN]
  rw [if_pos (aAh pre post x)]
  simp (maxSteps:=2000000) only [rV,rT,Option.bind_some,bH hp,t0,w0,t1,w1,w2,w3,w4,a1,w6]
  rw [hE]
 ·have hl':=le_max hl
  have hp:i<9223372036854775807:=by have:=(List.getElem?_eq_some_iff.1 hi).1;omega
  simp only [dI]
  rw [if_pos (aCf hi)]
  simp (maxSteps:=2000000) only [aAi hi,Option.bind_some,bH hp,t0,w0,t1,w1,w2,w3,w4,b1,d1,w6,bne_self_eq_false,beq_self_eq_true,Bool.not_true,Bool.false_eq_true,if_false]
  rw [hE]
theorem M.aCg.fT (xs:List M.Cached) (hx:(xs.length≤maxLen ∧ ∀y∈xs,M.Cached.ok y)) (k:Int) (h0:0≤k) (hB:k+((aG M.Cached.cnt xs:Nat):Int)≤KB) : ∃ys,oN xs k=some (ys,k+((aG M.Cached.cnt xs:Nat):Int))∧oG ys k=some (k+((aG M.Cached.cnt xs:Nat):Int))∧ys.length=xs.length:=by
 have hm:=le_max hx.1
 obtain ⟨ys,h1,h2,h3⟩:=kW (ML:=cN) (HL:=dI) (c:=M.Cached.cnt) (ok:=M.Cached.ok) (fun x hx k h0 hB=>M.Cached.pL x hx k h0 hB) (fun n k l=>by simp only [cN];rw [if_neg (by rw [aT];simp)]) (fun n k l=>by simp only [dI];rw [if_neg (by rw [aT];simp)]) xs [] fuel k (by simpa using hx.1) (by unfold fuel;omega) hx.2 h0 hB
 refine ⟨ys,by unfold oN;simpa using h2,by unfold oG;simpa using h3 fuel (by unfold fuel;omega),h1⟩
def M.Cache.cnt (x:M.Cache):Nat:=1+(aG M.Cached.cnt x.Entries)
set_option maxHeartbeats 4000000 in
theorem M.Cache.pL (x:M.Cache) (hx:M.Cache.ok x) (k:Int) (h0:0≤k) (hB:k+((M.Cache.cnt x:Nat):Int)≤KB) : ∃x':M.Cache,(∀n (pre post:List M.Cache),(pre++x::post).length≤maxLen→dB (n+1) k pre.length (pre++x::post)=dB n (k+((M.Cache.cnt x:Nat):Int)) ((pre.length+1:Nat):Int) (pre++x'::post)) ∧ ∀n (l:List M.Cache) (i:Nat),l[i]? = some x'→l.length≤maxLen→eB l (n+1) k i=eB l n (k+((M.Cache.cnt x:Nat):Int)) ((i+1:Nat):Int):=by
 unfold KB at hB;unfold M.Cache.cnt at hB ⊢
 have A:(0≤k∧k≤KB)∧(0≤k+1∧k+1≤KB)∧(0≤k+1+((aG M.Cached.cnt x.Entries:Nat):Int)∧k+1+((aG M.Cached.cnt x.Entries:Nat):Int)≤KB):=by
  unfold KB
  refine ⟨?_,?_,?_⟩<;>omega
 have hE:k+1+((aG M.Cached.cnt x.Entries:Nat):Int)=k+((M.Cache.cnt x:Nat):Int):=by unfold M.Cache.cnt;omega
 unfold M.Cache.cnt at hE
 obtain ⟨q0,q1,q2⟩:=A
 have w0:=wk2 q0
 obtain ⟨y1,a1,b1,_⟩:=M.aCg.fT _ hx.Entries (k+1) q1.1 q2.2
 have d1:(decide (k+1+((aG M.Cached.cnt x.Entries:Nat):Int)<0))=false:=dk q2.1
 refine ⟨⟨k,y1⟩,fun n pre post hl => ?_,fun n l i hi hl => ?_⟩
 ·have hl':=le_max hl
  have hp:pre.length<9223372036854775807:=by simp at hl';omega
  simp only [dB]
  rw [if_pos (aAh pre post x)]
  simp (maxSteps:=2000000) only [rV,rT,Option.bind_some,bH hp,w0,a1]
  rw [hE]
 ·have hl':=le_max hl
  have hp:i<9223372036854775807:=by have:=(List.getElem?_eq_some_iff.1 hi).1;omega
  simp only [eB]
  rw [if_pos (aCf hi)]
  simp (maxSteps:=2000000) only [aAi hi,Option.bind_some,bH hp,w0,b1,d1,bne_self_eq_false,beq_self_eq_true,Bool.not_true,Bool.false_eq_true,if_false]
  rw [hE]
theorem M.aEZ.fT (xs:List M.Cache) (hx:(xs.length≤maxLen ∧ ∀y∈xs,M.Cache.ok y)) (k:Int) (h0:0≤k) (hB:k+((aG M.Cache.cnt xs:Nat):Int)≤KB) : ∃ys,rO xs k=some (ys,k+((aG M.Cache.cnt xs:Nat):Int))∧qC ys k=some (k+((aG M.Cache.cnt xs:Nat):Int))∧ys.length=xs.length:=by
 have hm:=le_max hx.1
 obtain ⟨ys,h1,h2,h3⟩:=kW (ML:=dB) (HL:=eB) (c:=M.Cache.cnt) (ok:=M.Cache.ok) (fun x hx k h0 hB=>M.Cache.pL x hx k h0 hB) (fun n k l=>by simp only [dB];rw [if_neg (by rw [aT];simp)]) (fun n k l=>by simp only [eB];rw [if_neg (by rw [aT];simp)]) xs [] fuel k (by simpa using hx.1) (by unfold fuel;omega) hx.2 h0 hB
 refine ⟨ys,by unfold rO;simpa using h2,by unfold qC;simpa using h3 fuel (by unfold fuel;omega),h1⟩
def M.Field.cnt (x:M.Field):Nat:=2
set_option maxHeartbeats 4000000 in
theorem M.Field.pL (x:M.Field) (hx:M.Field.ok x) (k:Int) (h0:0≤k) (hB:k+((M.Field.cnt x:Nat):Int)≤KB) : ∃x':M.Field,(∀n (pre post:List M.Field),(pre++x::post).length≤maxLen→cX (n+1) k pre.length (pre++x::post)=cX n (k+((M.Field.cnt x:Nat):Int)) ((pre.length+1:Nat):Int) (pre++x'::post)) ∧ ∀n (l:List M.Field) (i:Nat),l[i]? = some x'→l.length≤maxLen→eE l (n+1) k i=eE l n (k+((M.Field.cnt x:Nat):Int)) ((i+1:Nat):Int):=by
 unfold KB at hB;unfold M.Field.cnt at hB ⊢
 have A:(0≤k∧k≤KB)∧(0≤k+1∧k+1≤KB)∧(0≤k+1+1∧k+1+1≤KB):=by
  unfold KB
  refine ⟨?_,?_,?_⟩<;>omega
 have hE:k+1+1=k+((M.Field.cnt x:Nat):Int):=by unfold M.Field.cnt;omega
 unfold M.Field.cnt at hE
 obtain ⟨q0,q1,q2⟩:=A
 have t0:aJ (k)=some (mtx (k)):=mt q0.1 (Int.lt_of_add_one_le q1.2)
 have w0:=wk2 q0
 have w1:=wk2 q1
 refine ⟨⟨(mtx (k)),k+1⟩,fun n pre post hl => ?_,fun n l i hi hl => ?_⟩
 ·have hl':=le_max hl
  have hp:pre.length<9223372036854775807:=by simp at hl';omega
  simp only [cX]
  rw [if_pos (aAh pre post x)]
  simp (maxSteps:=2000000) only [rV,rT,Option.bind_some,bH hp,t0,w0,w1]
  rw [hE]
 ·have hl':=le_max hl
  have hp:i<9223372036854775807:=by have:=(List.getElem?_eq_some_iff.1 hi).1;omega
  simp only [eE]
  rw [if_pos (aCf hi)]
  simp (maxSteps:=2000000) only [aAi hi,Option.bind_some,bH hp,t0,w0,w1,bne_self_eq_false,beq_self_eq_true,Bool.not_true,Bool.false_eq_true,if_false]
  rw [hE]
theorem M.aE0.fT (xs:List M.Field) (hx:(xs.length≤maxLen ∧ ∀y∈xs,M.Field.ok y)) (k:Int) (h0:0≤k) (hB:k+((aG M.Field.cnt xs:Nat):Int)≤KB) : ∃ys,rE xs k=some (ys,k+((aG M.Field.cnt xs:Nat):Int))∧qL ys k=some (k+((aG M.Field.cnt xs:Nat):Int))∧ys.length=xs.length:=by
 have hm:=le_max hx.1
 obtain ⟨ys,h1,h2,h3⟩:=kW (ML:=cX) (HL:=eE) (c:=M.Field.cnt) (ok:=M.Field.ok) (fun x hx k h0 hB=>M.Field.pL x hx k h0 hB) (fun n k l=>by simp only [cX];rw [if_neg (by rw [aT];simp)]) (fun n k l=>by simp only [eE];rw [if_neg (by rw [aT];simp)]) xs [] fuel k (by simpa using hx.1) (by unfold fuel;omega) hx.2 h0 hB
 refine ⟨ys,by unfold rE;simpa using h2,by unfold qL;simpa using h3 fuel (by unfold fuel;omega),h1⟩
def M.Item.cnt (x:M.Item):Nat:=3+(aG M.Field.cnt x.aH.Fields)
set_option maxHeartbeats 4000000 in
theorem M.Item.pL (x:M.Item) (hx:M.Item.ok x) (k:Int) (h0:0≤k) (hB:k+((M.Item.cnt x:Nat):Int)≤KB) : ∃x':M.Item,(∀n (pre post:List M.Item),(pre++x::post).length≤maxLen→dQ (n+1) k pre.length (pre++x::post)=dQ n (k+((M.Item.cnt x:Nat):Int)) ((pre.length+1:Nat):Int) (pre++x'::post)) ∧ ∀n (l:List M.Item) (i:Nat),l[i]? = some x'→l.length≤maxLen→fA l (n+1) k i=fA l n (k+((M.Item.cnt x:Nat):Int)) ((i+1:Nat):Int):=by
 unfold KB at hB;unfold M.Item.cnt at hB ⊢
 have A:(0≤k∧k≤KB)∧(0≤k+1∧k+1≤KB)∧(0≤k+1+1∧k+1+1≤KB)∧(0≤k+1+1+1∧k+1+1+1≤KB)∧(0≤k+1+1+1+((aG M.Field.cnt x.aH.Fields:Nat):Int)∧k+1+1+1+((aG M.Field.cnt x.aH.Fields:Nat):Int)≤KB):=by
  unfold KB
  refine ⟨?_,?_,?_,?_,?_⟩<;>omega
 have hE:k+1+1+1+((aG M.Field.cnt x.aH.Fields:Nat):Int)=k+((M.Item.cnt x:Nat):Int):=by unfold M.Item.cnt;omega
 unfold M.Item.cnt at hE
 obtain ⟨q0,q1,q2,q3,q4⟩:=A
 have w0:=wk2 q0
 have w1:=wk2 q1
 have t2:aJ (k+1+1)=some (mtx (k+1+1)):=mt q2.1 (Int.lt_of_add_one_le q3.2)
 have w2:=wk2 q2
 obtain ⟨y1,a1,b1,_⟩:=M.aE0.fT _ hx.aH.Fields (k+1+1+1) q3.1 q4.2
 have d1:(decide (k+1+1+1+((aG M.Field.cnt x.aH.Fields:Nat):Int)<0))=false:=dk q4.1
 refine ⟨⟨⟨k,k+1,(mtx (k+1+1))⟩,⟨y1⟩⟩,fun n pre post hl => ?_,fun n l i hi hl => ?_⟩
 ·have hl':=le_max hl
  have hp:pre.length<9223372036854775807:=by simp at hl';omega
  simp only [dQ]
  rw [if_pos (aAh pre post x)]
  simp (maxSteps:=2000000) only [rV,rT,Option.bind_some,bH hp,w0,w1,t2,w2,a1]
  rw [hE]
 ·have hl':=le_max hl
  have hp:i<9223372036854775807:=by have:=(List.getElem?_eq_some_iff.1 hi).1;omega
  simp only [fA]
  rw [if_pos (aCf hi)]
  simp (maxSteps:=2000000) only [aAi hi,Option.bind_some,bH hp,w0,w1,t2,w2,b1,d1,bne_self_eq_false,beq_self_eq_true,Bool.not_true,Bool.false_eq_true,if_false]
  rw [hE]
theorem M.aFF.fT (xs:List M.Item) (hx:(xs.length≤maxLen ∧ ∀y∈xs,M.Item.ok y)) (k:Int) (h0:0≤k) (hB:k+((aG M.Item.cnt xs:Nat):Int)≤KB) : ∃ys,kY xs k=some (ys,k+((aG M.Item.cnt xs:Nat):Int))∧kZ ys k=some (k+((aG M.Item.cnt xs:Nat):Int))∧ys.length=xs.length:=by
 have hm:=le_max hx.1
 obtain ⟨ys,h1,h2,h3⟩:=kW (ML:=dQ) (HL:=fA) (c:=M.Item.cnt) (ok:=M.Item.ok) (fun x hx k h0 hB=>M.Item.pL x hx k h0 hB) (fun n k l=>by simp only [dQ];rw [if_neg (by rw [aT];simp)]) (fun n k l=>by simp only [fA];rw [if_neg (by rw [aT];simp)]) xs [] fuel k (by simpa using hx.1) (by unfold fuel;omega) hx.2 h0 hB
 refine ⟨ys,by unfold kY;simpa using h2,by unfold kZ;simpa using h3 fuel (by unfold fuel;omega),h1⟩
def M.aE.cnt (x:M.aE):Nat:=2+(aG M.Item.cnt x.Items)
set_option maxHeartbeats 4000000 in
theorem M.aE.pL (x:M.aE) (hx:M.aE.ok x) (k:Int) (h0:0≤k) (hB:k+((M.aE.cnt x:Nat):Int)≤KB) : ∃x':M.aE,(∀n (pre post:List M.aE),(pre++x::post).length≤maxLen→cZ (n+1) k pre.length (pre++x::post)=cZ n (k+((M.aE.cnt x:Nat):Int)) ((pre.length+1:Nat):Int) (pre++x'::post)) ∧ ∀n (l:List M.aE) (i:Nat),l[i]? = some x'→l.length≤maxLen→eC l (n+1) k i=eC l n (k+((M.aE.cnt x:Nat):Int)) ((i+1:Nat):Int):=by
 unfold KB at hB;unfold M.aE.cnt at hB ⊢
 have A:(0≤k∧k≤KB)∧(0≤k+1∧k+1≤KB)∧(0≤k+1+((aG M.Item.cnt x.Items:Nat):Int)∧k+1+((aG M.Item.cnt x.Items:Nat):Int)≤KB)∧(0≤k+1+((aG M.Item.cnt x.Items:Nat):Int)+1∧k+1+((aG M.Item.cnt x.Items:Nat):Int)+1≤KB):=by
  unfold KB
  refine ⟨?_,?_,?_,?_⟩<;>omega
 have hE:k+1+((aG M.Item.cnt x.Items:Nat):Int)+1=k+((M.aE.cnt x:Nat):Int):=by unfold M.aE.cnt;omega
 unfold M.aE.cnt at hE
 obtain ⟨q0,q1,q2,q3⟩:=A
 have t0:aJ (k)=some (mtx (k)):=mt q0.1 (Int.lt_of_add_one_le q1.2)
 have w0:=wk2 q0
 obtain ⟨y1,a1,b1,_⟩:=M.aFF.fT _ hx.Items (k+1) q1.1 q2.2
 have d1:(decide (k+1+((aG M.Item.cnt x.Items:Nat):Int)<0))=false:=dk q2.1
 have w2:=wk2 q2
 refine ⟨⟨(mtx (k)),y1,k+1+((aG M.Item.cnt x.Items:Nat):Int)⟩,fun n pre post hl => ?_,fun n l i hi hl => ?_⟩
 ·have hl':=le_max hl
  have hp:pre.length<9223372036854775807:=by simp at hl';omega
  simp only [cZ]
  rw [if_pos (aAh pre post x)]
  simp (maxSteps:=2000000) only [rV,rT,Option.bind_some,bH hp,t0,w0,a1,w2]
  rw [hE]
 ·have hl':=le_max hl
  have hp:i<9223372036854775807:=by have:=(List.getElem?_eq_some_iff.1 hi).1;omega
  simp only [eC]
  rw [if_pos (aCf hi)]
  simp (maxSteps:=2000000) only [aAi hi,Option.bind_some,bH hp,t0,w0,b1,d1,w2,bne_self_eq_false,beq_self_eq_true,Bool.not_true,Bool.false_eq_true,if_false]
  rw [hE]
theorem M.aEN.fT (xs:List M.aE) (hx:(xs.length≤maxLen ∧ ∀y∈xs,M.aE.ok y)) (k:Int) (h0:0≤k) (hB:k+((aG M.aE.cnt xs:Nat):Int)≤KB) : ∃ys,qI xs k=some (ys,k+((aG M.aE.cnt xs:Nat):Int))∧pU ys k=some (k+((aG M.aE.cnt xs:Nat):Int))∧ys.length=xs.length:=by
 have hm:=le_max hx.1
 obtain ⟨ys,h1,h2,h3⟩:=kW (ML:=cZ) (HL:=eC) (c:=M.aE.cnt) (ok:=M.aE.ok) (fun x hx k h0 hB=>M.aE.pL x hx k h0 hB) (fun n k l=>by simp only [cZ];rw [if_neg (by rw [aT];simp)]) (fun n k l=>by simp only [eC];rw [if_neg (by rw [aT];simp)]) xs [] fuel k (by simpa using hx.1) (by unfold fuel;omega) hx.2 h0 hB
 refine ⟨ys,by unfold qI;simpa using h2,by unfold pU;simpa using h3 fuel (by unfold fuel;omega),h1⟩
def M.aD.cnt (x:M.aD):Nat:=2
set_option maxHeartbeats 4000000 in
theorem M.aD.pL (x:M.aD) (hx:M.aD.ok x) (k:Int) (h0:0≤k) (hB:k+((M.aD.cnt x:Nat):Int)≤KB) : ∃x':M.aD,(∀n (pre post:List M.aD),(pre++x::post).length≤maxLen→bU (n+1) k pre.length (pre++x::post)=bU n (k+((M.aD.cnt x:Nat):Int)) ((pre.length+1:Nat):Int) (pre++x'::post)) ∧ ∀n (l:List M.aD) (i:Nat),l[i]? = some x'→l.length≤maxLen→cG l (n+1) k i=cG l n (k+((M.aD.cnt x:Nat):Int)) ((i+1:Nat):Int):=by
 unfold KB at hB;unfold M.aD.cnt at hB ⊢
 have A:(0≤k∧k≤KB)∧(0≤k+1∧k+1≤KB)∧(0≤k+1+1∧k+1+1≤KB):=by
  unfold KB
  refine ⟨?_,?_,?_⟩<;>omega
 have hE:k+1+1=k+((M.aD.cnt x:Nat):Int):=by unfold M.aD.cnt;omega
 unfold M.aD.cnt at hE
 obtain ⟨q0,q1,q2⟩:=A
 have t0:aJ (k)=some (mtx (k)):=mt q0.1 (Int.lt_of_add_one_le q1.2)
 have w0:=wk2 q0
 have t1:aJ (k+1)=some (mtx (k+1)):=mt q1.1 (Int.lt_of_add_one_le q2.2)
 have w1:=wk2 q1
 refine ⟨⟨(mtx (k)),(mtx (k+1))⟩,fun n pre post hl => ?_,fun n l i hi hl => ?_⟩
 ·have hl':=le_max hl
  have hp:pre.length<9223372036854775807:=by simp at hl';omega
  simp only [bU]
  rw [if_pos (aAh pre post x)]
  simp (maxSteps:=2000000) only [rV,rT,Option.bind_some,bH hp,t0,w0,t1,w1]
  rw [hE]
 ·have hl':=le_max hl
  have hp:i<9223372036854775807:=by have:=(List.getElem?_eq_some_iff.1 hi).1;omega
  simp only [cG]
  rw [if_pos (aCf hi)]
  simp (maxSteps:=2000000) only [aAi hi,Option.bind_some,bH hp,t0,w0,t1,w1,bne_self_eq_false,beq_self_eq_true,Bool.not_true,Bool.false_eq_true,if_false]
  rw [hE]
theorem M.aA9.fT (xs:List M.aD) (hx:(xs.length≤maxLen ∧ ∀y∈xs,M.aD.ok y)) (k:Int) (h0:0≤k) (hB:k+((aG M.aD.cnt xs:Nat):Int)≤KB) : ∃ys,lH xs k=some (ys,k+((aG M.aD.cnt xs:Nat):Int))∧lG ys k=some (k+((aG M.aD.cnt xs:Nat):Int))∧ys.length=xs.length:=by
 have hm:=le_max hx.1
 obtain ⟨ys,h1,h2,h3⟩:=kW (ML:=bU) (HL:=cG) (c:=M.aD.cnt) (ok:=M.aD.ok) (fun x hx k h0 hB=>M.aD.pL x hx k h0 hB) (fun n k l=>by simp only [bU];rw [if_neg (by rw [aT];simp)]) (fun n k l=>by simp only [cG];rw [if_neg (by rw [aT];simp)]) xs [] fuel k (by simpa using hx.1) (by unfold fuel;omega) hx.2 h0 hB
 refine ⟨ys,by unfold lH;simpa using h2,by unfold lG;simpa using h3 fuel (by unfold fuel;omega),h1⟩
def M.aV.cnt (x:M.aV):Nat:=7
set_option maxHeartbeats 4000000 in
theorem M.aV.pL (x:M.aV) (hx:M.aV.ok x) (k:Int) (h0:0≤k) (hB:k+((M.aV.cnt x:Nat):Int)≤KB) : ∃x':M.aV,(∀n (pre post:List M.aV),(pre++x::post).length≤maxLen→cY (n+1) k pre.length (pre++x::post)=cY n (k+((M.aV.cnt x:Nat):Int)) ((pre.length+1:Nat):Int) (pre++x'::post)) ∧ ∀n (l:List M.aV) (i:Nat),l[i]? = some x'→l.length≤maxLen→dZ l (n+1) k i=dZ l n (k+((M.aV.cnt x:Nat):Int)) ((i+1:Nat):Int):=by
 unfold KB at hB;unfold M.aV.cnt at hB ⊢
 have A:(0≤k∧k≤KB)∧(0≤k+1∧k+1≤KB)∧(0≤k+1+1∧k+1+1≤KB)∧(0≤k+1+1+1∧k+1+1+1≤KB)∧(0≤k+1+1+1+1∧k+1+1+1+1≤KB)∧(0≤k+1+1+1+1+1∧k+1+1+1+1+1≤KB)∧(0≤k+1+1+1+1+1+1∧k+1+1+1+1+1+1≤KB)∧(0≤k+1+1+1+1+1+1+1∧k+1+1+1+1+1+1+1≤KB):=by
  unfold KB
  refine ⟨?_,?_,?_,?_,?_,?_,?_,?_⟩<;>omega
 have hE:k+1+1+1+1+1+1+1=k+((M.aV.cnt x:Nat):Int):=by unfold M.aV.cnt;omega
 unfold M.aV.cnt at hE
 obtain ⟨q0,q1,q2,q3,q4,q5,q6,q7⟩:=A
 have w0:=wk2 q0
 have w1:=wk2 q1
 have w2:=wk2 q2
 have w3:=wk2 q3
 have t4:aJ (k+1+1+1+1)=some (mtx (k+1+1+1+1)):=mt q4.1 (Int.lt_of_add_one_le q5.2)
 have w4:=wk2 q4
 have t5:aJ (k+1+1+1+1+1)=some (mtx (k+1+1+1+1+1)):=mt q5.1 (Int.lt_of_add_one_le q6.2)
 have w5:=wk2 q5
 have w6:=wk2 q6
 refine ⟨⟨k,k+1,⟨k+1+1,k+1+1+1,(mtx (k+1+1+1+1))⟩,(mtx (k+1+1+1+1+1)),k+1+1+1+1+1+1⟩,fun n pre post hl => ?_,fun n l i hi hl => ?_⟩
 ·have hl':=le_max hl
  have hp:pre.length<9223372036854775807:=by simp at hl';omega
  simp only [cY]
  rw [if_pos (aAh pre post x)]
  simp (maxSteps:=2000000) only [rV,rT,Option.bind_some,bH hp,w0,w1,w2,w3,t4,w4,t5,w5,w6]
  rw [hE]
 ·have hl':=le_max hl
  have hp:i<9223372036854775807:=by have:=(List.getElem?_eq_some_iff.1 hi).1;omega
  simp only [dZ]
  rw [if_pos (aCf hi)]
  simp (maxSteps:=2000000) only [aAi hi,Option.bind_some,bH hp,w0,w1,w2,w3,t4,w4,t5,w5,w6,bne_self_eq_false,beq_self_eq_true,Bool.not_true,Bool.false_eq_true,if_false]
  rw [hE]
theorem M.aB7.fT (xs:List M.aV) (hx:(xs.length≤maxLen ∧ ∀y∈xs,M.aV.ok y)) (k:Int) (h0:0≤k) (hB:k+((aG M.aV.cnt xs:Nat):Int)≤KB) : ∃ys,mC xs k=some (ys,k+((aG M.aV.cnt xs:Nat):Int))∧mF ys k=some (k+((aG M.aV.cnt xs:Nat):Int))∧ys.length=xs.length:=by
 have hm:=le_max hx.1
 obtain ⟨ys,h1,h2,h3⟩:=kW (ML:=cY) (HL:=dZ) (c:=M.aV.cnt) (ok:=M.aV.ok) (fun x hx k h0 hB=>M.aV.pL x hx k h0 hB) (fun n k l=>by simp only [cY];rw [if_neg (by rw [aT];simp)]) (fun n k l=>by simp only [dZ];rw [if_neg (by rw [aT];simp)]) xs [] fuel k (by simpa using hx.1) (by unfold fuel;omega) hx.2 h0 hB
 refine ⟨ys,by unfold mC;simpa using h2,by unfold mF;simpa using h3 fuel (by unfold fuel;omega),h1⟩
def M.aA.cnt (x:M.aA):Nat:=18+(aG M.Cache.cnt x.Caches.Caches)+(aG M.aE.cnt x.bD.Base.Stores)+(aG M.aD.cnt x.bD.Base.Unique)+(x.bD.Log.length)+(aG M.Item.cnt x.aC.Base.Items)+(aG M.aV.cnt x.aC.Sync.aN.Writes)
set_option maxHeartbeats 4000000 in
theorem M.aA.pL (x:M.aA) (hx:M.aA.ok x) (k:Int) (h0:0≤k) (hB:k+((M.aA.cnt x:Nat):Int)≤KB) : ∃x':M.aA,(∀n (pre post:List M.aA),(pre++x::post).length≤maxLen→cR (n+1) k pre.length (pre++x::post)=cR n (k+((M.aA.cnt x:Nat):Int)) ((pre.length+1:Nat):Int) (pre++x'::post)) ∧ ∀n (l:List M.aA) (i:Nat),l[i]? = some x'→l.length≤maxLen→cP l (n+1) k i=cP l n (k+((M.aA.cnt x:Nat):Int)) ((i+1:Nat):Int):=by
 unfold KB at hB;unfold M.aA.cnt at hB ⊢
 have A:(0≤k∧k≤KB)∧(0≤k+1∧k+1≤KB)∧(0≤k+1+1∧k+1+1≤KB)∧(0≤k+1+1+1∧k+1+1+1≤KB)∧(0≤k+1+1+1+1∧k+1+1+1+1≤KB)∧(0≤k+1+1+1+1+1∧k+1+1+1+1+1≤KB)∧(0≤k+1+1+1+1+1+1∧k+1+1+1+1+1+1≤KB)∧(0≤k+1+1+1+1+1+1+((aG M.Cache.cnt x.Caches.Caches:Nat):Int)∧k+1+1+1+1+1+1+((aG M.Cache.cnt x.Caches.Caches:Nat):Int)≤KB)∧(0≤k+1+1+1+1+1+1+((aG M.Cache.cnt x.Caches.Caches:Nat):Int)+1∧k+1+1+1+1+1+1+((aG M.Cache.cnt x.Caches.Caches:Nat):Int)+1≤KB)∧(0≤k+1+1+1+1+1+1+((aG M.Cache.cnt x.Caches.Caches:Nat):Int)+1+1∧k+1+1+1+1+1+1+((aG M.Cache.cnt x.Caches.Caches:Nat):Int)+1+1≤KB)∧(0≤k+1+1+1+1+1+1+((aG M.Cache.cnt x.Caches.Caches:Nat):Int)+1+1+((aG M.aE.cnt x.bD.Base.Stores:Nat):Int)∧k+1+1+1+1+1+1+((aG M.Cache.cnt x.Caches.Caches:Nat):Int)+1+1+((aG M.aE.cnt x.bD.Base.Stores:Nat):Int)≤KB)∧(0≤k+1+1+1+1+1+1+((aG M.Cache.cnt x.Caches.Caches:Nat):Int)+1+1+((aG M.aE.cnt x.bD.Base.Stores:Nat):Int)+((aG M.aD.cnt x.bD.Base.Unique:Nat):Int)∧k+1+1+1+1+1+1+((aG M.Cache.cnt x.Caches.Caches:Nat):Int)+1+1+((aG M.aE.cnt x.bD.Base.Stores:Nat):Int)+((aG M.aD.cnt x.bD.Base.Unique:Nat):Int)≤KB)∧(0≤k+1+1+1+1+1+1+((aG M.Cache.cnt x.Caches.Caches:Nat):Int)+1+1+((aG M.aE.cnt x.bD.Base.Stores:Nat):Int)+((aG M.aD.cnt x.bD.Base.Unique:Nat):Int)+((x.bD.Log.length:Nat):Int)∧k+1+1+1+1+1+1+((aG M.Cache.cnt x.Caches.Caches:Nat):Int)+1+1+((aG M.aE.cnt x.bD.Base.Stores:Nat):Int)+((aG M.aD.cnt x.bD.Base.Unique:Nat):Int)+((x.bD.Log.length:Nat):Int)≤KB)∧(0≤k+1+1+1+1+1+1+((aG M.Cache.cnt x.Caches.Caches:Nat):Int)+1+1+((aG M.aE.cnt x.bD.Base.Stores:Nat):Int)+((aG M.aD.cnt x.bD.Base.Unique:Nat):Int)+((x.bD.Log.length:Nat):Int)+1∧k+1+1+1+1+1+1+((aG M.Cache.cnt x.Caches.Caches:Nat):Int)+1+1+((aG M.aE.cnt x.bD.Base.Stores:Nat):Int)+((aG M.aD.cnt x.bD.Base.Unique:Nat):Int)+((x.bD.Log.length:Nat):Int)+1≤KB)∧(0≤k+1+1+1+1+1+1+((aG M.Cache.cnt x.Caches.Caches:Nat):Int)+1+1+((aG M.aE.cnt x.bD.Base.Stores:Nat):Int)+((aG M.aD.cnt x.bD.Base.Unique:Nat):Int)+((x.bD.Log.length:Nat):Int)+1+1∧k+1+1+1+1+1+1+((aG M.Cache.cnt x.Caches.Caches:Nat):Int)+1+1+((aG M.aE.cnt x.bD.Base.Stores:Nat):Int)+((aG M.aD.cnt x.bD.Base.Unique:Nat):Int)+((x.bD.Log.length:Nat):Int)+1+1≤KB)∧(0≤k+1+1+1+1+1+1+((aG M.Cache.cnt x.Caches.Caches:Nat):Int)+1+1+((aG M.aE.cnt x.bD.Base.Stores:Nat):Int)+((aG M.aD.cnt x.bD.Base.Unique:Nat):Int)+((x.bD.Log.length:Nat):Int)+1+1+((aG M.Item.cnt x.aC.Base.Items:Nat):Int)∧k+1+1+1+1+1+1+((aG M.Cache.cnt x.Caches.Caches:Nat):Int)+1+1+((aG M.aE.cnt x.bD.Base.Stores:Nat):Int)+((aG M.aD.cnt x.bD.Base.Unique:Nat):Int)+((x.bD.Log.length:Nat):Int)+1+1+((aG M.Item.cnt x.aC.Base.Items:Nat):Int)≤KB)∧(0≤k+1+1+1+1+1+1+((aG M.Cache.cnt x.Caches.Caches:Nat):Int)+1+1+((aG M.aE.cnt x.bD.Base.Stores:Nat):Int)+((aG M.aD.cnt x.bD.Base.Unique:Nat):Int)+((x.bD.Log.length:Nat):Int)+1+1+((aG M.Item.cnt x.aC.Base.Items:Nat):Int)+1∧k+1+1+1+1+1+1+((aG M.Cache.cnt x.Caches.Caches:Nat):Int)+1+1+((aG M.aE.cnt x.bD.Base.Stores:Nat):Int)+((aG M.aD.cnt x.bD.Base.Unique:Nat):Int)+((x.bD.Log.length:Nat):Int)+1+1+((aG M.Item.cnt x.aC.Base.Items:Nat):Int)+1≤KB)∧(0≤k+1+1+1+1+1+1+((aG M.Cache.cnt x.Caches.Caches:Nat):Int)+1+1+((aG M.aE.cnt x.bD.Base.Stores:Nat):Int)+((aG M.aD.cnt x.bD.Base.Unique:Nat):Int)+((x.bD.Log.length:Nat):Int)+1+1+((aG M.Item.cnt x.aC.Base.Items:Nat):Int)+1+1∧k+1+1+1+1+1+1+((aG M.Cache.cnt x.Caches.Caches:Nat):Int)+1+1+((aG M.aE.cnt x.bD.Base.Stores:Nat):Int)+((aG M.aD.cnt x.bD.Base.Unique:Nat):Int)+((x.bD.Log.length:Nat):Int)+1+1+((aG M.Item.cnt x.aC.Base.Items:Nat):Int)+1+1≤KB)∧(0≤k+1+1+1+1+1+1+((aG M.Cache.cnt x.Caches.Caches:Nat):Int)+1+1+((aG M.aE.cnt x.bD.Base.Stores:Nat):Int)+((aG M.aD.cnt x.bD.Base.Unique:Nat):Int)+((x.bD.Log.length:Nat):Int)+1+1+((aG M.Item.cnt x.aC.Base.Items:Nat):Int)+1+1+1∧k+1+1+1+1+1+1+((aG M.Cache.cnt x.Caches.Caches:Nat):Int)+1+1+((aG M.aE.cnt x.bD.Base.Stores:Nat):Int)+((aG M.aD.cnt x.bD.Base.Unique:Nat):Int)+((x.bD.Log.length:Nat):Int)+1+1+((aG M.Item.cnt x.aC.Base.Items:Nat):Int)+1+1+1≤KB)∧(0≤k+1+1+1+1+1+1+((aG M.Cache.cnt x.Caches.Caches:Nat):Int)+1+1+((aG M.aE.cnt x.bD.Base.Stores:Nat):Int)+((aG M.aD.cnt x.bD.Base.Unique:Nat):Int)+((x.bD.Log.length:Nat):Int)+1+1+((aG M.Item.cnt x.aC.Base.Items:Nat):Int)+1+1+1+1∧k+1+1+1+1+1+1+((aG M.Cache.cnt x.Caches.Caches:Nat):Int)+1+1+((aG M.aE.cnt x.bD.Base.Stores:Nat):Int)+((aG M.aD.cnt x.bD.Base.Unique:Nat):Int)+((x.bD.Log.length:Nat):Int)+1+1+((aG M.Item.cnt x.aC.Base.Items:Nat):Int)+1+1+1+1≤KB)∧(0≤k+1+1+1+1+1+1+((aG M.Cache.cnt x.Caches.Caches:Nat):Int)+1+1+((aG M.aE.cnt x.bD.Base.Stores:Nat):Int)+((aG M.aD.cnt x.bD.Base.Unique:Nat):Int)+((x.bD.Log.length:Nat):Int)+1+1+((aG M.Item.cnt x.aC.Base.Items:Nat):Int)+1+1+1+1+((aG M.aV.cnt x.aC.Sync.aN.Writes:Nat):Int)∧k+1+1+1+1+1+1+((aG M.Cache.cnt x.Caches.Caches:Nat):Int)+1+1+((aG M.aE.cnt x.bD.Base.Stores:Nat):Int)+((aG M.aD.cnt x.bD.Base.Unique:Nat):Int)+((x.bD.Log.length:Nat):Int)+1+1+((aG M.Item.cnt x.aC.Base.Items:Nat):Int)+1+1+1+1+((aG M.aV.cnt x.aC.Sync.aN.Writes:Nat):Int)≤KB)∧(0≤k+1+1+1+1+1+1+((aG M.Cache.cnt x.Caches.Caches:Nat):Int)+1+1+((aG M.aE.cnt x.bD.Base.Stores:Nat):Int)+((aG M.aD.cnt x.bD.Base.Unique:Nat):Int)+((x.bD.Log.length:Nat):Int)+1+1+((aG M.Item.cnt x.aC.Base.Items:Nat):Int)+1+1+1+1+((aG M.aV.cnt x.aC.Sync.aN.Writes:Nat):Int)+1∧k+1+1+1+1+1+1+((aG M.Cache.cnt x.Caches.Caches:Nat):Int)+1+1+((aG M.aE.cnt x.bD.Base.Stores:Nat):Int)+((aG M.aD.cnt x.bD.Base.Unique:Nat):Int)+((x.bD.Log.length:Nat):Int)+1+1+((aG M.Item.cnt x.aC.Base.Items:Nat):Int)+1+1+1+1+((aG M.aV.cnt x.aC.Sync.aN.Writes:Nat):Int)+1≤KB)∧(0≤k+1+1+1+1+1+1+((aG M.Cache.cnt x.Caches.Caches:Nat):Int)+1+1+((aG M.aE.cnt x.bD.Base.Stores:Nat):Int)+((aG M.aD.cnt x.bD.Base.Unique:Nat):Int)+((x.bD.Log.length:Nat):Int)+1+1+((aG M.Item.cnt x.aC.Base.Items:Nat):Int)+1+1+1+1+((aG M.aV.cnt x.aC.Sync.aN.Writes:Nat):Int)+1+1∧k+1+1+1+1+1+1+((aG M.Cache.cnt x.Caches.Caches:Nat):Int)+1+1+((aG M.aE.cnt x.bD.Base.Stores:Nat):Int)+((aG M.aD.cnt x.bD.Base.Unique:Nat):Int)+((x.bD.Log.length:Nat):Int)+1+1+((aG M.Item.cnt x.aC.Base.Items:Nat):Int)+1+1+1+1+((aG M.aV.cnt x.aC.Sync.aN.Writes:Nat):Int)+1+1≤KB)∧(0≤k+1+1+1+1+1+1+((aG M.Cache.cnt x.Caches.Caches:Nat):Int)+1+1+((aG M.aE.cnt x.bD.Base.Stores:Nat):Int)+((aG M.aD.cnt x.bD.Base.Unique:Nat):Int)+((x.bD.Log.length:Nat):Int)+1+1+((aG M.Item.cnt x.aC.Base.Items:Nat):Int)+1+1+1+1+((aG M.aV.cnt x.aC.Sync.aN.Writes:Nat):Int)+1+1+1∧k+1+1+1+1+1+1+((aG M.Cache.cnt x.Caches.Caches:Nat):Int)+1+1+((aG M.aE.cnt x.bD.Base.Stores:Nat):Int)+((aG M.aD.cnt x.bD.Base.Unique:Nat):Int)+((x.bD.Log.length:Nat):Int)+1+1+((aG M.Item.cnt x.aC.Base.Items:Nat):Int)+1+1+1+1+((aG M.aV.cnt x.aC.Sync.aN.Writes:Nat):Int)+1+1+1≤KB)∧(0≤k+1+1+1+1+1+1+((aG M.Cache.cnt x.Caches.Caches:Nat):Int)+1+1+((aG M.aE.cnt x.bD.Base.Stores:Nat):Int)+((aG M.aD.cnt x.bD.Base.Unique:Nat):Int)+((x.bD.Log.length:Nat):Int)+1+1+((aG M.Item.cnt x.aC.Base.Items:Nat):Int)+1+1+1+1+((aG M.aV.cnt x.aC.Sync.aN.Writes:Nat):Int)+1+1+1+1∧k+1+1+1+1+1+1+((aG M.Cache.cnt x.Caches.Caches:Nat):Int)+1+1+((aG M.aE.cnt x.bD.Base.Stores:Nat):Int)+((aG M.aD.cnt x.bD.Base.Unique:Nat):Int)+((x.bD.Log.length:Nat):Int)+1+1+((aG M.Item.cnt x.aC.Base.Items:Nat):Int)+1+1+1+1+((aG M.aV.cnt x.aC.Sync.aN.Writes:Nat):Int)+1+1+1+1≤KB):=by
  unfold KB
  refine ⟨?_,?_,?_,?_,?_,?_,?_,?_,?_,?_,?_,?_,?_,?_,?_,?_,?_,?_,?_,?_,?_,?_,?_,?_,?_⟩<;>omega
 have hE:k+1+1+1+1+1+1+((aG M.Cache.cnt x.Caches.Caches:Nat):Int)+1+1+((aG M.aE.cnt x.bD.Base.Stores:Nat):Int)+((aG M.aD.cnt x.bD.Base.Unique:Nat):Int)+((x.bD.Log.length:Nat):Int)+1+1+((aG M.Item.cnt x.aC.Base.Items:Nat):Int)+1+1+1+1+((aG M.aV.cnt x.aC.Sync.aN.Writes:Nat):Int)+1+1+1+1=k+((M.aA.cnt x:Nat):Int):=by unfold M.aA.cnt;omega
 unfold M.aA.cnt at hE
 obtain ⟨q0,q1,q2,q3,q4,q5,q6,q7,q8,q9,q10,q11,q12,q13,q14,q15,q16,q17,q18,q19,q20,q21,q22,q23,q24⟩:=A
 have t0:aJ (k)=some (mtx (k)):=mt q0.1 (Int.lt_of_add_one_le q1.2)
 have w0:=wk2 q0
 have t1:aJ (k+1)=some (mtx (k+1)):=mt q1.1 (Int.lt_of_add_one_le q2.2)
 have w1:=wk2 q1
 have t2:aJ (k+1+1)=some (mtx (k+1+1)):=mt q2.1 (Int.lt_of_add_one_le q3.2)
 have w2:=wk2 q2
 have w3:=wk2 q3
 have w4:=wk2 q4
 have w5:=wk2 q5
 obtain ⟨y1,a1,b1,_⟩:=M.aEZ.fT _ hx.Caches.Caches (k+1+1+1+1+1+1) q6.1 q7.2
 have d1:(decide (k+1+1+1+1+1+1+((aG M.Cache.cnt x.Caches.Caches:Nat):Int)<0))=false:=dk q7.1
 have t7:aJ (k+1+1+1+1+1+1+((aG M.Cache.cnt x.Caches.Caches:Nat):Int))=some (mtx (k+1+1+1+1+1+1+((aG M.Cache.cnt x.Caches.Caches:Nat):Int))):=mt q7.1 (Int.lt_of_add_one_le q8.2)
 have w7:=wk2 q7
 have w8:=wk2 q8
 obtain ⟨y2,a2,b2,_⟩:=M.aEN.fT _ hx.bD.Base.Stores (k+1+1+1+1+1+1+((aG M.Cache.cnt x.Caches.Caches:Nat):Int)+1+1) q9.1 q10.2
 have d2:(decide (k+1+1+1+1+1+1+((aG M.Cache.cnt x.Caches.Caches:Nat):Int)+1+1+((aG M.aE.cnt x.bD.Base.Stores:Nat):Int)<0))=false:=dk q10.1
 obtain ⟨y3,a3,b3,_⟩:=M.aA9.fT _ hx.bD.Base.Unique (k+1+1+1+1+1+1+((aG M.Cache.cnt x.Caches.Caches:Nat):Int)+1+1+((aG M.aE.cnt x.bD.Base.Stores:Nat):Int)) q10.1 q11.2
 have d3:(decide (k+1+1+1+1+1+1+((aG M.Cache.cnt x.Caches.Caches:Nat):Int)+1+1+((aG M.aE.cnt x.bD.Base.Stores:Nat):Int)+((aG M.aD.cnt x.bD.Base.Unique:Nat):Int)<0))=false:=dk q11.1
 obtain ⟨y4,a4,b4,_⟩:=M.aCe.fT _ hx.bD.Log (k+1+1+1+1+1+1+((aG M.Cache.cnt x.Caches.Caches:Nat):Int)+1+1+((aG M.aE.cnt x.bD.Base.Stores:Nat):Int)+((aG M.aD.cnt x.bD.Base.Unique:Nat):Int)) q11.1 q12.2
 have d4:(decide (k+1+1+1+1+1+1+((aG M.Cache.cnt x.Caches.Caches:Nat):Int)+1+1+((aG M.aE.cnt x.bD.Base.Stores:Nat):Int)+((aG M.aD.cnt x.bD.Base.Unique:Nat):Int)+((x.bD.Log.length:Nat):Int)<0))=false:=dk q12.1
 have w12:=wk2 q12
 have t13:aJ (k+1+1+1+1+1+1+((aG M.Cache.cnt x.Caches.Caches:Nat):Int)+1+1+((aG M.aE.cnt x.bD.Base.Stores:Nat):Int)+((aG M.aD.cnt x.bD.Base.Unique:Nat):Int)+((x.bD.Log.length:Nat):Int)+1)=some (mtx (k+1+1+1+1+1+1+((aG M.Cache.cnt x.Caches.Caches:Nat):Int)+1+1+((aG M.aE.cnt x.bD.Base.Stores:Nat):Int)+((aG M.aD.cnt x.bD.Base.Unique:Nat):Int)+((x.bD.Log.length:Nat):Int)+1)):=mt q13.1 (Int.lt_of_add_one_le q14.2)
 have w13:=wk2 q13
 obtain ⟨y5,a5,b5,_⟩:=M.aFF.fT _ hx.aC.Base.Items (k+1+1+1+1+1+1+((aG M.Cache.cnt x.Caches.Caches:Nat):Int)+1+1+((aG M.aE.cnt x.bD.Base.Stores:Nat):Int)+((aG M.aD.cnt x.bD.Base.Unique:Nat):Int)+((x.bD.Log.length:Nat):Int)+1+1) q14.1 q15.2
 have d5:(decide (k+1+1+1+1+1+1+((aG M.Cache.cnt x.Caches.Caches:Nat):Int)+1+1+((aG M.aE.cnt x.bD.Base.Stores:Nat):Int)+((aG M.aD.cnt x.bD.Base.Unique:Nat):Int)+((x.bD.Log.length:Nat):Int)+1+1+((aG M.Item.cnt x.aC.Base.Items:Nat):Int)<0))=false:=dk q15.1
 have w15:=wk2 q15
 have w16:=wk2 q16
 have w17:=wk2 q17
 have w18:=wk2 q18
 obtain ⟨y6,a6,b6,_⟩:=M.aB7.fT _ hx.aC.Sync.aN.Writes (k+1+1+1+1+1+1+((aG M.Cache.cnt x.Caches.Caches:Nat):Int)+1+1+((aG M.aE.cnt x.bD.Base.Stores:Nat):Int)+((aG M.aD.cnt x.bD.Base.Unique:Nat):Int)+((x.bD.Log.length:Nat):Int)+1+1+((aG M.Item.cnt x.aC.Base.Items:Nat):Int)+1+1+1+1) q19.1 q20.2
 have d6:(decide (k+1+1+1+1+1+1+((aG M.Cache.cnt x.Caches.Caches:Nat):Int)+1+1+((aG M.aE.cnt x.bD.Base.Stores:Nat):Int)+((aG M.aD.cnt x.bD.Base.Unique:Nat):Int)+((x.bD.Log.length:Nat):Int)+1+1+((aG M.Item.cnt x.aC.Base.Items:Nat):Int)+1+1+1+1+((aG M.aV.cnt x.aC.Sync.aN.Writes:Nat):Int)<0))=false:=dk q20.1
 have w20:=wk2 q20
 have w21:=wk2 q21
 have w22:=wk2 q22
 have w23:=wk2 q23
 refine ⟨⟨(mtx (k)),(mtx (k+1)),⟨(mtx (k+1+1)),k+1+1+1,k+1+1+1+1,k+1+1+1+1+1⟩,⟨y1⟩,⟨⟨(mtx (k+1+1+1+1+1+1+((aG M.Cache.cnt x.Caches.Caches:Nat):Int))),k+1+1+1+1+1+1+((aG M.Cache.cnt x.Caches.Caches:Nat):Int)+1,y2,y3⟩,y4,k+1+1+1+1+1+1+((aG M.Cache.cnt x.Caches.Caches:Nat):Int)+1+1+((aG M.aE.cnt x.bD.Base.Stores:Nat):Int)+((aG M.aD.cnt x.bD.Base.Unique:Nat):Int)+((x.bD.Log.length:Nat):Int)⟩,⟨⟨(mtx (k+1+1+1+1+1+1+((aG M.Cache.cnt x.Caches.Caches:Nat):Int)+1+1+((aG M.aE.cnt x.bD.Base.Stores:Nat):Int)+((aG M.aD.cnt x.bD.Base.Unique:Nat):Int)+((x.bD.Log.length:Nat):Int)+1)),y5,k+1+1+1+1+1+1+((aG M.Cache.cnt x.Caches.Caches:Nat):Int)+1+1+((aG M.aE.cnt x.bD.Base.Stores:Nat):Int)+((aG M.aD.cnt x.bD.Base.Unique:Nat):Int)+((x.bD.Log.length:Nat):Int)+1+1+((aG M.Item.cnt x.aC.Base.Items:Nat):Int)⟩,k+1+1+1+1+1+1+((aG M.Cache.cnt x.Caches.Caches:Nat):Int)+1+1+((aG M.aE.cnt x.bD.Base.Stores:Nat):Int)+((aG M.aD.cnt x.bD.Base.Unique:Nat):Int)+((x.bD.Log.length:Nat):Int)+1+1+((aG M.Item.cnt x.aC.Base.Items:Nat):Int)+1,⟨⟨k+1+1+1+1+1+1+((aG M.Cache.cnt x.Caches.Caches:Nat):Int)+1+1+((aG M.aE.cnt x.bD.Base.Stores:Nat):Int)+((aG M.aD.cnt x.bD.Base.Unique:Nat):Int)+((x.bD.Log.length:Nat):Int)+1+1+((aG M.Item.cnt x.aC.Base.Items:Nat):Int)+1+1,k+1+1+1+1+1+1+((aG M.Cache.cnt x.Caches.Caches:Nat):Int)+1+1+((aG M.aE.cnt x.bD.Base.Stores:Nat):Int)+((aG M.aD.cnt x.bD.Base.Unique:Nat):Int)+((x.bD.Log.length:Nat):Int)+1+1+((aG M.Item.cnt x.aC.Base.Items:Nat):Int)+1+1+1,y6⟩,k+1+1+1+1+1+1+((aG M.Cache.cnt x.Caches.Caches:Nat):Int)+1+1+((aG M.aE.cnt x.bD.Base.Stores:Nat):Int)+((aG M.aD.cnt x.bD.Base.Unique:Nat):Int)+((x.bD.Log.length:Nat):Int)+1+1+((aG M.Item.cnt x.aC.Base.Items:Nat):Int)+1+1+1+1+((aG M.aV.cnt x.aC.Sync.aN.Writes:Nat):Int),k+1+1+1+1+1+1+((aG M.Cache.cnt x.Caches.Caches:Nat):Int)+1+1+((aG M.aE.cnt x.bD.Base.Stores:Nat):Int)+((aG M.aD.cnt x.bD.Base.Unique:Nat):Int)+((x.bD.Log.length:Nat):Int)+1+1+((aG M.Item.cnt x.aC.Base.Items:Nat):Int)+1+1+1+1+((aG M.aV.cnt x.aC.Sync.aN.Writes:Nat):Int)+1⟩⟩,k+1+1+1+1+1+1+((aG M.Cache.cnt x.Caches.Caches:Nat):Int)+1+1+((aG M.aE.cnt x.bD.Base.Stores:Nat):Int)+((aG M.aD.cnt x.bD.Base.Unique:Nat):Int)+((x.bD.Log.length:Nat):Int)+1+1+((aG M.Item.cnt x.aC.Base.Items:Nat):Int)+1+1+1+1+((aG M.aV.cnt x.aC.Sync.aN.Writes:Nat):Int)+1+1,((Int.tmod (k+1+1+1+1+1+1+((aG M.Cache.cnt x.Caches.Caches:Nat):Int)+1+1+((aG M.aE.cnt x.bD.Base.Stores:Nat):Int)+((aG M.aD.cnt x.bD.Base.Unique:Nat):Int)+((x.bD.Log.length:Nat):Int)+1+1+((aG M.Item.cnt x.aC.Base.Items:Nat):Int)+1+1+1+1+((aG M.aV.cnt x.aC.Sync.aN.Writes:Nat):Int)+1+1+1) 3)==0)⟩,fun n pre post hl => ?_,fun n l i hi hl => ?_⟩
 ·have hl':=le_max hl
  have hp:pre.length<9223372036854775807:=by simp at hl';omega
  simp only [cR]
  rw [if_pos (aAh pre post x)]
  simp (maxSteps:=2000000) only [rV,rT,Option.bind_some,bH hp,t0,w0,t1,w1,t2,w2,w3,w4,w5,a1,t7,w7,w8,a2,a3,a4,w12,t13,w13,a5,w15,w16,w17,w18,a6,w20,w21,w22,w23]
  rw [hE]
 ·have hl':=le_max hl
  have hp:i<9223372036854775807:=by have:=(List.getElem?_eq_some_iff.1 hi).1;omega
  simp only [cP]
  rw [if_pos (aCf hi)]
  simp (maxSteps:=2000000) only [aAi hi,Option.bind_some,bH hp,t0,w0,t1,w1,t2,w2,w3,w4,w5,b1,d1,t7,w7,w8,b2,d2,b3,d3,b4,d4,w12,t13,w13,b5,d5,w15,w16,w17,w18,b6,d6,w20,w21,w22,w23,bne_self_eq_false,beq_self_eq_true,Bool.not_true,Bool.false_eq_true,if_false]
  rw [hE]
theorem M.aCj.fT (xs:List M.aA) (hx:(xs.length≤maxLen ∧ ∀y∈xs,M.aA.ok y)) (k:Int) (h0:0≤k) (hB:k+((aG M.aA.cnt xs:Nat):Int)≤KB) : ∃ys,pG xs k=some (ys,k+((aG M.aA.cnt xs:Nat):Int))∧oU ys k=some (k+((aG M.aA.cnt xs:Nat):Int))∧ys.length=xs.length:=by
 have hm:=le_max hx.1
 obtain ⟨ys,h1,h2,h3⟩:=kW (ML:=cR) (HL:=cP) (c:=M.aA.cnt) (ok:=M.aA.ok) (fun x hx k h0 hB=>M.aA.pL x hx k h0 hB) (fun n k l=>by simp only [cR];rw [if_neg (by rw [aT];simp)]) (fun n k l=>by simp only [cP];rw [if_neg (by rw [aT];simp)]) xs [] fuel k (by simpa using hx.1) (by unfold fuel;omega) hx.2 h0 hB
 refine ⟨ys,by unfold pG;simpa using h2,by unfold oU;simpa using h3 fuel (by unfold fuel;omega),h1⟩
def M.aM.cnt (x:M.aM):Nat:=2
set_option maxHeartbeats 4000000 in
theorem M.aM.pL (x:M.aM) (hx:M.aM.ok x) (k:Int) (h0:0≤k) (hB:k+((M.aM.cnt x:Nat):Int)≤KB) : ∃x':M.aM,(∀n (pre post:List M.aM),(pre++x::post).length≤maxLen→cM (n+1) k pre.length (pre++x::post)=cM n (k+((M.aM.cnt x:Nat):Int)) ((pre.length+1:Nat):Int) (pre++x'::post)) ∧ ∀n (l:List M.aM) (i:Nat),l[i]? = some x'→l.length≤maxLen→dH l (n+1) k i=dH l n (k+((M.aM.cnt x:Nat):Int)) ((i+1:Nat):Int):=by
 unfold KB at hB;unfold M.aM.cnt at hB ⊢
 have A:(0≤k∧k≤KB)∧(0≤k+1∧k+1≤KB)∧(0≤k+1+1∧k+1+1≤KB):=by
  unfold KB
  refine ⟨?_,?_,?_⟩<;>omega
 have hE:k+1+1=k+((M.aM.cnt x:Nat):Int):=by unfold M.aM.cnt;omega
 unfold M.aM.cnt at hE
 obtain ⟨q0,q1,q2⟩:=A
 have t0:aJ (k)=some (mtx (k)):=mt q0.1 (Int.lt_of_add_one_le q1.2)
 have w0:=wk2 q0
 have w1:=wk2 q1
 refine ⟨⟨(mtx (k)),k+1⟩,fun n pre post hl => ?_,fun n l i hi hl => ?_⟩
 ·have hl':=le_max hl
  have hp:pre.length<9223372036854775807:=by simp at hl';omega
  simp only [cM]
  rw [if_pos (aAh pre post x)]
  simp (maxSteps:=2000000) only [rV,rT,Option.bind_some,bH hp,t0,w0,w1]
  rw [hE]
 ·have hl':=le_max hl
  have hp:i<9223372036854775807:=by have:=(List.getElem?_eq_some_iff.1 hi).1;omega
  simp only [dH]
  rw [if_pos (aCf hi)]
  simp (maxSteps:=2000000) only [aAi hi,Option.bind_some,bH hp,t0,w0,w1,bne_self_eq_false,beq_self_eq_true,Bool.not_true,Bool.false_eq_true,if_false]
  rw [hE]
theorem M.aBp.fT (xs:List M.aM) (hx:(xs.length≤maxLen ∧ ∀y∈xs,M.aM.ok y)) (k:Int) (h0:0≤k) (hB:k+((aG M.aM.cnt xs:Nat):Int)≤KB) : ∃ys,kU xs k=some (ys,k+((aG M.aM.cnt xs:Nat):Int))∧pD ys k=some (k+((aG M.aM.cnt xs:Nat):Int))∧ys.length=xs.length:=by
 have hm:=le_max hx.1
 obtain ⟨ys,h1,h2,h3⟩:=kW (ML:=cM) (HL:=dH) (c:=M.aM.cnt) (ok:=M.aM.ok) (fun x hx k h0 hB=>M.aM.pL x hx k h0 hB) (fun n k l=>by simp only [cM];rw [if_neg (by rw [aT];simp)]) (fun n k l=>by simp only [dH];rw [if_neg (by rw [aT];simp)]) xs [] fuel k (by simpa using hx.1) (by unfold fuel;omega) hx.2 h0 hB
 refine ⟨ys,by unfold kU;simpa using h2,by unfold pD;simpa using h3 fuel (by unfold fuel;omega),h1⟩
def M.Instr.cnt (x:M.Instr):Nat:=4
set_option maxHeartbeats 4000000 in
theorem M.Instr.pL (x:M.Instr) (hx:M.Instr.ok x) (k:Int) (h0:0≤k) (hB:k+((M.Instr.cnt x:Nat):Int)≤KB) : ∃x':M.Instr,(∀n (pre post:List M.Instr),(pre++x::post).length≤maxLen→cW (n+1) k pre.length (pre++x::post)=cW n (k+((M.Instr.cnt x:Nat):Int)) ((pre.length+1:Nat):Int) (pre++x'::post)) ∧ ∀n (l:List M.Instr) (i:Nat),l[i]? = some x'→l.length≤maxLen→dY l (n+1) k i=dY l n (k+((M.Instr.cnt x:Nat):Int)) ((i+1:Nat):Int):=by
 unfold KB at hB;unfold M.Instr.cnt at hB ⊢
 have A:(0≤k∧k≤KB)∧(0≤k+1∧k+1≤KB)∧(0≤k+1+1∧k+1+1≤KB)∧(0≤k+1+1+1∧k+1+1+1≤KB)∧(0≤k+1+1+1+1∧k+1+1+1+1≤KB):=by
  unfold KB
  refine ⟨?_,?_,?_,?_,?_⟩<;>omega
 have hE:k+1+1+1+1=k+((M.Instr.cnt x:Nat):Int):=by unfold M.Instr.cnt;omega
 unfold M.Instr.cnt at hE
 obtain ⟨q0,q1,q2,q3,q4⟩:=A
 have w0:=wk2 q0
 have w1:=wk2 q1
 have w2:=wk2 q2
 have t3:aJ (k+1+1+1)=some (mtx (k+1+1+1)):=mt q3.1 (Int.lt_of_add_one_le q4.2)
 have w3:=wk2 q3
 refine ⟨⟨k,k+1,k+1+1,(mtx (k+1+1+1))⟩,fun n pre post hl => ?_,fun n l i hi hl => ?_⟩
 ·have hl':=le_max hl
  have hp:pre.length<9223372036854775807:=by simp at hl';omega
  simp only [cW]
  rw [if_pos (aAh pre post x)]
  simp (maxSteps:=2000000) only [rV,rT,Option.bind_some,bH hp,w0,w1,w2,t3,w3]
  rw [hE]
 ·have hl':=le_max hl
  have hp:i<9223372036854775807:=by have:=(List.getElem?_eq_some_iff.1 hi).1;omega
  simp only [dY]
  rw [if_pos (aCf hi)]
  simp (maxSteps:=2000000) only [aAi hi,Option.bind_some,bH hp,w0,w1,w2,t3,w3,bne_self_eq_false,beq_self_eq_true,Bool.not_true,Bool.false_eq_true,if_false]
  rw [hE]
theorem M.aDJ.fT (xs:List M.Instr) (hx:(xs.length≤maxLen ∧ ∀y∈xs,M.Instr.ok y)) (k:Int) (h0:0≤k) (hB:k+((aG M.Instr.cnt xs:Nat):Int)≤KB) : ∃ys,mL xs k=some (ys,k+((aG M.Instr.cnt xs:Nat):Int))∧qW ys k=some (k+((aG M.Instr.cnt xs:Nat):Int))∧ys.length=xs.length:=by
 have hm:=le_max hx.1
 obtain ⟨ys,h1,h2,h3⟩:=kW (ML:=cW) (HL:=dY) (c:=M.Instr.cnt) (ok:=M.Instr.ok) (fun x hx k h0 hB=>M.Instr.pL x hx k h0 hB) (fun n k l=>by simp only [cW];rw [if_neg (by rw [aT];simp)]) (fun n k l=>by simp only [dY];rw [if_neg (by rw [aT];simp)]) xs [] fuel k (by simpa using hx.1) (by unfold fuel;omega) hx.2 h0 hB
 refine ⟨ys,by unfold mL;simpa using h2,by unfold qW;simpa using h3 fuel (by unfold fuel;omega),h1⟩
set_option maxHeartbeats 4000000 in
theorem M.aJz.pL (x:Int) (hx:True) (k:Int) (h0:0≤k) (hB:k+(((fun _:Int=>1) x:Nat):Int)≤KB) : ∃x':Int,(∀n (pre post:List Int),(pre++x::post).length≤maxLen→eP (n+1) k pre.length (pre++x::post)=eP n (k+(((fun _:Int=>1) x:Nat):Int)) ((pre.length+1:Nat):Int) (pre++x'::post)) ∧ ∀n (l:List Int) (i:Nat),l[i]? = some x'→l.length≤maxLen→fU l (n+1) k i=fU l n (k+(((fun _:Int=>1) x:Nat):Int)) ((i+1:Nat):Int):=by
 unfold KB at hB;(try simp only [] at hB ⊢)
 have A:(0≤k∧k≤KB)∧(0≤k+1∧k+1≤KB):=by
  unfold KB
  refine ⟨?_,?_⟩<;>omega
 have hE:k+1=k+(((fun _:Int=>1) x:Nat):Int):=by simp
 obtain ⟨q0,q1⟩:=A
 have w0:=wk2 q0
 refine ⟨k,fun n pre post hl => ?_,fun n l i hi hl => ?_⟩
 ·have hl':=le_max hl
  have hp:pre.length<9223372036854775807:=by simp at hl';omega
  simp only [eP]
  rw [if_pos (aAh pre post x)]
  simp (maxSteps:=2000000) only [rV,rT,Option.bind_some,bH hp,w0]
  rw [hE]
 ·have hl':=le_max hl
  have hp:i<9223372036854775807:=by have:=(List.getElem?_eq_some_iff.1 hi).1;omega
  simp only [fU]
  rw [if_pos (aCf hi)]
  simp (maxSteps:=2000000) only [aAi hi,Option.bind_some,bH hp,w0,bne_self_eq_false,beq_self_eq_true,Bool.not_true,Bool.false_eq_true,if_false]
  rw [hE]
theorem M.aJz.cl (xs:List Int):aG (fun _:Int=>1) xs=xs.length:=by
 induction xs with
 | nil=>rfl
 | cons x xs ih=>simp only [aG,ih,List.length_cons];omega
theorem M.aJz.fT (xs:List Int) (hx:okI xs) (k:Int) (h0:0≤k) (hB:k+((xs.length:Nat):Int)≤KB) : ∃ys,qP xs k=some (ys,k+((xs.length:Nat):Int))∧wJ ys k=some (k+((xs.length:Nat):Int))∧ys.length=xs.length:=by
 have hm:=le_max hx.1
 rw [←M.aJz.cl xs] at hB ⊢
 obtain ⟨ys,h1,h2,h3⟩:=kW (ML:=eP) (HL:=fU) (c:=(fun _:Int=>1)) (ok:=(fun _:Int=>True)) (fun x hx k h0 hB=>M.aJz.pL x hx k h0 hB) (fun n k l=>by simp only [eP];rw [if_neg (by rw [aT];simp)]) (fun n k l=>by simp only [fU];rw [if_neg (by rw [aT];simp)]) xs [] fuel k (by simpa using hx.1) (by unfold fuel;omega) (fun _ _=>trivial) h0 hB
 refine ⟨ys,by unfold qP;simpa using h2,by unfold wJ;simpa using h3 fuel (by unfold fuel;omega),by have:=M.aJz.cl xs;omega⟩
def M.bJ.cnt (x:M.bJ):Nat:=8+(aG M.aM.cnt x.aM)+(aG M.Instr.cnt x.Machine.Script)+(x.Machine.Regs.length)
set_option maxHeartbeats 4000000 in
theorem M.bJ.pL (x:M.bJ) (hx:M.bJ.ok x) (k:Int) (h0:0≤k) (hB:k+((M.bJ.cnt x:Nat):Int)≤KB) : ∃x':M.bJ,(∀n (pre post:List M.bJ),(pre++x::post).length≤maxLen→dN (n+1) k pre.length (pre++x::post)=dN n (k+((M.bJ.cnt x:Nat):Int)) ((pre.length+1:Nat):Int) (pre++x'::post)) ∧ ∀n (l:List M.bJ) (i:Nat),l[i]? = some x'→l.length≤maxLen→dP l (n+1) k i=dP l n (k+((M.bJ.cnt x:Nat):Int)) ((i+1:Nat):Int):=by
 unfold KB at hB;unfold M.bJ.cnt at hB ⊢
 have A:(0≤k∧k≤KB)∧(0≤k+1∧k+1≤KB)∧(0≤k+1+1∧k+1+1≤KB)∧(0≤k+1+1+1∧k+1+1+1≤KB)∧(0≤k+1+1+1+1∧k+1+1+1+1≤KB)∧(0≤k+1+1+1+1+((aG M.aM.cnt x.aM:Nat):Int)∧k+1+1+1+1+((aG M.aM.cnt x.aM:Nat):Int)≤KB)∧(0≤k+1+1+1+1+((aG M.aM.cnt x.aM:Nat):Int)+((aG M.Instr.cnt x.Machine.Script:Nat):Int)∧k+1+1+1+1+((aG M.aM.cnt x.aM:Nat):Int)+((aG M.Instr.cnt x.Machine.Script:Nat):Int)≤KB)∧(0≤k+1+1+1+1+((aG M.aM.cnt x.aM:Nat):Int)+((aG M.Instr.cnt x.Machine.Script:Nat):Int)+1∧k+1+1+1+1+((aG M.aM.cnt x.aM:Nat):Int)+((aG M.Instr.cnt x.Machine.Script:Nat):Int)+1≤KB)∧(0≤k+1+1+1+1+((aG M.aM.cnt x.aM:Nat):Int)+((aG M.Instr.cnt x.Machine.Script:Nat):Int)+1+((x.Machine.Regs.length:Nat):Int)∧k+1+1+1+1+((aG M.aM.cnt x.aM:Nat):Int)+((aG M.Instr.cnt x.Machine.Script:Nat):Int)+1+((x.Machine.Regs.length:Nat):Int)≤KB)∧(0≤k+1+1+1+1+((aG M.aM.cnt x.aM:Nat):Int)+((aG M.Instr.cnt x.Machine.Script:Nat):Int)+1+((x.Machine.Regs.length:Nat):Int)+1∧k+1+1+1+1+((aG M.aM.cnt x.aM:Nat):Int)+((aG M.Instr.cnt x.Machine.Script:Nat):Int)+1+((x.Machine.Regs.length:Nat):Int)+1≤KB)∧(0≤k+1+1+1+1+((aG M.aM.cnt x.aM:Nat):Int)+((aG M.Instr.cnt x.Machine.Script:Nat):Int)+1+((x.Machine.Regs.length:Nat):Int)+1+1∧k+1+1+1+1+((aG M.aM.cnt x.aM:Nat):Int)+((aG M.Instr.cnt x.Machine.Script:Nat):Int)+1+((x.Machine.Regs.length:Nat):Int)+1+1≤KB)∧(0≤k+1+1+1+1+((aG M.aM.cnt x.aM:Nat):Int)+((aG M.Instr.cnt x.Machine.Script:Nat):Int)+1+((x.Machine.Regs.length:Nat):Int)+1+1+1∧k+1+1+1+1+((aG M.aM.cnt x.aM:Nat):Int)+((aG M.Instr.cnt x.Machine.Script:Nat):Int)+1+((x.Machine.Regs.length:Nat):Int)+1+1+1≤KB):=by
  unfold KB
  refine ⟨?_,?_,?_,?_,?_,?_,?_,?_,?_,?_,?_,?_⟩<;>omega
 have hE:k+1+1+1+1+((aG M.aM.cnt x.aM:Nat):Int)+((aG M.Instr.cnt x.Machine.Script:Nat):Int)+1+((x.Machine.Regs.length:Nat):Int)+1+1+1=k+((M.bJ.cnt x:Nat):Int):=by unfold M.bJ.cnt;omega
 unfold M.bJ.cnt at hE
 obtain ⟨q0,q1,q2,q3,q4,q5,q6,q7,q8,q9,q10,q11⟩:=A
 have w0:=wk2 q0
 have t1:aJ (k+1)=some (mtx (k+1)):=mt q1.1 (Int.lt_of_add_one_le q2.2)
 have w1:=wk2 q1
 have t2:aJ (k+1+1)=some (mtx (k+1+1)):=mt q2.1 (Int.lt_of_add_one_le q3.2)
 have w2:=wk2 q2
 have w3:=wk2 q3
 obtain ⟨y1,a1,b1,_⟩:=M.aBp.fT _ hx.aM (k+1+1+1+1) q4.1 q5.2
 have d1:(decide (k+1+1+1+1+((aG M.aM.cnt x.aM:Nat):Int)<0))=false:=dk q5.1
 obtain ⟨y2,a2,b2,_⟩:=M.aDJ.fT _ hx.Machine.Script (k+1+1+1+1+((aG M.aM.cnt x.aM:Nat):Int)) q5.1 q6.2
 have d2:(decide (k+1+1+1+1+((aG M.aM.cnt x.aM:Nat):Int)+((aG M.Instr.cnt x.Machine.Script:Nat):Int)<0))=false:=dk q6.1
 have w6:=wk2 q6
 obtain ⟨y3,a3,b3,_⟩:=M.aJz.fT _ hx.Machine.Regs (k+1+1+1+1+((aG M.aM.cnt x.aM:Nat):Int)+((aG M.Instr.cnt x.Machine.Script:Nat):Int)+1) q7.1 q8.2
 have d3:(decide (k+1+1+1+1+((aG M.aM.cnt x.aM:Nat):Int)+((aG M.Instr.cnt x.Machine.Script:Nat):Int)+1+((x.Machine.Regs.length:Nat):Int)<0))=false:=dk q8.1
 have w8:=wk2 q8
 have w9:=wk2 q9
 have w10:=wk2 q10
 refine ⟨⟨k,(mtx (k+1)),(mtx (k+1+1)),k+1+1+1,y1,⟨y2,k+1+1+1+1+((aG M.aM.cnt x.aM:Nat):Int)+((aG M.Instr.cnt x.Machine.Script:Nat):Int),y3,k+1+1+1+1+((aG M.aM.cnt x.aM:Nat):Int)+((aG M.Instr.cnt x.Machine.Script:Nat):Int)+1+((x.Machine.Regs.length:Nat):Int),((Int.tmod (k+1+1+1+1+((aG M.aM.cnt x.aM:Nat):Int)+((aG M.Instr.cnt x.Machine.Script:Nat):Int)+1+((x.Machine.Regs.length:Nat):Int)+1) 3)==0),((Int.tmod (k+1+1+1+1+((aG M.aM.cnt x.aM:Nat):Int)+((aG M.Instr.cnt x.Machine.Script:Nat):Int)+1+((x.Machine.Regs.length:Nat):Int)+1+1) 3)==0)⟩⟩,fun n pre post hl => ?_,fun n l i hi hl => ?_⟩
 ·have hl':=le_max hl
  have hp:pre.length<9223372036854775807:=by simp at hl';omega
  simp only [dN]
  rw [if_pos (aAh pre post x)]
  simp (maxSteps:=2000000) only [rV,rT,Option.bind_some,bH hp,w0,t1,w1,t2,w2,w3,a1,a2,w6,a3,w8,w9,w10]
  rw [hE]
 ·have hl':=le_max hl
  have hp:i<9223372036854775807:=by have:=(List.getElem?_eq_some_iff.1 hi).1;omega
  simp only [dP]
  rw [if_pos (aCf hi)]
  simp (maxSteps:=2000000) only [aAi hi,Option.bind_some,bH hp,w0,t1,w1,t2,w2,w3,b1,d1,b2,d2,w6,b3,d3,w8,w9,w10,bne_self_eq_false,beq_self_eq_true,Bool.not_true,Bool.false_eq_true,if_false]
  rw [hE]
theorem M.aIF.fT (xs:List M.bJ) (hx:(xs.length≤maxLen ∧ ∀y∈xs,M.bJ.ok y)) (k:Int) (h0:0≤k) (hB:k+((aG M.bJ.cnt xs:Nat):Int)≤KB) : ∃ys,sM xs k=some (ys,k+((aG M.bJ.cnt xs:Nat):Int))∧sO ys k=some (k+((aG M.bJ.cnt xs:Nat):Int))∧ys.length=xs.length:=by
 have hm:=le_max hx.1
 obtain ⟨ys,h1,h2,h3⟩:=kW (ML:=dN) (HL:=dP) (c:=M.bJ.cnt) (ok:=M.bJ.ok) (fun x hx k h0 hB=>M.bJ.pL x hx k h0 hB) (fun n k l=>by simp only [dN];rw [if_neg (by rw [aT];simp)]) (fun n k l=>by simp only [dP];rw [if_neg (by rw [aT];simp)]) xs [] fuel k (by simpa using hx.1) (by unfold fuel;omega) hx.2 h0 hB
 refine ⟨ys,by unfold sM;simpa using h2,by unfold sO;simpa using h3 fuel (by unfold fuel;omega),h1⟩
def M.cT.cnt (x:M.cT):Nat:=4
set_option maxHeartbeats 4000000 in
theorem M.cT.pL (x:M.cT) (hx:M.cT.ok x) (k:Int) (h0:0≤k) (hB:k+((M.cT.cnt x:Nat):Int)≤KB) : ∃x':M.cT,(∀n (pre post:List M.cT),(pre++x::post).length≤maxLen→dM (n+1) k pre.length (pre++x::post)=dM n (k+((M.cT.cnt x:Nat):Int)) ((pre.length+1:Nat):Int) (pre++x'::post)) ∧ ∀n (l:List M.cT) (i:Nat),l[i]? = some x'→l.length≤maxLen→eZ l (n+1) k i=eZ l n (k+((M.cT.cnt x:Nat):Int)) ((i+1:Nat):Int):=by
 unfold KB at hB;unfold M.cT.cnt at hB ⊢
 have A:(0≤k∧k≤KB)∧(0≤k+1∧k+1≤KB)∧(0≤k+1+1∧k+1+1≤KB)∧(0≤k+1+1+1∧k+1+1+1≤KB)∧(0≤k+1+1+1+1∧k+1+1+1+1≤KB):=by
  unfold KB
  refine ⟨?_,?_,?_,?_,?_⟩<;>omega
 have hE:k+1+1+1+1=k+((M.cT.cnt x:Nat):Int):=by unfold M.cT.cnt;omega
 unfold M.cT.cnt at hE
 obtain ⟨q0,q1,q2,q3,q4⟩:=A
 have t0:aJ (k)=some (mtx (k)):=mt q0.1 (Int.lt_of_add_one_le q1.2)
 have w0:=wk2 q0
 have w1:=wk2 q1
 have w2:=wk2 q2
 have w3:=wk2 q3
 refine ⟨⟨(mtx (k)),k+1,((Int.tmod (k+1+1) 3)==0),((Int.tmod (k+1+1+1) 3)==0)⟩,fun n pre post hl => ?_,fun n l i hi hl => ?_⟩
 ·have hl':=le_max hl
  have hp:pre.length<9223372036854775807:=by simp at hl';omega
  simp only [dM]
  rw [if_pos (aAh pre post x)]
  simp (maxSteps:=2000000) only [rV,rT,Option.bind_some,bH hp,t0,w0,w1,w2,w3]
  rw [hE]
 ·have hl':=le_max hl
  have hp:i<9223372036854775807:=by have:=(List.getElem?_eq_some_iff.1 hi).1;omega
  simp only [eZ]
  rw [if_pos (aCf hi)]
  simp (maxSteps:=2000000) only [aAi hi,Option.bind_some,bH hp,t0,w0,w1,w2,w3,bne_self_eq_false,beq_self_eq_true,Bool.not_true,Bool.false_eq_true,if_false]
  rw [hE]
theorem M.aIK.fT (xs:List M.cT) (hx:(xs.length≤maxLen ∧ ∀y∈xs,M.cT.ok y)) (k:Int) (h0:0≤k) (hB:k+((aG M.cT.cnt xs:Nat):Int)≤KB) : ∃ys,tP xs k=some (ys,k+((aG M.cT.cnt xs:Nat):Int))∧tO ys k=some (k+((aG M.cT.cnt xs:Nat):Int))∧ys.length=xs.length:=by
 have hm:=le_max hx.1
 obtain ⟨ys,h1,h2,h3⟩:=kW (ML:=dM) (HL:=eZ) (c:=M.cT.cnt) (ok:=M.cT.ok) (fun x hx k h0 hB=>M.cT.pL x hx k h0 hB) (fun n k l=>by simp only [dM];rw [if_neg (by rw [aT];simp)]) (fun n k l=>by simp only [eZ];rw [if_neg (by rw [aT];simp)]) xs [] fuel k (by simpa using hx.1) (by unfold fuel;omega) hx.2 h0 hB
 refine ⟨ys,by unfold tP;simpa using h2,by unfold tO;simpa using h3 fuel (by unfold fuel;omega),h1⟩
def M.eO.cnt (x:M.eO):Nat:=3
set_option maxHeartbeats 4000000 in
theorem M.eO.pL (x:M.eO) (hx:M.eO.ok x) (k:Int) (h0:0≤k) (hB:k+((M.eO.cnt x:Nat):Int)≤KB) : ∃x':M.eO,(∀n (pre post:List M.eO),(pre++x::post).length≤maxLen→dK (n+1) k pre.length (pre++x::post)=dK n (k+((M.eO.cnt x:Nat):Int)) ((pre.length+1:Nat):Int) (pre++x'::post)) ∧ ∀n (l:List M.eO) (i:Nat),l[i]? = some x'→l.length≤maxLen→fC l (n+1) k i=fC l n (k+((M.eO.cnt x:Nat):Int)) ((i+1:Nat):Int):=by
 unfold KB at hB;unfold M.eO.cnt at hB ⊢
 have A:(0≤k∧k≤KB)∧(0≤k+1∧k+1≤KB)∧(0≤k+1+1∧k+1+1≤KB)∧(0≤k+1+1+1∧k+1+1+1≤KB):=by
  unfold KB
  refine ⟨?_,?_,?_,?_⟩<;>omega
 have hE:k+1+1+1=k+((M.eO.cnt x:Nat):Int):=by unfold M.eO.cnt;omega
 unfold M.eO.cnt at hE
 obtain ⟨q0,q1,q2,q3⟩:=A
 have w0:=wk2 q0
 have w1:=wk2 q1
 have w2:=wk2 q2
 refine ⟨⟨k,k+1,k+1+1⟩,fun n pre post hl => ?_,fun n l i hi hl => ?_⟩
 ·have hl':=le_max hl
  have hp:pre.length<9223372036854775807:=by simp at hl';omega
  simp only [dK]
  rw [if_pos (aAh pre post x)]
  simp (maxSteps:=2000000) only [rV,rT,Option.bind_some,bH hp,w0,w1,w2]
  rw [hE]
 ·have hl':=le_max hl
  have hp:i<9223372036854775807:=by have:=(List.getElem?_eq_some_iff.1 hi).1;omega
  simp only [fC]
  rw [if_pos (aCf hi)]
  simp (maxSteps:=2000000) only [aAi hi,Option.bind_some,bH hp,w0,w1,w2,bne_self_eq_false,beq_self_eq_true,Bool.not_true,Bool.false_eq_true,if_false]
  rw [hE]
theorem M.aIj.fT (xs:List M.eO) (hx:(xs.length≤maxLen ∧ ∀y∈xs,M.eO.ok y)) (k:Int) (h0:0≤k) (hB:k+((aG M.eO.cnt xs:Nat):Int)≤KB) : ∃ys,tT xs k=some (ys,k+((aG M.eO.cnt xs:Nat):Int))∧tW ys k=some (k+((aG M.eO.cnt xs:Nat):Int))∧ys.length=xs.length:=by
 have hm:=le_max hx.1
 obtain ⟨ys,h1,h2,h3⟩:=kW (ML:=dK) (HL:=fC) (c:=M.eO.cnt) (ok:=M.eO.ok) (fun x hx k h0 hB=>M.eO.pL x hx k h0 hB) (fun n k l=>by simp only [dK];rw [if_neg (by rw [aT];simp)]) (fun n k l=>by simp only [fC];rw [if_neg (by rw [aT];simp)]) xs [] fuel k (by simpa using hx.1) (by unfold fuel;omega) hx.2 h0 hB
 refine ⟨ys,by unfold tT;simpa using h2,by unfold tW;simpa using h3 fuel (by unfold fuel;omega),h1⟩
set_option maxHeartbeats 4000000 in
theorem M.aAR.pL (x:ByteArray) (hx:True) (k:Int) (h0:0≤k) (hB:k+(((fun _:ByteArray=>1) x:Nat):Int)≤KB) : ∃x':ByteArray,(∀n (pre post:List ByteArray),(pre++x::post).length≤maxLen→cQ (n+1) k pre.length (pre++x::post)=cQ n (k+(((fun _:ByteArray=>1) x:Nat):Int)) ((pre.length+1:Nat):Int) (pre++x'::post)) ∧ ∀n (l:List ByteArray) (i:Nat),l[i]? = some x'→l.length≤maxLen→dG l (n+1) k i=dG l n (k+(((fun _:ByteArray=>1) x:Nat):Int)) ((i+1:Nat):Int):=by
 unfold KB at hB;(try simp only [] at hB ⊢)
 have A:(0≤k∧k≤KB)∧(0≤k+1∧k+1≤KB):=by
  unfold KB
  refine ⟨?_,?_⟩<;>omega
 have hE:k+1=k+(((fun _:ByteArray=>1) x:Nat):Int):=by simp
 obtain ⟨q0,q1⟩:=A
 have t0:aJ (k)=some (mtx (k)):=mt q0.1 (Int.lt_of_add_one_le q1.2)
 have w0:=wk2 q0
 refine ⟨(mtx (k)),fun n pre post hl => ?_,fun n l i hi hl => ?_⟩
 ·have hl':=le_max hl
  have hp:pre.length<9223372036854775807:=by simp at hl';omega
  simp only [cQ]
  rw [if_pos (aAh pre post x)]
  simp (maxSteps:=2000000) only [rV,rT,Option.bind_some,bH hp,t0,w0]
  rw [hE]
 ·have hl':=le_max hl
  have hp:i<9223372036854775807:=by have:=(List.getElem?_eq_some_iff.1 hi).1;omega
  simp only [dG]
  rw [if_pos (aCf hi)]
  simp (maxSteps:=2000000) only [aAi hi,Option.bind_some,bH hp,t0,w0,bne_self_eq_false,beq_self_eq_true,Bool.not_true,Bool.false_eq_true,if_false]
  rw [hE]
theorem M.aAR.cl (xs:List ByteArray):aG (fun _:ByteArray=>1) xs=xs.length:=by
 induction xs with
 | nil=>rfl
 | cons x xs ih=>simp only [aG,ih,List.length_cons];omega
theorem M.aAR.fT (xs:List ByteArray) (hx:okS xs) (k:Int) (h0:0≤k) (hB:k+((xs.length:Nat):Int)≤KB) : ∃ys,oH xs k=some (ys,k+((xs.length:Nat):Int))∧oM ys k=some (k+((xs.length:Nat):Int))∧ys.length=xs.length:=by
 have hm:=le_max hx.1
 rw [←M.aAR.cl xs] at hB ⊢
 obtain ⟨ys,h1,h2,h3⟩:=kW (ML:=cQ) (HL:=dG) (c:=(fun _:ByteArray=>1)) (ok:=(fun _:ByteArray=>True)) (fun x hx k h0 hB=>M.aAR.pL x hx k h0 hB) (fun n k l=>by simp only [cQ];rw [if_neg (by rw [aT];simp)]) (fun n k l=>by simp only [dG];rw [if_neg (by rw [aT];simp)]) xs [] fuel k (by simpa using hx.1) (by unfold fuel;omega) (fun _ _=>trivial) h0 hB
 refine ⟨ys,by unfold oH;simpa using h2,by unfold oM;simpa using h3 fuel (by unfold fuel;omega),by have:=M.aAR.cl xs;omega⟩
def M.Site.cnt (x:M.Site):Nat:=3+(x.Files.length)
set_option maxHeartbeats 4000000 in
theorem M.Site.pL (x:M.Site) (hx:M.Site.ok x) (k:Int) (h0:0≤k) (hB:k+((M.Site.cnt x:Nat):Int)≤KB) : ∃x':M.Site,(∀n (pre post:List M.Site),(pre++x::post).length≤maxLen→dR (n+1) k pre.length (pre++x::post)=dR n (k+((M.Site.cnt x:Nat):Int)) ((pre.length+1:Nat):Int) (pre++x'::post)) ∧ ∀n (l:List M.Site) (i:Nat),l[i]? = some x'→l.length≤maxLen→eT l (n+1) k i=eT l n (k+((M.Site.cnt x:Nat):Int)) ((i+1:Nat):Int):=by
 unfold KB at hB;unfold M.Site.cnt at hB ⊢
 have A:(0≤k∧k≤KB)∧(0≤k+1∧k+1≤KB)∧(0≤k+1+1∧k+1+1≤KB)∧(0≤k+1+1+((x.Files.length:Nat):Int)∧k+1+1+((x.Files.length:Nat):Int)≤KB)∧(0≤k+1+1+((x.Files.length:Nat):Int)+1∧k+1+1+((x.Files.length:Nat):Int)+1≤KB):=by
  unfold KB
  refine ⟨?_,?_,?_,?_,?_⟩<;>omega
 have hE:k+1+1+((x.Files.length:Nat):Int)+1=k+((M.Site.cnt x:Nat):Int):=by unfold M.Site.cnt;omega
 unfold M.Site.cnt at hE
 obtain ⟨q0,q1,q2,q3,q4⟩:=A
 have t0:aJ (k)=some (mtx (k)):=mt q0.1 (Int.lt_of_add_one_le q1.2)
 have w0:=wk2 q0
 have w1:=wk2 q1
 obtain ⟨y1,a1,b1,_⟩:=M.aAR.fT _ hx.Files (k+1+1) q2.1 q3.2
 have d1:(decide (k+1+1+((x.Files.length:Nat):Int)<0))=false:=dk q3.1
 have w3:=wk2 q3
 refine ⟨⟨(mtx (k)),k+1,y1,((Int.tmod (k+1+1+((x.Files.length:Nat):Int)) 3)==0)⟩,fun n pre post hl => ?_,fun n l i hi hl => ?_⟩
 ·have hl':=le_max hl
  have hp:pre.length<9223372036854775807:=by simp at hl';omega
  simp only [dR]
  rw [if_pos (aAh pre post x)]
  simp (maxSteps:=2000000) only [rV,rT,Option.bind_some,bH hp,t0,w0,w1,a1,w3]
  rw [hE]
 ·have hl':=le_max hl
  have hp:i<9223372036854775807:=by have:=(List.getElem?_eq_some_iff.1 hi).1;omega
  simp only [eT]
  rw [if_pos (aCf hi)]
  simp (maxSteps:=2000000) only [aAi hi,Option.bind_some,bH hp,t0,w0,w1,b1,d1,w3,bne_self_eq_false,beq_self_eq_true,Bool.not_true,Bool.false_eq_true,if_false]
  rw [hE]
theorem M.aIC.fT (xs:List M.Site) (hx:(xs.length≤maxLen ∧ ∀y∈xs,M.Site.ok y)) (k:Int) (h0:0≤k) (hB:k+((aG M.Site.cnt xs:Nat):Int)≤KB) : ∃ys,tJ xs k=some (ys,k+((aG M.Site.cnt xs:Nat):Int))∧uL ys k=some (k+((aG M.Site.cnt xs:Nat):Int))∧ys.length=xs.length:=by
 have hm:=le_max hx.1
 obtain ⟨ys,h1,h2,h3⟩:=kW (ML:=dR) (HL:=eT) (c:=M.Site.cnt) (ok:=M.Site.ok) (fun x hx k h0 hB=>M.Site.pL x hx k h0 hB) (fun n k l=>by simp only [dR];rw [if_neg (by rw [aT];simp)]) (fun n k l=>by simp only [eT];rw [if_neg (by rw [aT];simp)]) xs [] fuel k (by simpa using hx.1) (by unfold fuel;omega) hx.2 h0 hB
 refine ⟨ys,by unfold tJ;simpa using h2,by unfold uL;simpa using h3 fuel (by unfold fuel;omega),h1⟩
def M.aO.cnt (x:M.aO):Nat:=2
set_option maxHeartbeats 4000000 in
theorem M.aO.pL (x:M.aO) (hx:M.aO.ok x) (k:Int) (h0:0≤k) (hB:k+((M.aO.cnt x:Nat):Int)≤KB) : ∃x':M.aO,(∀n (pre post:List M.aO),(pre++x::post).length≤maxLen→bZ (n+1) k pre.length (pre++x::post)=bZ n (k+((M.aO.cnt x:Nat):Int)) ((pre.length+1:Nat):Int) (pre++x'::post)) ∧ ∀n (l:List M.aO) (i:Nat),l[i]? = some x'→l.length≤maxLen→cU l (n+1) k i=cU l n (k+((M.aO.cnt x:Nat):Int)) ((i+1:Nat):Int):=by
 unfold KB at hB;unfold M.aO.cnt at hB ⊢
 have A:(0≤k∧k≤KB)∧(0≤k+1∧k+1≤KB)∧(0≤k+1+1∧k+1+1≤KB):=by
  unfold KB
  refine ⟨?_,?_,?_⟩<;>omega
 have hE:k+1+1=k+((M.aO.cnt x:Nat):Int):=by unfold M.aO.cnt;omega
 unfold M.aO.cnt at hE
 obtain ⟨q0,q1,q2⟩:=A
 have w0:=wk2 q0
 have w1:=wk2 q1
 refine ⟨⟨k,k+1⟩,fun n pre post hl => ?_,fun n l i hi hl => ?_⟩
 ·have hl':=le_max hl
  have hp:pre.length<9223372036854775807:=by simp at hl';omega
  simp only [bZ]
  rw [if_pos (aAh pre post x)]
  simp (maxSteps:=2000000) only [rV,rT,Option.bind_some,bH hp,w0,w1]
  rw [hE]
 ·have hl':=le_max hl
  have hp:i<9223372036854775807:=by have:=(List.getElem?_eq_some_iff.1 hi).1;omega
  simp only [cU]
  rw [if_pos (aCf hi)]
  simp (maxSteps:=2000000) only [aAi hi,Option.bind_some,bH hp,w0,w1,bne_self_eq_false,beq_self_eq_true,Bool.not_true,Bool.false_eq_true,if_false]
  rw [hE]
theorem M.aBi.fT (xs:List M.aO) (hx:(xs.length≤maxLen ∧ ∀y∈xs,M.aO.ok y)) (k:Int) (h0:0≤k) (hB:k+((aG M.aO.cnt xs:Nat):Int)≤KB) : ∃ys,nA xs k=some (ys,k+((aG M.aO.cnt xs:Nat):Int))∧mZ ys k=some (k+((aG M.aO.cnt xs:Nat):Int))∧ys.length=xs.length:=by
 have hm:=le_max hx.1
 obtain ⟨ys,h1,h2,h3⟩:=kW (ML:=bZ) (HL:=cU) (c:=M.aO.cnt) (ok:=M.aO.ok) (fun x hx k h0 hB=>M.aO.pL x hx k h0 hB) (fun n k l=>by simp only [bZ];rw [if_neg (by rw [aT];simp)]) (fun n k l=>by simp only [cU];rw [if_neg (by rw [aT];simp)]) xs [] fuel k (by simpa using hx.1) (by unfold fuel;omega) hx.2 h0 hB
 refine ⟨ys,by unfold nA;simpa using h2,by unfold mZ;simpa using h3 fuel (by unfold fuel;omega),h1⟩
def M.Server.cnt (x:M.Server):Nat:=2+(aG M.Item.cnt x.aE.Items)+(aG M.aO.cnt x.aO)+(aG M.aV.cnt x.Changes)
set_option maxHeartbeats 4000000 in
theorem M.Server.pL (x:M.Server) (hx:M.Server.ok x) (k:Int) (h0:0≤k) (hB:k+((M.Server.cnt x:Nat):Int)≤KB) : ∃x':M.Server,(∀n (pre post:List M.Server),(pre++x::post).length≤maxLen→cJ (n+1) k pre.length (pre++x::post)=cJ n (k+((M.Server.cnt x:Nat):Int)) ((pre.length+1:Nat):Int) (pre++x'::post)) ∧ ∀n (l:List M.Server) (i:Nat),l[i]? = some x'→l.length≤maxLen→cO l (n+1) k i=cO l n (k+((M.Server.cnt x:Nat):Int)) ((i+1:Nat):Int):=by
 unfold KB at hB;unfold M.Server.cnt at hB ⊢
 have A:(0≤k∧k≤KB)∧(0≤k+1∧k+1≤KB)∧(0≤k+1+((aG M.Item.cnt x.aE.Items:Nat):Int)∧k+1+((aG M.Item.cnt x.aE.Items:Nat):Int)≤KB)∧(0≤k+1+((aG M.Item.cnt x.aE.Items:Nat):Int)+1∧k+1+((aG M.Item.cnt x.aE.Items:Nat):Int)+1≤KB)∧(0≤k+1+((aG M.Item.cnt x.aE.Items:Nat):Int)+1+((aG M.aO.cnt x.aO:Nat):Int)∧k+1+((aG M.Item.cnt x.aE.Items:Nat):Int)+1+((aG M.aO.cnt x.aO:Nat):Int)≤KB)∧(0≤k+1+((aG M.Item.cnt x.aE.Items:Nat):Int)+1+((aG M.aO.cnt x.aO:Nat):Int)+((aG M.aV.cnt x.Changes:Nat):Int)∧k+1+((aG M.Item.cnt x.aE.Items:Nat):Int)+1+((aG M.aO.cnt x.aO:Nat):Int)+((aG M.aV.cnt x.Changes:Nat):Int)≤KB):=by
  unfold KB
  refine ⟨?_,?_,?_,?_,?_,?_⟩<;>omega
 have hE:k+1+((aG M.Item.cnt x.aE.Items:Nat):Int)+1+((aG M.aO.cnt x.aO:Nat):Int)+((aG M.aV.cnt x.Changes:Nat):Int)=k+((M.Server.cnt x:Nat):Int):=by unfold M.Server.cnt;omega
 unfold M.Server.cnt at hE
 obtain ⟨q0,q1,q2,q3,q4,q5⟩:=A
 have t0:aJ (k)=some (mtx (k)):=mt q0.1 (Int.lt_of_add_one_le q1.2)
 have w0:=wk2 q0
 obtain ⟨y1,a1,b1,_⟩:=M.aFF.fT _ hx.aE.Items (k+1) q1.1 q2.2
 have d1:(decide (k+1+((aG M.Item.cnt x.aE.Items:Nat):Int)<0))=false:=dk q2.1
 have w2:=wk2 q2
 obtain ⟨y2,a2,b2,_⟩:=M.aBi.fT _ hx.aO (k+1+((aG M.Item.cnt x.aE.Items:Nat):Int)+1) q3.1 q4.2
 have d2:(decide (k+1+((aG M.Item.cnt x.aE.Items:Nat):Int)+1+((aG M.aO.cnt x.aO:Nat):Int)<0))=false:=dk q4.1
 obtain ⟨y3,a3,b3,_⟩:=M.aB7.fT _ hx.Changes (k+1+((aG M.Item.cnt x.aE.Items:Nat):Int)+1+((aG M.aO.cnt x.aO:Nat):Int)) q4.1 q5.2
 have d3:(decide (k+1+((aG M.Item.cnt x.aE.Items:Nat):Int)+1+((aG M.aO.cnt x.aO:Nat):Int)+((aG M.aV.cnt x.Changes:Nat):Int)<0))=false:=dk q5.1
 refine ⟨⟨⟨(mtx (k)),y1,k+1+((aG M.Item.cnt x.aE.Items:Nat):Int)⟩,y2,y3⟩,fun n pre post hl => ?_,fun n l i hi hl => ?_⟩
 ·have hl':=le_max hl
  have hp:pre.length<9223372036854775807:=by simp at hl';omega
  simp only [cJ]
  rw [if_pos (aAh pre post x)]
  simp (maxSteps:=2000000) only [rV,rT,Option.bind_some,bH hp,t0,w0,a1,w2,a2,a3]
  rw [hE]
 ·have hl':=le_max hl
  have hp:i<9223372036854775807:=by have:=(List.getElem?_eq_some_iff.1 hi).1;omega
  simp only [cO]
  rw [if_pos (aCf hi)]
  simp (maxSteps:=2000000) only [aAi hi,Option.bind_some,bH hp,t0,w0,b1,d1,w2,b2,d2,b3,d3,bne_self_eq_false,beq_self_eq_true,Bool.not_true,Bool.false_eq_true,if_false]
  rw [hE]
theorem M.aCk.fT (xs:List M.Server) (hx:(xs.length≤maxLen ∧ ∀y∈xs,M.Server.ok y)) (k:Int) (h0:0≤k) (hB:k+((aG M.Server.cnt xs:Nat):Int)≤KB) : ∃ys,oV xs k=some (ys,k+((aG M.Server.cnt xs:Nat):Int))∧pH ys k=some (k+((aG M.Server.cnt xs:Nat):Int))∧ys.length=xs.length:=by
 have hm:=le_max hx.1
 obtain ⟨ys,h1,h2,h3⟩:=kW (ML:=cJ) (HL:=cO) (c:=M.Server.cnt) (ok:=M.Server.ok) (fun x hx k h0 hB=>M.Server.pL x hx k h0 hB) (fun n k l=>by simp only [cJ];rw [if_neg (by rw [aT];simp)]) (fun n k l=>by simp only [cO];rw [if_neg (by rw [aT];simp)]) xs [] fuel k (by simpa using hx.1) (by unfold fuel;omega) hx.2 h0 hB
 refine ⟨ys,by unfold oV;simpa using h2,by unfold pH;simpa using h3 fuel (by unfold fuel;omega),h1⟩
def M.World.aJy (x:M.World):Nat:=(aG M.aA.cnt x.aF.Buckets)+(aG M.bJ.cnt x.Pages)+(aG M.cT.cnt x.Locks.Locks)+(aG M.eO.cnt x.Channel.Mails)+(aG M.Site.cnt x.Sites)+(aG M.Server.cnt x.Servers)
theorem M.World.fT (x:M.World) (hx:M.World.ok x) (k:Int) (h0:0≤k) (hB:k+((M.World.aJy x:Nat):Int)≤KB) : ∃y1 y2 y3 y4 y5 y6,nZ x k=some (y1,y2,y3,y4,y5,y6,k+((M.World.aJy x:Nat):Int))∧oF (⟨x.Now,x.Online,x.Device,⟨y1⟩,y2,x.NextPage,⟨y3⟩,⟨y4⟩,y5,y6⟩:M.World) k=some (k+((M.World.aJy x:Nat):Int)):=by
 unfold KB at hB;unfold M.World.aJy at hB ⊢
 obtain ⟨y1,a1,b1,_⟩:=M.aCj.fT _ hx.aF.Buckets (k) (by omega) (by unfold KB;omega)
 obtain ⟨y2,a2,b2,_⟩:=M.aIF.fT _ hx.Pages (k+((aG M.aA.cnt x.aF.Buckets:Nat):Int)) (by omega) (by unfold KB;omega)
 obtain ⟨y3,a3,b3,_⟩:=M.aIK.fT _ hx.Locks.Locks (k+((aG M.aA.cnt x.aF.Buckets:Nat):Int)+((aG M.bJ.cnt x.Pages:Nat):Int)) (by omega) (by unfold KB;omega)
 obtain ⟨y4,a4,b4,_⟩:=M.aIj.fT _ hx.Channel.Mails (k+((aG M.aA.cnt x.aF.Buckets:Nat):Int)+((aG M.bJ.cnt x.Pages:Nat):Int)+((aG M.cT.cnt x.Locks.Locks:Nat):Int)) (by omega) (by unfold KB;omega)
 obtain ⟨y5,a5,b5,_⟩:=M.aIC.fT _ hx.Sites (k+((aG M.aA.cnt x.aF.Buckets:Nat):Int)+((aG M.bJ.cnt x.Pages:Nat):Int)+((aG M.cT.cnt x.Locks.Locks:Nat):Int)+((aG M.eO.cnt x.Channel.Mails:Nat):Int)) (by omega) (by unfold KB;omega)
 obtain ⟨y6,a6,b6,_⟩:=M.aCk.fT _ hx.Servers (k+((aG M.aA.cnt x.aF.Buckets:Nat):Int)+((aG M.bJ.cnt x.Pages:Nat):Int)+((aG M.cT.cnt x.Locks.Locks:Nat):Int)+((aG M.eO.cnt x.Channel.Mails:Nat):Int)+((aG M.Site.cnt x.Sites:Nat):Int)) (by omega) (by unfold KB;omega)
 refine ⟨y1,y2,y3,y4,y5,y6,?_,?_⟩
 ·unfold nZ
  simp only [vK,pR,vD,a1,a2,a3,a4,a5,a6,Option.bind_some]
  try (simp only [Option.some.injEq,Prod.mk.injEq,true_and];omega)
 ·unfold oF
  simp (disch:=(first | omega | (unfold KB;omega))) only [vC,pS,vH,b1,b2,b3,b4,b5,b6,Option.bind_some,dk,Bool.false_eq_true,if_false]
  try (simp only [Option.some.injEq];omega)
def M.bJ.aJy (x:M.bJ):Nat:=(aG M.aM.cnt x.aM)+(aG M.Instr.cnt x.Machine.Script)+(x.Machine.Regs.length)
theorem M.bJ.fT (x:M.bJ) (hx:M.bJ.ok x) (k:Int) (h0:0≤k) (hB:k+((M.bJ.aJy x:Nat):Int)≤KB) : ∃y1 y2 y3,wI x k=some (y1,y2,y3,k+((M.bJ.aJy x:Nat):Int)):=by
 unfold KB at hB;unfold M.bJ.aJy at hB ⊢
 obtain ⟨y1,a1⟩:=M.aBp.fT _ hx.aM (k) (by omega) (by unfold KB;omega)
 obtain ⟨y2,a2⟩:=M.aDJ.fT _ hx.Machine.Script (k+((aG M.aM.cnt x.aM:Nat):Int)) (by omega) (by unfold KB;omega)
 obtain ⟨y3,a3⟩:=M.aJz.fT _ hx.Machine.Regs (k+((aG M.aM.cnt x.aM:Nat):Int)+((aG M.Instr.cnt x.Machine.Script:Nat):Int)) (by omega) (by unfold KB;omega)
 refine ⟨y1,y2,y3,?_⟩
 unfold wI
 simp only [vA,a1,a2,a3,Option.bind_some]
 try (simp only [Option.some.injEq,Prod.mk.injEq,true_and];omega)
theorem M.aCe.fG (xs:List Int):xs.length≤40*(xs.length):=by omega
theorem M.Cached.fG (x:M.Cached):M.Cached.cnt x≤40+40*M.Cached.sz x:=by
 unfold M.Cached.cnt
 simp only [M.Cached.sz,M.Response.sz]
 have:=M.aCe.fG x.Response.Body
 omega
theorem M.aCg.fG (xs:List M.Cached):aG M.Cached.cnt xs≤40*((xs.length+aG M.Cached.sz xs)):=mV (fun x _=>M.Cached.fG x)
theorem M.Cache.fG (x:M.Cache):M.Cache.cnt x≤40+40*M.Cache.sz x:=by
 unfold M.Cache.cnt
 simp only [M.Cache.sz]
 have:=M.aCg.fG x.Entries
 omega
theorem M.aEZ.fG (xs:List M.Cache):aG M.Cache.cnt xs≤40*((xs.length+aG M.Cache.sz xs)):=mV (fun x _=>M.Cache.fG x)
theorem M.Field.fG (x:M.Field):M.Field.cnt x≤40+40*M.Field.sz x:=by
 unfold M.Field.cnt
 simp only [M.Field.sz]
 omega
theorem M.aE0.fG (xs:List M.Field):aG M.Field.cnt xs≤40*((xs.length+aG M.Field.sz xs)):=mV (fun x _=>M.Field.fG x)
theorem M.Item.fG (x:M.Item):M.Item.cnt x≤40+40*M.Item.sz x:=by
 unfold M.Item.cnt
 simp only [M.Item.sz,M.Key.sz,M.aH.sz]
 have:=M.aE0.fG x.aH.Fields
 omega
theorem M.aFF.fG (xs:List M.Item):aG M.Item.cnt xs≤40*((xs.length+aG M.Item.sz xs)):=mV (fun x _=>M.Item.fG x)
theorem M.aE.fG (x:M.aE):M.aE.cnt x≤40+40*M.aE.sz x:=by
 unfold M.aE.cnt
 simp only [M.aE.sz]
 have:=M.aFF.fG x.Items
 omega
theorem M.aEN.fG (xs:List M.aE):aG M.aE.cnt xs≤40*((xs.length+aG M.aE.sz xs)):=mV (fun x _=>M.aE.fG x)
theorem M.aD.fG (x:M.aD):M.aD.cnt x≤40+40*M.aD.sz x:=by
 unfold M.aD.cnt
 simp only [M.aD.sz]
 omega
theorem M.aA9.fG (xs:List M.aD):aG M.aD.cnt xs≤40*((xs.length+aG M.aD.sz xs)):=mV (fun x _=>M.aD.fG x)
theorem M.aV.fG (x:M.aV):M.aV.cnt x≤40+40*M.aV.sz x:=by
 unfold M.aV.cnt
 simp only [M.aV.sz,M.Key.sz]
 omega
theorem M.aB7.fG (xs:List M.aV):aG M.aV.cnt xs≤40*((xs.length+aG M.aV.sz xs)):=mV (fun x _=>M.aV.fG x)
theorem M.aA.fG (x:M.aA):M.aA.cnt x≤40+40*M.aA.sz x:=by
 unfold M.aA.cnt
 simp only [M.aA.sz,M.Registration.sz,M.aU.sz,M.bD.sz,M.Database.sz,M.aC.sz,M.aE.sz,M.Sync.sz,M.aN.sz]
 have:=M.aEZ.fG x.Caches.Caches
 have:=M.aEN.fG x.bD.Base.Stores
 have:=M.aA9.fG x.bD.Base.Unique
 have:=M.aCe.fG x.bD.Log
 have:=M.aFF.fG x.aC.Base.Items
 have:=M.aB7.fG x.aC.Sync.aN.Writes
 omega
theorem M.aCj.fG (xs:List M.aA):aG M.aA.cnt xs≤40*((xs.length+aG M.aA.sz xs)):=mV (fun x _=>M.aA.fG x)
theorem M.aM.fG (x:M.aM):M.aM.cnt x≤40+40*M.aM.sz x:=by
 unfold M.aM.cnt
 simp only [M.aM.sz]
 omega
theorem M.aBp.fG (xs:List M.aM):aG M.aM.cnt xs≤40*((xs.length+aG M.aM.sz xs)):=mV (fun x _=>M.aM.fG x)
theorem M.Instr.fG (x:M.Instr):M.Instr.cnt x≤40+40*M.Instr.sz x:=by
 unfold M.Instr.cnt
 simp only [M.Instr.sz]
 omega
theorem M.aDJ.fG (xs:List M.Instr):aG M.Instr.cnt xs≤40*((xs.length+aG M.Instr.sz xs)):=mV (fun x _=>M.Instr.fG x)
theorem M.aJz.fG (xs:List Int):xs.length≤40*(xs.length):=by omega
theorem M.bJ.fG (x:M.bJ):M.bJ.cnt x≤40+40*M.bJ.sz x:=by
 unfold M.bJ.cnt
 simp only [M.bJ.sz,M.Machine.sz]
 have:=M.aBp.fG x.aM
 have:=M.aDJ.fG x.Machine.Script
 have:=M.aJz.fG x.Machine.Regs
 omega
theorem M.aIF.fG (xs:List M.bJ):aG M.bJ.cnt xs≤40*((xs.length+aG M.bJ.sz xs)):=mV (fun x _=>M.bJ.fG x)
theorem M.cT.fG (x:M.cT):M.cT.cnt x≤40+40*M.cT.sz x:=by
 unfold M.cT.cnt
 simp only [M.cT.sz]
 omega
theorem M.aIK.fG (xs:List M.cT):aG M.cT.cnt xs≤40*((xs.length+aG M.cT.sz xs)):=mV (fun x _=>M.cT.fG x)
theorem M.eO.fG (x:M.eO):M.eO.cnt x≤40:=by
 unfold M.eO.cnt
 omega
theorem M.aIj.fG (xs:List M.eO):aG M.eO.cnt xs≤40*(xs.length):=Nat.le_trans (aD8 (fun x _=>M.eO.fG x)) (by omega)
theorem M.aAR.fG (xs:List ByteArray):xs.length≤40*((xs.length+aG ByteArray.size xs)):=by omega
theorem M.Site.fG (x:M.Site):M.Site.cnt x≤40+40*M.Site.sz x:=by
 unfold M.Site.cnt
 simp only [M.Site.sz]
 have:=M.aAR.fG x.Files
 omega
theorem M.aIC.fG (xs:List M.Site):aG M.Site.cnt xs≤40*((xs.length+aG M.Site.sz xs)):=mV (fun x _=>M.Site.fG x)
theorem M.aO.fG (x:M.aO):M.aO.cnt x≤40:=by
 unfold M.aO.cnt
 omega
theorem M.aBi.fG (xs:List M.aO):aG M.aO.cnt xs≤40*(xs.length):=Nat.le_trans (aD8 (fun x _=>M.aO.fG x)) (by omega)
theorem M.Server.fG (x:M.Server):M.Server.cnt x≤40+40*M.Server.sz x:=by
 unfold M.Server.cnt
 simp only [M.Server.sz,M.aE.sz]
 have:=M.aFF.fG x.aE.Items
 have:=M.aBi.fG x.aO
 have:=M.aB7.fG x.Changes
 omega
theorem M.aCk.fG (xs:List M.Server):aG M.Server.cnt xs≤40*((xs.length+aG M.Server.sz xs)):=mV (fun x _=>M.Server.fG x)
theorem M.World.aKu (x:M.World):M.World.aJy x≤40*M.World.sz x:=by
 unfold M.World.aJy
 simp only [M.World.sz,M.aF.sz,M.aW.sz,M.Channel.sz]
 have:=M.aCj.fG x.aF.Buckets
 have:=M.aIF.fG x.Pages
 have:=M.aIK.fG x.Locks.Locks
 have:=M.aIj.fG x.Channel.Mails
 have:=M.aIC.fG x.Sites
 have:=M.aCk.fG x.Servers
 omega
theorem M.bJ.aKu (x:M.bJ):M.bJ.aJy x≤40*M.bJ.sz x:=by
 unfold M.bJ.aJy
 simp only [M.bJ.sz,M.Machine.sz]
 have:=M.aBp.fG x.aM
 have:=M.aDJ.fG x.Machine.Script
 have:=M.aJz.fG x.Machine.Regs
 omega
end Go.Proofs.YtnhpbpnhmapeeaaGreat.gen
