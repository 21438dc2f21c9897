/-
  Helper text. No conditions.
-/
import Derived.Test.YtidhkhdnjonjfaaGreatReadNotePq1
set_option linter.unusedVariables false
set_option linter.unusedSimpArgs false
namespace Go.Proofs.YtidhkhdnjonjfaaGreat.gen
open Go Go.Sh
open Go.IntKind (i64)
theorem yP : ∀(j n:Nat),n<2^(7*(j+1))→(uv n).length≤j+1
 | 0,n,h=>by
  rw [aEX (by simpa using h)];simp
 | j+1,n,h=>by
  by_cases h1:n<128
  ·rw [aEX h1];simp
  ·rw [aH3 h1,qJ]
   have e:2^(7*(j+1+1))=2^(7*(j+1))*128:=by rw [show 7*(j+1+1)=7*(j+1)+7 from by omega,Nat.pow_add]
   have:=yP j (n/128) (by rw [e] at h;omega)
   omega
theorem aAd {n:Nat} (h:n≤1000000000000):(uv n).length≤6:=yP 5 n (Nat.lt_of_le_of_lt h (by decide))
theorem aBB (n:Nat):1≤(uv n).length:=by
 by_cases h:n<128
 ·rw [aEX h];simp
 ·rw [aH3 h];simp
theorem aCs : ∀(n:Nat) (x:Int),x∈uv n→0≤x∧x≤255:=by
 intro n
 induction n using Nat.strongRecOn with
 | _ n ih =>
  intro x hx
  by_cases h:n<128
  ·rw [aEX h,List.mem_singleton] at hx;subst hx;omega
  ·rw [aH3 h,List.mem_cons] at hx
   rcases hx with rfl | hx
   ·omega
   ·exact ih (n/128) (by omega) x hx
def aFt (b:List Int) (a:Nat):Nat→Nat→Nat→Int×Int×Bool
 | 0,_,_=>(0,0,false)
 | j+1,k,n=>match b[a+k]? with
  | none=>(0,0,false)
  | some x=>if x.toNat<128 then (if (decide (x.toNat=0)&&decide (0<k))||decide (1000000000000<n+x.toNat%128*2^(7*k)) then (0,0,false) else (((n+x.toNat%128*2^(7*k):Nat):Int),((a+k+1:Nat):Int),true)) else aFt b a j (k+1) (n+x.toNat%128*2^(7*k))
def nUv (b:List Int) (p:Int):Int×Int×Bool:=if p<0 then (0,0,false) else aFt b p.toNat 6 0 0
theorem aDR {k:Nat} (h:k<6):2^(7*k)≤34359738368:=Nat.pow_le_pow_right (n:=2) (by decide) (show 7*k≤35 by omega)
theorem aJY {k n x:Nat} (hn:n<2^(7*k)):n+x%128*2^(7*k)<2^(7*(k+1)):=by
 have e:2^(7*(k+1))=2^(7*k)*128:=by rw [show 7*(k+1)=7*k+7 from by omega,Nat.pow_add]
 have h1:x%128≤127:=by omega
 have h2:x%128*2^(7*k)≤127*2^(7*k):=Nat.mul_le_mul_right _ h1
 rw [e]
 omega
theorem aKp {n x k:Nat} (h:n<2^k):n|||x*2^k=n+x*2^k:=by
 have:=Nat.two_pow_add_eq_or_of_lt h x
 rw [Nat.mul_comm x,Nat.or_comm,←this,Nat.add_comm]
theorem aG3 {k x:Nat} (hk:k<6):i64.wrap (((x%128:Nat):Int)*2^(min (i64.wrap (7*(k:Int))).toNat IntKind.i64.bits))=((x%128*2^(7*k):Nat):Int):=by
 have hp:=aDR hk
 have h1:x%128≤127:=by omega
 have h2:x%128*2^(7*k)≤127*2^(7*k):=Nat.mul_le_mul_right _ h1
 have e:min (i64.wrap (7*(k:Int))).toNat IntKind.i64.bits=7*k:=by
  rw [bS (by omega) (by omega),show IntKind.i64.bits=64 from rfl]
  omega
 rw [e,show (((x%128:Nat):Int)*2^(7*k))=((x%128*2^(7*k):Nat):Int) from by rw [Int.natCast_mul,Int.natCast_pow];rfl]
 exact bS (by omega) (by omega)
theorem uvS {n k x:Nat} (hk:k<6) (hx:x≤255) (hn:n<2^(7*k)):(i64.wrap (BitVec.ofInt (IntKind.i64.bits) (n:Int)|||BitVec.ofInt (IntKind.i64.bits) (i64.wrap ((i64.wrap (BitVec.ofInt (IntKind.i64.bits) (i64.wrap (x:Int))&&&BitVec.ofInt (IntKind.i64.bits) 127).toNat)*2^(min (i64.wrap (7*(k:Int))).toNat IntKind.i64.bits)))).toNat)=((n+x%128*2^(7*k):Nat):Int):=by
 have hp:=aDR hk
 have h1:x%128≤127:=by omega
 have h2:x%128*2^(7*k)≤127*2^(7*k):=Nat.mul_le_mul_right _ h1
 have e:=aER (n:=x) (m:=127) (by omega) (by omega)
 rw [aKo] at e
 rw [bS (n:=(x:Int)) (by omega) (by omega),show ((127:Int))=((127:Nat):Int) from rfl,e,aG3 hk,aGN (by omega) (by omega),aKp hn]
theorem uvI {n k x:Nat} (hk:k<6) (hx:x≤255) (hn:n<2^(7*k)):(i64.wrap ((n:Int)+(i64.wrap ((Int.tmod (i64.wrap (x:Int)) 128)*2^(min (i64.wrap (7*(k:Int))).toNat IntKind.i64.bits)))))=((n+x%128*2^(7*k):Nat):Int):=by
 have hp:=aDR hk
 have h1:x%128≤127:=by omega
 have h2:x%128*2^(7*k)≤127*2^(7*k):=Nat.mul_le_mul_right _ h1
 have e:Int.tmod (x:Int) 128=((x%128:Nat):Int):=by
  rw [Int.tmod_eq_emod_of_nonneg (by omega)];omega
 rw [bS (n:=(x:Int)) (by omega) (by omega),e,aG3 hk,←Int.natCast_add]
 exact bS (by omega) (by omega)
theorem aKI {b:List Int} (hb:okB b) {k:Nat} (h:k<b.length) : ∃x:Nat,b[k]=(x:Int)∧x≤255:=by
 have:=hb.2 _ (qG h)
 exact ⟨b[k].toNat,by omega,by omega⟩
theorem rdS {b:List Int} (hb:okB b) (hl:b.length≤1048576) (a:Nat) (ha:(a:Int)≤9223372036854775807) : ∀(j k n m:Nat),j+k=6→n<2^(7*k)→j<m→cG b (a:Int) m (n:Int) (k:Int)=some (aFt b a j k n)
 | _,_,_,0,_,_,h=>by omega
 | 0,k,n,m+1,hk,_,_=>by
  simp only [cG]
  rw [if_neg (by simp;omega)]
  rfl
 | j+1,k,n,m+1,hk,hn,hm=>by
  have h6:k<6:=by omega
  simp only [cG]
  rw [if_pos (by simp;omega),if_neg (by simp),bS (n:=(b.length:Int)-(k:Int)) (by omega) (by omega)]
  by_cases hlt:a+k<b.length
  ·obtain ⟨x,ex,hx⟩:=aKI hb hlt
   rw [if_neg (by simp;omega),show ((a:Int)+(k:Int))=((a+k:Nat):Int) from by omega,bS (n:=((a+k:Nat):Int)) (by omega) (by omega),aF hlt,qA,ex,bR (by omega),bR (by omega),if_pos (by rw [bS (by omega) (by omega)];simp;omega)]
   rw [uvS h6 hx hn,bS (n:=(x:Int)) (by omega) (by omega)]
   unfold aFt
   rw [qF hlt,ex]
   dsimp only
   rw [qH]
   have ih:=rdS hb hl a ha j (k+1) (n+x%128*2^(7*k)) m (by omega) (aJY hn) (by omega)
   by_cases h1:x<128
   ·rw [if_pos (by simp;omega),if_pos h1]
    by_cases h2:x=0
    ·rw [if_pos (by simp [h2])]
     by_cases h3:0<k
     ·rw [if_pos (by simp;omega),if_pos (by simp [h2,h3])]
     ·rw [if_neg (by simp;omega)]
      by_cases h4:1000000000000<n+x%128*2^(7*k)
      ·rw [if_pos (by rw [qL];omega),if_pos (by rw [Bool.or_eq_true,qL];exact .inr h4)]
      ·rw [if_neg (by rw [qL];omega),if_neg (by rw [Bool.or_eq_true,qM,qL,qL,qL];omega)]
    ·rw [if_neg (by simp;omega)]
     by_cases h4:1000000000000<n+x%128*2^(7*k)
     ·rw [if_pos (by rw [qL];omega),if_pos (by rw [Bool.or_eq_true,qL];exact .inr h4)]
     ·rw [if_neg (by rw [qL];omega),if_neg (by rw [Bool.or_eq_true,qM,qL,qL,qL];omega)]
   ·rw [if_neg (by simp;omega),if_neg h1]
    exact ih
  ·rw [if_pos (by simp;omega)]
   unfold aFt
   rw [qW (by omega)]
theorem iK {b:List Int} {p:Int} (hb:okB b) (hl:b.length≤1048576) (hp:inI p):cY b p=some (nUv b p):=by
 unfold cY nUv
 by_cases h:p<0
 ·have e : ∀m,cG b p (m+1) 0 0=some (0,0,false):=fun m=>by
   simp only [cG]
   rw [if_pos (by decide),if_pos (by simpa using h)]
  rw [if_pos h]
  exact e 18446744073709551615
 ·rw [if_neg h]
  obtain ⟨a,rfl⟩:=Int.eq_ofNat_of_zero_le (show 0≤p by omega)
  exact rdS hb hl a hp.2 6 0 0 fuel rfl (by decide) (by unfold fuel;omega)
theorem rdI {b:List Int} (hb:okB b) (hl:b.length≤1048576) (a:Nat) (ha:a<b.length) : ∀(j k n m:Nat),j+k=6→n<2^(7*k)→j<m→dX b (a:Int) m (n:Int) (k:Int)=some (aFt b a j k n)
 | _,_,_,0,_,_,h=>by omega
 | 0,k,n,m+1,hk,_,_=>by
  simp only [dX]
  rw [if_neg (by simp;omega)]
  rfl
 | j+1,k,n,m+1,hk,hn,hm=>by
  have h6:k<6:=by omega
  simp only [dX]
  rw [if_pos (by simp;omega),show ((a:Int)+(k:Int))=((a+k:Nat):Int) from by omega,bS (n:=((a+k:Nat):Int)) (by omega) (by omega)]
  by_cases hlt:a+k<b.length
  ·obtain ⟨x,ex,hx⟩:=aKI hb hlt
   rw [if_pos (by simp;omega),aF hlt,qA,ex,bR (by omega),bR (by omega),if_pos (by rw [bS (by omega) (by omega)];simp;omega)]
   rw [uvI h6 hx hn,bS (n:=(x:Int)) (by omega) (by omega)]
   unfold aFt
   rw [qF hlt,ex]
   dsimp only
   rw [qH]
   have ih:=rdI hb hl a ha j (k+1) (n+x%128*2^(7*k)) m (by omega) (aJY hn) (by omega)
   by_cases h1:x<128
   ·rw [if_pos (by simp;omega),if_pos h1]
    by_cases h3:0<k
    ·rw [if_pos (by simp;omega)]
     by_cases h2:x=0
     ·rw [if_pos (by simp [h2]),if_pos (by simp [h2,h3])]
     ·rw [if_neg (by simp;omega)]
      by_cases h4:1000000000000<n+x%128*2^(7*k)
      ·rw [if_pos (by rw [qL];omega),if_pos (by rw [Bool.or_eq_true,qL];exact .inr h4)]
      ·rw [if_neg (by rw [qL];omega),if_neg (by rw [Bool.or_eq_true,qM,qL,qL,qL];omega)]
    ·rw [if_neg (by simp;omega)]
     by_cases h4:1000000000000<n+x%128*2^(7*k)
     ·rw [if_pos (by rw [qL];omega),if_pos (by rw [Bool.or_eq_true,qL];exact .inr h4)]
     ·rw [if_neg (by rw [qL];omega),if_neg (by rw [Bool.or_eq_true,qM,qL,qL,qL];omega)]
   ·rw [if_neg (by simp;omega),if_neg h1]
    exact ih
  ·rw [if_neg (by simp;omega)]
   unfold aFt
   rw [qW (by omega)]
theorem hY {b:List Int} {p:Int} (hb:okB b) (hl:b.length≤1048576):cZ b p=some (nUv b p):=by
 unfold cZ nUv
 by_cases h:p<0
 ·rw [if_pos h,if_pos (by simpa using h)]
 ·rw [if_neg h,if_neg (by simpa using h)]
  obtain ⟨a,rfl⟩:=Int.eq_ofNat_of_zero_le (show 0≤p by omega)
  rw [qH]
  by_cases h1:a<b.length
  ·rw [if_neg (by simp;omega)]
   exact rdI hb hl a h1 6 0 0 fuel rfl (by decide) (by unfold fuel;omega)
  ·rw [if_pos (by simp;omega)]
   unfold aFt
   rw [qW (by omega)]
theorem aIK (b:List Int) (a:Nat) : ∀(j k n:Nat),(aFt b a j k n).2.2=false→aFt b a j k n=(0,0,false)
 | 0,_,_,_=>rfl
 | j+1,k,n,h=>by
  unfold aFt at h ⊢
  cases e:b[a+k]? with
  | none=>rfl
  | some x =>
   rw [e] at h
   dsimp only at h ⊢
   split at h
   ·split at h
    ·rename_i h1 h2;rw [if_pos h1,if_pos h2]
    ·cases h
   ·rename_i h1
    rw [if_neg h1]
    exact aIK b a j (k+1) _ h
theorem aL1 {b:List Int} {p:Int} (h:(nUv b p).2.2=false):nUv b p=(0,0,false):=by
 unfold nUv at h ⊢
 split
 ·rfl
 ·rename_i h1
  rw [if_neg h1] at h
  exact aIK b _ 6 0 0 h
theorem drop_cons {b:List Int} {i:Nat} {x:Int} {r:List Int} (h:b.drop i=x::r):b[i]? = some x∧b.drop (i+1)=r:=by
 constructor
 ·have:=List.head?_drop (l:=b) (i:=i)
  rw [h] at this
  simpa using this.symm
 ·rw [←List.drop_drop,h];rfl
theorem aHJ (b:List Int) (a:Nat) : ∀(j k n m:Nat) (r:List Int),b.drop (a+k)=uv m++r→(uv m).length≤j→n+m*2^(7*k)≤1000000000000→(k=0∨0<m)→aFt b a j k n=(((n+m*2^(7*k):Nat):Int),((a+k+(uv m).length:Nat):Int),true)
 | 0,k,n,m,r,_,h,_,_=>by have:=aBB m;omega
 | j+1,k,n,m,r,hd,hl,hm,hk=>by
  unfold aFt
  by_cases h:m<128
  ·rw [aEX h] at hd ⊢
   rw [(drop_cons hd).1]
   dsimp only
   rw [qH,if_pos h,Nat.mod_eq_of_lt h,if_neg (by rw [Bool.or_eq_true,qM,qL,qL,qL];omega)]
   rfl
  ·rw [aH3 h] at hd hl ⊢
   rw [List.cons_append] at hd
   obtain ⟨h1,h2⟩:=drop_cons hd
   rw [h1]
   dsimp only
   rw [qH,if_neg (by omega),show (m%128+128)%128=m%128 from by omega]
   have e:2^(7*(k+1))=128*2^(7*k):=by rw [show 7*(k+1)=7+7*k from by omega,Nat.pow_add]
   have e2:n+m%128*2^(7*k)+m/128*2^(7*(k+1))=n+m*2^(7*k):=by
    rw [e,←Nat.mul_assoc,Nat.add_assoc,←Nat.add_mul]
    congr 2
    omega
   rw [qJ] at hl ⊢
   have ih:=aHJ b a j (k+1) (n+m%128*2^(7*k)) (m/128) r h2 (by omega) (by rw [e2];exact hm) (.inr (by omega))
   rw [ih,e2]
   congr 2
   omega
theorem aGR {b:List Int} {a m:Nat} {r:List Int} (h:b.drop a=uv m++r) (hm:m≤1000000000000):nUv b (a:Int)=((m:Int),((a+(uv m).length:Nat):Int),true):=by
 unfold nUv
 rw [if_neg (by omega),qH,aHJ b a 6 0 0 m r h (aAd hm) (by simpa using hm) (.inl rfl)]
 simp
theorem aHN {b:List Int} (hb:okB b) (a:Nat) : ∀(j k n:Nat) (v q:Int),aFt b a j k n=(v,q,true) → ∃m e:Nat,v=((n+m*2^(7*k):Nat):Int)∧q=(e:Int)∧n+m*2^(7*k)≤1000000000000∧e≤b.length∧a+k+(uv m).length=e∧b.drop (a+k)=uv m++b.drop e∧(k=0∨0<m)
 | 0,_,_,_,_,h=>by cases h
 | j+1,k,n,v,q,h=>by
  unfold aFt at h
  by_cases hlt:a+k<b.length
  ·obtain ⟨x,ex,hx⟩:=aKI hb hlt
   have hd:b.drop (a+k)=(x:Int)::b.drop (a+k+1):=by rw [qU hlt,ex]
   rw [qF hlt,ex] at h
   dsimp only at h
   rw [qH] at h
   by_cases h1:x<128
   ·rw [if_pos h1,Nat.mod_eq_of_lt h1] at h
    split at h
    ·cases h
    ·rename_i h2
     rw [Bool.or_eq_true,qM,qL,qL,qL] at h2
     simp only [qY] at h
     refine ⟨x,a+k+1,h.1.symm,h.2.1.symm,by omega,by omega,by rw [aEX h1];rfl,by rw [aEX h1];exact hd,by omega⟩
   ·rw [if_neg h1] at h
    obtain ⟨m,e,e1,e2,e3,e4,e5,e6,e7⟩:=aHN hb a j (k+1) _ v q h
    have hm:0<m:=by omega
    have ee:2^(7*(k+1))=128*2^(7*k):=by rw [show 7*(k+1)=7+7*k from by omega,Nat.pow_add]
    have e8:n+x%128*2^(7*k)+m*2^(7*(k+1))=n+(m*128+x%128)*2^(7*k):=by
     rw [ee,←Nat.mul_assoc,Nat.add_assoc,←Nat.add_mul,Nat.add_comm (x%128)]
    have hu:uv (m*128+x%128)=(x:Int)::uv m:=by
     rw [aH3 (by omega),show (m*128+x%128)/128=m from by omega,show (m*128+x%128)%128+128=x from by omega]
    rw [e8] at e1 e3
    refine ⟨m*128+x%128,e,e1,e2,e3,e4,by rw [hu,qJ];omega,by rw [hu,hd,List.cons_append];exact congrArg _ e6,.inr (by omega)⟩
  ·rw [qW (by omega)] at h
   cases h
theorem aEe {b:List Int} {p v q:Int} (hb:okB b) (h:nUv b p=(v,q,true)) : ∃a m e:Nat,p=(a:Int)∧v=(m:Int)∧q=(e:Int)∧m≤1000000000000∧e≤b.length∧a+(uv m).length=e∧b.drop a=uv m++b.drop e:=by
 unfold nUv at h
 split at h
 ·cases h
 ·obtain ⟨m,e,e1,e2,e3,e4,e5,e6,_⟩:=aHN hb p.toNat 6 0 0 v q h
  simp only [Nat.mul_zero,Nat.pow_zero,Nat.mul_one,Nat.zero_add,Nat.add_zero] at e1 e3 e5 e6
  exact ⟨p.toNat,m,e,by omega,e1,e2,e3,e4,e5,e6⟩
def nRb (b:List Int) (p c:Int):List Int×Int×Bool:=if (nUv b p).2.2=true then (if (nUv b p).1>c then (([]:List Int),0,false) else if (nUv b p).1>(b.length:Int)-(nUv b p).2.1 then (([]:List Int),0,false) else ((b.drop (nUv b p).2.1.toNat).take (nUv b p).1.toNat,(nUv b p).2.1+(nUv b p).1,true)) else (([]:List Int),0,false)
theorem aKL {b:List Int} (h:okB b) (i j:Nat):okB ((b.drop i).take j):=⟨Nat.le_trans (by rw [qS,qT];omega) h.1,fun x hx=>h.2 x (List.mem_of_mem_drop (List.mem_of_mem_take hx))⟩
theorem jY {b:List Int} {p c:Int} (hb:okB b) (hl:b.length≤1048576) (hp:inI p):cE b p c=some (nRb b p c):=by
 unfold cE nRb
 rw [iK hb hl hp,qA]
 cases h:(nUv b p).2.2 with
 | false=>rfl
 | true =>
  obtain ⟨a,m,e,e1,e2,e3,e4,e5,e6,e7⟩:=aEe hb (show nUv b p=((nUv b p).1,(nUv b p).2.1,true) from by rw [←h])
  rw [e2,e3]
  simp only [qB,qD,if_false,if_true]
  by_cases h1:(m:Int)>c
  ·rw [if_pos (by simpa using h1),if_pos h1]
  ·rw [if_neg (by simpa using h1),if_neg h1,bS (n:=(b.length:Int)-(e:Int)) (by omega) (by omega)]
   by_cases h2:(m:Int)>(b.length:Int)-(e:Int)
   ·rw [if_pos (by simpa using h2),if_pos h2]
   ·rw [if_neg (by simpa using h2),if_neg h2,bS (n:=(e:Int)+(m:Int)) (by omega) (by omega)]
    have hs : ∀(α:Type) (xs:List α),xs.length=b.length→aFd xs (e:Int) ((e:Int)+(m:Int))=some ((xs.take ((e:Int)+(m:Int)).toNat).drop (e:Int).toNat):=fun α xs hx=>by
     unfold aFd
     rw [if_pos ⟨by omega,by omega,by omega⟩]
    have hd:List.drop (e:Int).toNat (List.take ((e:Int)+(m:Int)).toNat b)=List.take m (List.drop e b):=by
     rw [qH,show ((e:Int)+(m:Int)).toNat=e+m from by omega,List.drop_take]
     congr 1
     omega
    rw [hs _ b rfl,qA,hd,qH,qH]
    have hk:(List.take m (List.drop e b)).length≤1048576:=by rw [qS,qT];omega
    rw [aKx (by omega) (by omega),qA]
theorem kJ {b:List Int} {p c:Int} (hb:okB b) (hl:b.length≤1048576):cD b p c=some (nRb b p c):=by
 unfold cD nRb
 rw [hY hb hl,qA]
 cases h:(nUv b p).2.2 with
 | false=>rfl
 | true =>
  obtain ⟨a,m,e,e1,e2,e3,e4,e5,e6,e7⟩:=aEe hb (show nUv b p=((nUv b p).1,(nUv b p).2.1,true) from by rw [←h])
  rw [e2,e3]
  simp only [qB,qD,if_false,if_true]
  by_cases h1:(m:Int)>c
  ·rw [if_pos (by simpa using h1),if_pos h1]
  ·rw [if_neg (by simpa using h1),if_neg h1,bS (n:=(b.length:Int)-(e:Int)) (by omega) (by omega)]
   by_cases h2:(m:Int)>(b.length:Int)-(e:Int)
   ·rw [if_pos (by simpa using h2),if_pos h2]
   ·rw [if_neg (by simpa using h2),if_neg h2,bS (n:=(e:Int)+(m:Int)) (by omega) (by omega)]
    have hs : ∀(α:Type) (xs:List α),xs.length=b.length→aFd xs (e:Int) ((e:Int)+(m:Int))=some ((xs.take ((e:Int)+(m:Int)).toNat).drop (e:Int).toNat):=fun α xs hx=>by
     unfold aFd
     rw [if_pos ⟨by omega,by omega,by omega⟩]
    have hd:List.drop (e:Int).toNat (List.take ((e:Int)+(m:Int)).toNat b)=List.take m (List.drop e b):=by
     rw [qH,show ((e:Int)+(m:Int)).toNat=e+m from by omega,List.drop_take]
     congr 1
     omega
    rw [hs _ b rfl,qA,hd,qH,qH]
    have hk:(List.take m (List.drop e b)).length≤1048576:=by rw [qS,qT];omega
    unfold kH
    rw [aKx (by omega) (by omega),qA,qA]
theorem aL5 {b:List Int} {p c:Int} (h:(nRb b p c).2.2=false):nRb b p c=(([]:List Int),0,false):=by
 unfold nRb at h ⊢
 split
 ·rename_i h1
  rw [if_pos h1] at h
  split
  ·rfl
  ·rename_i h2
   rw [if_neg h2] at h
   split
   ·rfl
   ·rename_i h3
    rw [if_neg h3] at h
    cases h
 ·rfl
theorem aI0 {b s:List Int} {p c q:Int} (hb:okB b) (h:nRb b p c=(s,q,true)) : ∃a e:Nat,p=(a:Int)∧q=(e:Int)∧(s.length:Int)≤c∧e≤b.length∧s.length≤1000000000000∧a+(uv s.length).length+s.length=e∧b.drop a=uv s.length++(s++b.drop e)∧okB s:=by
 unfold nRb at h
 split at h
 ·rename_i h0
  obtain ⟨a,m,e,e1,e2,e3,e4,e5,e6,e7⟩:=aEe hb (show nUv b p=((nUv b p).1,(nUv b p).2.1,true) from by rw [←h0])
  rw [e2,e3] at h
  split at h
  ·cases h
  ·split at h
   ·cases h
   ·rename_i h1 h2
    simp only [qY,qH] at h
    have hs:s.length=m:=by rw [←h.1,qS,qT];omega
    refine ⟨a,e+m,e1,by omega,by omega,by omega,by omega,by rw [hs];omega,?_,by rw [←h.1];exact aKL hb _ _⟩
    rw [hs,e7,←h.1,←List.drop_drop,List.take_append_drop]
 ·cases h
theorem aIq {b s r:List Int} {a:Nat} {c:Int} (h:b.drop a=uv s.length++(s++r)) (hc:(s.length:Int)≤c) (hs:s.length≤1000000000000):nRb b (a:Int) c=(s,((a+(uv s.length).length+s.length:Nat):Int),true):=by
 have hlen:b.length-a=(uv s.length).length+(s.length+r.length):=by
  have:=congrArg List.length h
  simpa using this
 have:=aBB s.length
 unfold nRb
 rw [aGR h hs]
 simp only [if_true]
 rw [if_neg (by omega),if_neg (by omega),qH,qH,←List.drop_drop,h,List.drop_left,List.take_left]
 rfl
theorem aJ3 {b s:List Int} {p c d q:Int} (hb:okB b) (h:nRb b p c=(s,q,true)) (hd:(s.length:Int)≤d):nRb b p d=(s,q,true):=by
 obtain ⟨a,e,rfl,rfl,h1,h2,h3,h4,h5,_⟩:=aI0 hb h
 rw [aIq h5 hd h3,h4]
theorem yH (s:ByteArray) : ∀x∈aV s,0≤x∧x≤255:=by
 intro x hx
 unfold aV at hx
 obtain ⟨b,_,rfl⟩:=List.mem_map.1 hx
 have:=b.toNat_lt
 omega
theorem xD {l:List Int} (h : ∀x∈l,0≤x∧x≤255):aV (aN l)=l:=by
 unfold aV aN
 simp only [List.map_map]
 refine (List.map_congr_left fun x hx => ?_).trans (List.map_id l)
 have:=h x hx
 simp only [Function.comp_apply,UInt8.toNat_ofNat',id_eq]
 omega
theorem yI (l:List Int):(aN l).size=l.length:=by
 unfold aN
 show (l.map _).toArray.size=_
 simp
theorem aGk {L:Nat→Int→List Int→Option (List Int)} {b c:Int→Int}
  (h1 : ∀m (n:Nat) r,¬n<128→n<2^63→L (m+1) (n:Int) r=(app 1 r [b n]).bind fun _=>L m ((n/128:Nat):Int) (r++[b n]))
  (h2 : ∀m (n:Nat) r,n<128→L (m+1) (n:Int) r=(app 1 r [c n]).bind fun _=>some (r++[c n]))
  (hb : ∀n:Nat,n<2^63→b n=((n%128+128:Nat):Int)) (hc : ∀n:Nat,n<128→c n=(n:Int)) :
  ∀(j m n:Nat) (r:List Int),n<2^(7*(j+1))→n<2^63→j<m→r.length+(j+1)≤140737488355328→L m (n:Int) r=some (r++uv n)
 | j,0,n,r,_,_,hm,_=>by omega
 | 0,m+1,n,r,hn,hn2,hm,hr=>by
  have h:n<128:=by simpa using hn
  rw [h2 m n r h,iH (by simp;omega),qA,hc n h,aEX h]
 | j+1,m+1,n,r,hn,hn2,hm,hr=>by
  by_cases h:n<128
  ·rw [h2 m n r h,iH (by simp;omega),qA,hc n h,aEX h]
  ·have hd:n/128<2^(7*(j+1)):=by
    rw [Nat.div_lt_iff_lt_mul (by omega)]
    have e:2^(7*(j+1+1))=2^(7*(j+1))*128:=by rw [show 7*(j+1+1)=7*(j+1)+7 by omega,Nat.pow_add]
    omega
   rw [h1 m n r h hn2,iH (by simp;omega),qA,aGk h1 h2 hb hc j m (n/128) (r++[b n]) hd (by omega) (by omega) (by simp;omega),hb n hn2,aH3 h,qR]
   rfl
theorem u8n {n:Nat} (h:n<128):IntKind.u8.wrap (n:Int)=(n:Int):=by rw [wrap_u8];omega
theorem u8S {n:Nat} (h:n<2^63):IntKind.u8.wrap (i64.wrap (BitVec.ofInt (IntKind.i64.bits) (i64.wrap (BitVec.ofInt (IntKind.i64.bits) (n:Int)&&&BitVec.ofInt (IntKind.i64.bits) 127).toNat)|||BitVec.ofInt (IntKind.i64.bits) 128).toNat)=((n%128+128:Nat):Int):=by
 have h1:n%128≤127:=by omega
 have e:=aER (n:=n) (m:=127) (by omega) (by omega)
 rw [aKo] at e
 have e2:=aGN (n:=n%128) (m:=128) (by omega) (by omega)
 rw [aNy (by omega)] at e2
 rw [show ((127:Int))=((127:Nat):Int) from rfl,e,show ((128:Int))=((128:Nat):Int) from rfl,e2,wrap_u8]
 omega
theorem u8I {n:Nat} (h:n<2^63):IntKind.u8.wrap (i64.wrap ((Int.tmod (n:Int) 128)+128))=((n%128+128:Nat):Int):=by
 have e:Int.tmod (n:Int) 128=((n%128:Nat):Int):=by
  rw [Int.tmod_eq_emod_of_nonneg (by omega)];omega
 rw [e,bS (by omega) (by omega),wrap_u8]
 omega
theorem iU {r:List Int} {n:Nat} (hr:r.length≤16777216) (hn:n≤1000000000000):bZ r (n:Int)=some (r++uv n):=by
 have hi:inR (n:Int) 0 1000000000000=true:=by unfold inR;simp;omega
 unfold bZ
 rw [iH (by simp;omega),qA,pU,qA,hi,if_neg (by simp)]
 refine aGk (L:=dG) (b:=fun v=>IntKind.u8.wrap (i64.wrap (BitVec.ofInt (IntKind.i64.bits) (i64.wrap (BitVec.ofInt (IntKind.i64.bits) v&&&BitVec.ofInt (IntKind.i64.bits) 127).toNat)|||BitVec.ofInt (IntKind.i64.bits) 128).toNat)) (c:=fun v=>IntKind.u8.wrap v) (fun m n r h1 h2 => ?_) (fun m n r h1 => ?_) (fun n h=>u8S h) (fun n h=>u8n h) 8 fuel n r (by omega) (by omega) (by unfold fuel;omega) (by omega)
 ·simp only [dG]
  rw [if_pos (by simp;omega),uvf]
 ·simp only [dG]
  rw [if_neg (by simp;omega)]
theorem iV {r:List Int} {n:Nat} (hr:r.length≤16777216) (hn:n≤1000000000000):cQ r (n:Int)=some (r++uv n):=by
 have hi:inR (n:Int) 0 1000000000000=true:=by unfold inR;simp;omega
 unfold cQ kH
 rw [iH (by simp;omega),qA,qA,lJ,qA,hi,if_neg (by simp)]
 refine aGk (L:=dE) (b:=fun v=>IntKind.u8.wrap (i64.wrap ((Int.tmod v 128)+128))) (c:=fun v=>IntKind.u8.wrap v) (fun m n r h1 h2 => ?_) (fun m n r h1 => ?_) (fun n h=>u8I h) (fun n h=>u8n h) 8 fuel n r (by omega) (by omega) (by unfold fuel;omega) (by omega)
 ·simp only [dE]
  rw [if_pos (by simp;omega),uvt h2]
 ·simp only [dE]
  rw [if_neg (by simp;omega)]
def aAU (b:List Int):List Int:=uv b.length++b
theorem lG {r b:List Int} (hr:r.length≤8388608) (hb:b.length≤1000000):bQ r b=some (r++aAU b):=by
 have h9:=aAd (n:=b.length) (by omega)
 unfold bQ aAU
 rw [iU (by omega) (by omega),qA,iH (by rw [qE];omega),qA,qR]
theorem zE {r b:List Int} (hr:r.length≤8388608) (hb:b.length≤1000000):iF r b=some (r++aAU b):=by
 have h9:=aAd (n:=b.length) (by omega)
 unfold iF aAU
 rw [iV (by omega) (by omega),qA,iH (by rw [qE];omega),qA,qR]
def aCI {α:Type} (f:α→List Int):List α→List Int
 | []=>[]
 | x::l=>f x++aCI f l
theorem aGl {α:Type} {f:α→List Int} {c:Nat} : ∀ {l:List α},(∀x∈l,(f x).length≤c)→(aCI f l).length≤l.length*c
 | [],_=>by simp [aCI]
 | x::l,h=>by
  have h1:=h x (by simp)
  have h2:=aGl (l:=l) (fun y hy=>h y (by simp [hy]))
  simp only [aCI,qE,qJ,Nat.succ_mul]
  omega
theorem aDc {α:Type} {R:Type} {xs:List α} {f:α→List Int} {c B:Nat} {L:Nat→Int→List Int→Option R} {E:List Int→Option R} (hc : ∀x∈xs,(f x).length≤c)
  (h1 : ∀n (k:Nat) (hk:k<xs.length) q,q.length≤B→L (n+1) (k:Int) q=L n ((k+1:Nat):Int) (q++f xs[k]))
  (h2 : ∀n q,q.length≤B→L (n+1) (xs.length:Int) q=E q) :
  ∀(n k:Nat) (q:List Int),xs.length-k<n→k≤xs.length→q.length+(xs.length-k)*c≤B→L n (k:Int) q=E (q++aCI f (xs.drop k))
 | 0,_,_,h,_,_=>by omega
 | n+1,k,q,h,hk,hq=>by
  rcases Nat.lt_or_ge k xs.length with hlt | hge
  ·have hx:=hc _ (qG hlt)
   have e:(xs.length-k)*c=(xs.length-(k+1))*c+c:=by rw [←Nat.succ_mul];congr 1;omega
   rw [h1 n k hlt q (by omega),aDc hc h1 h2 n (k+1) (q++f xs[k]) (by omega) (by omega) (by rw [qE];omega),qU hlt,aCI,qR]
  ·have e:k=xs.length:=by omega
   subst e
   rw [h2 n q (by omega),qX,aCI,qV]
def enF (x:M.Field):List Int:=aAU (aV x.Name)++uv x.N.toNat
def enR (r:M.aA):List Int:=if bG r=true then uv r.Fields.length++aCI enF r.Fields else []
theorem aGQ {x:M.Field} (h:x.Name.size≤8∧0≤x.N∧x.N≤1000000000):(enF x).length≤14:=by
 have h1:=yP 0 x.Name.size (by omega)
 have h2:=yP 4 x.N.toNat (by omega)
 have h3:=aR x.Name
 unfold enF aAU
 simp only [qE,h3]
 omega
theorem aBK (r:M.aA):(enR r).length≤85:=by
 unfold enR
 split
 ·rename_i h
  obtain ⟨h6,hf⟩:=sM h
  have h1:=yP 0 r.Fields.length (by omega)
  have h2:=aGl (f:=enF) (fun x hx=>aGQ (hf x hx))
  rw [qE]
  have:r.Fields.length*14≤6*14:=Nat.mul_le_mul_right _ h6
  omega
 ·simp
theorem aBH {r:M.aA} (hr:r.ok):gT r=some (enR r):=by
 unfold gT enR
 rw [jR hr,qA]
 by_cases h:bG r=true
 ·obtain ⟨h6,hf⟩:=sM h
  have h1:=yP 0 r.Fields.length (by omega)
  rw [if_neg (by simp [h]),if_pos h,iU (by simp) (by omega),qA,List.nil_append]
  have:=aDc (xs:=r.Fields) (f:=enF) (c:=14) (B:=1000) (L:=dN r) (E:=some) (fun x hx=>aGQ (hf x hx)) (fun n k hk q hq => ?_) (fun n q _ => ?_) fuel 0 (uv r.Fields.length) (by unfold fuel;omega) (by omega) (by omega)
  ·rw [List.drop_zero] at this
   exact this
  ·have hx:=hf _ (qG hk)
   simp only [dN]
   have h9:=aAd (n:=r.Fields[k].Name.size) (by omega)
   have hs:=aR r.Fields[k].Name
   have hb:(aAU (aV r.Fields[k].Name)).length≤14:=by unfold aAU;rw [qE,hs];omega
   have e:=iU (r:=q++aAU (aV r.Fields[k].Name)) (n:=r.Fields[k].N.toNat) (by rw [qE];omega) (by omega)
   rw [Int.toNat_of_nonneg hx.2.1] at e
   rw [if_pos (bD hk),aF hk,qA,lG (by omega) (by omega),qA,e,qA,bR (by omega),qR]
   rfl
  ·simp only [dN]
   rw [if_neg (by rw [aJ];simp)]
 ·rw [if_pos (by simp [h]),if_neg h]
theorem yU {r:M.aA} (hr:r.ok):gG r=some (enR r):=by
 unfold gG enR
 rw [pO hr,qA]
 by_cases h:bG r=true
 ·obtain ⟨h6,hf⟩:=sM h
  have h1:=yP 0 r.Fields.length (by omega)
  rw [if_neg (by simp [h]),if_pos h,iV (by simp) (by omega),qA,List.nil_append]
  have:=aDc (xs:=r.Fields) (f:=enF) (c:=14) (B:=1000) (L:=dO r) (E:=some) (fun x hx=>aGQ (hf x hx)) (fun n k hk q hq => ?_) (fun n q _ => ?_) fuel 0 (uv r.Fields.length) (by unfold fuel;omega) (by omega) (by omega)
  ·rw [List.drop_zero] at this
   exact this
  ·have hx:=hf _ (qG hk)
   simp only [dO]
   have h9:=aAd (n:=r.Fields[k].Name.size) (by omega)
   have hs:=aR r.Fields[k].Name
   have hb:(aAU (aV r.Fields[k].Name)).length≤14:=by unfold aAU;rw [qE,hs];omega
   have e:=iV (r:=q++aAU (aV r.Fields[k].Name)) (n:=r.Fields[k].N.toNat) (by rw [qE];omega) (by omega)
   rw [Int.toNat_of_nonneg hx.2.1] at e
   rw [if_pos (bD hk),aF hk,qA,zE (by omega) (by omega),qA,e,qA,bR (by omega),qR]
   rfl
  ·simp only [dO]
   rw [if_neg (by rw [aJ];simp)]
 ·rw [if_pos (by simp [h]),if_neg h]
def be6 (v:Nat):List Int:=[((v/2^40%256:Nat):Int),((v/2^32%256:Nat):Int),((v/2^24%256:Nat):Int),((v/2^16%256:Nat):Int),((v/2^8%256:Nat):Int),((v%256:Nat):Int)]
def enK (k:M.Key):List Int:=if wS k=true then k.Kind::((if k.Kind==2 then [] else be6 (k.N+1000000000000).toNat)++aV k.Text) else []
theorem aDY {k:M.Key} (h:wS k=true):1≤k.Kind∧k.Kind≤3 ∧ -1000000000000≤k.N∧k.N≤1000000000000:=by
 unfold wS inR at h
 simp only [qM,qL] at h
 omega
theorem aBM (k:M.Key):(enK k).length≤19:=by
 unfold enK
 split
 ·rename_i h
  have:=aBk h
  have:=aR k.Text
  split<;>simp [be6]<;>omega
 ·simp
theorem aPf {k:M.Key} (v:Nat) (hv:v≤5) (h : -1000000000000≤k.N∧k.N≤1000000000000):Int.fdiv (i64.wrap (k.N+1000000000000)) (2^(min (i64.wrap (8*(v:Int))).toNat IntKind.i64.bits))=(((k.N+1000000000000).toNat/2^(8*v):Nat):Int):=by
 have e:min (i64.wrap (8*(v:Int))).toNat IntKind.i64.bits=8*v:=by
  rw [bS (by omega) (by omega),show IntKind.i64.bits=64 from rfl]
  omega
 rw [e,bS (by omega) (by omega)]
 obtain ⟨n,hn⟩:=Int.eq_ofNat_of_zero_le (show 0≤k.N+1000000000000 by omega)
 rw [hn,qH,Int.fdiv_eq_ediv_of_nonneg _ (by exact Int.le_of_lt (Int.pow_pos (by decide))),Int.natCast_ediv,Int.natCast_pow]
 rfl
theorem byS {k:M.Key} (v:Nat) (hv:v≤5) (h : -1000000000000≤k.N∧k.N≤1000000000000):(IntKind.u8.wrap (i64.wrap (BitVec.ofInt (IntKind.i64.bits) (Int.fdiv (i64.wrap (k.N+1000000000000)) (2^(min (i64.wrap (8*(v:Int))).toNat IntKind.i64.bits)))&&&BitVec.ofInt (IntKind.i64.bits) 255).toNat))=(((k.N+1000000000000).toNat/2^(8*v)%256:Nat):Int):=by
 have h1:(k.N+1000000000000).toNat/2^(8*v)≤(k.N+1000000000000).toNat:=Nat.div_le_self _ _
 have e:=aER (n:=(k.N+1000000000000).toNat/2^(8*v)) (m:=255) (by omega) (by omega)
 rw [aLo] at e
 rw [aPf v hv h,show ((255:Int))=((255:Nat):Int) from rfl,e,wrap_u8]
 omega
theorem byI {k:M.Key} (v:Nat) (hv:v≤5) (h : -1000000000000≤k.N∧k.N≤1000000000000):(IntKind.u8.wrap (Int.fdiv (i64.wrap (k.N+1000000000000)) (2^(min (i64.wrap (8*(v:Int))).toNat IntKind.i64.bits))))=(((k.N+1000000000000).toNat/2^(8*v)%256:Nat):Int):=by
 rw [aPf v hv h,wrap_u8]
 omega
theorem aCh {k:M.Key} (hk:k.ok):kB k=some (enK k):=by
 unfold kB enK
 rw [gZ hk,qA]
 by_cases h:wS k=true
 ·have ht:=aBk h
  have hb:=aDY h
  have hl:=aR k.Text
  have hw:IntKind.u8.wrap k.Kind=k.Kind:=by rw [wrap_u8];omega
  rw [if_neg (by simp [h]),if_pos h,aLz,hw]
  by_cases h2:(k.Kind==2)=true
  ·have h3 : ¬(k.Kind != 2)=true:=by simp [bne,h2]
   rw [if_pos h2]
   have e0 : ∀n r,r.length≤7→bX k (n+1) 5 r=some (r++aV k.Text):=by
    intro n r hr
    simp only [bX]
    rw [if_pos (by decide),if_neg h3,iH (by omega),qA]
   exact e0 (18446744073709551609+6) _ (by simp)
  ·have h3:(k.Kind != 2)=true:=by simp [bne,h2]
   rw [if_neg h2]
   have st : ∀n (v:Nat) r,r.length≤7→v≤5→bX k (n+1) (v:Int) r=bX k n ((v:Int)-1) (r++[(((k.N+1000000000000).toNat/2^(8*v)%256:Nat):Int)]):=by
    intro n v r hr hv
    simp only [bX]
    rw [if_pos (by simp),if_pos h3,if_pos (by rw [bS (by omega) (by omega)];simp;omega),iH (by simp;omega),qA,bS (n:=(v:Int)-1) (by omega) (by omega),byS v hv hb.2.2]
   have e7 : ∀n r,r.length≤7→bX k (n+1) (-1) r=some (r++aV k.Text):=by
    intro n r hr
    simp only [bX]
    rw [if_neg (by decide),iH (by omega),qA]
   refine (st (18446744073709551609+6) 5 _ (by simp) (by simp)).trans ((st (18446744073709551609+5) 4 _ (by simp) (by simp)).trans ((st (18446744073709551609+4) 3 _ (by simp) (by simp)).trans ((st (18446744073709551609+3) 2 _ (by simp) (by simp)).trans ((st (18446744073709551609+2) 1 _ (by simp) (by simp)).trans ((st (18446744073709551609+1) 0 _ (by simp) (by simp)).trans ((e7 _ _ (by simp)).trans ?_))))))
   simp [be6]
 ·rw [if_pos (by simp [h]),if_neg h]
theorem yA {k:M.Key} (hk:k.ok):iO k=some (enK k):=by
 unfold iO enK
 rw [kM hk,qA]
 by_cases h:wS k=true
 ·have ht:=aBk h
  have hb:=aDY h
  have hl:=aR k.Text
  have hw:IntKind.u8.wrap k.Kind=k.Kind:=by rw [wrap_u8];omega
  rw [if_neg (by simp [h]),if_pos h,hw]
  by_cases h2:(k.Kind==2)=true
  ·have h3 : ¬(k.Kind != 2)=true:=by simp [bne,h2]
   rw [if_pos h2,if_neg h3,iH (by simp;omega),qA]
   rfl
  ·have h3:(k.Kind != 2)=true:=by simp [bne,h2]
   rw [if_neg h2,if_pos h3,aLz]
   have st : ∀n (v:Nat) r,r.length≤7→v≤5→dC k (n+1) (v:Int) r=dC k n ((v:Int)-1) (r++[(((k.N+1000000000000).toNat/2^(8*v)%256:Nat):Int)]):=by
    intro n v r hr hv
    simp only [dC]
    rw [if_pos (by simp),if_pos (by rw [bS (by omega) (by omega)];simp;omega),iH (by simp;omega),qA,bS (n:=(v:Int)-1) (by omega) (by omega),byI v hv hb.2.2]
   have e7 : ∀n r,r.length≤7→dC k (n+1) (-1) r=some (r++aV k.Text):=by
    intro n r hr
    simp only [dC]
    rw [if_neg (by decide),iH (by omega),qA]
   refine (st (18446744073709551609+6) 5 _ (by simp) (by simp)).trans ((st (18446744073709551609+5) 4 _ (by simp) (by simp)).trans ((st (18446744073709551609+4) 3 _ (by simp) (by simp)).trans ((st (18446744073709551609+3) 2 _ (by simp) (by simp)).trans ((st (18446744073709551609+2) 1 _ (by simp) (by simp)).trans ((st (18446744073709551609+1) 0 _ (by simp) (by simp)).trans ((e7 _ _ (by simp)).trans ?_))))))
   simp [be6]
 ·rw [if_pos (by simp [h]),if_neg h]
theorem aAL : ∀ {a b:List Int},eqL sX a b=true↔a=b
 | [],[]=>by simp [eqL]
 | [],_::_=>by simp [eqL]
 | _::_,[]=>by simp [eqL]
 | x::xs,y::ys=>by
  have:=aAL (a:=xs) (b:=ys)
  simp only [eqL,qM,this,List.cons.injEq,sX,beq_iff_eq]
theorem aBd {b:List Int} (h : ∀x∈b,0≤x∧x≤255) : ∀x∈aAU b,0≤x∧x≤255:=fun x hx=>by
 unfold aAU at hx
 rcases List.mem_append.1 hx with hx | hx
 ·exact aCs _ x hx
 ·exact h x hx
theorem aE1 {α:Type} {f:α→List Int} : ∀ {l:List α},(∀x∈l,∀y∈f x,0≤y∧y≤255) → ∀y∈aCI f l,0≤y∧y≤255
 | [],_,_,hy=>by simp [aCI] at hy
 | x::l,h,y,hy=>by
  rcases List.mem_append.1 (show y∈f x++aCI f l from hy) with hy | hy
  ·exact h x (by simp) y hy
  ·exact aE1 (l:=l) (fun z hz=>h z (by simp [hz])) y hy
theorem aJz (x:M.Field) : ∀y∈enF x,0≤y∧y≤255:=fun y hy=>by
 unfold enF at hy
 rcases List.mem_append.1 hy with hy | hy
 ·exact aBd (yH _) y hy
 ·exact aCs _ y hy
theorem aKr (r:M.aA):okB (enR r):=⟨Nat.le_trans (aBK r) (by unfold maxLen;omega),fun y hy=>by
 unfold enR at hy
 split at hy
 ·rcases List.mem_append.1 hy with hy | hy
  ·exact aCs _ y hy
  ·exact aE1 (fun x _=>aJz x) y hy
 ·simp at hy⟩
theorem aJI (k:M.Key):okB (enK k):=⟨Nat.le_trans (aBM k) (by unfold maxLen;omega),fun y hy=>by
 unfold enK at hy
 split at hy
 ·rename_i h
  have hk:=aDY h
  rcases List.mem_cons.1 hy with rfl | hy
  ·omega
  ·rcases List.mem_append.1 hy with hy | hy
   ·split at hy
    ·simp at hy
    ·simp only [be6,List.mem_cons,List.not_mem_nil,or_false] at hy
     omega
   ·exact yH _ y hy
 ·simp at hy⟩
def aGb:M.Key:=(⟨0,0,(⟨#[]⟩:ByteArray)⟩:M.Key)
def mkK (c n:Int) (t:List Int):M.Key×Bool:=if wS (⟨c,n,aN t⟩:M.Key)=true then ((⟨c,n,aN t⟩:M.Key),true) else (aGb,false)
def chK (k:M.Key) (b:List Int):M.Key×Bool:=if eqL sX (enK k) b=true then (k,true) else (aGb,false)
def aHn (v x:Int):Int:=v*256+x
def aFR:List Int→M.Key×Bool
 | []=>(aGb,false)
 | c::t=>if c=2 then mkK c 0 t else if t.length<6 then (aGb,false) else mkK c ((t.take 6).foldl aHn 0-1000000000000) (t.drop 6)
theorem aM7 {t:List Int} (ht : ∀x∈t,0≤x∧x≤255) : ∀(v:Nat) (n:Nat),(v:Int)<2^n → ∃w:Nat,t.foldl aHn (v:Int)=(w:Int)∧(w:Int)<2^(n+8*t.length):=by
 induction t with
 | nil=>exact fun v n h=>⟨v,rfl,by simpa using h⟩
 | cons x t ih =>
  intro v n h
  have hx:=ht x (by simp)
  obtain ⟨w,e,hw⟩:=ih (fun y hy=>ht y (by simp [hy])) (v*256+x.toNat) (n+8) (by rw [Int.pow_add];omega)
  refine ⟨w,?_,by rw [qJ,show n+8*(t.length+1)=n+8+8*t.length from by omega];exact hw⟩
  rw [List.foldl_cons,←e]
  congr 1
  unfold aHn
  omega
theorem six {t:List Int} (h:6≤t.length) : ∃x1 x2 x3 x4 x5 x6 r,t=x1::x2::x3::x4::x5::x6::r:=by
 match t,h with
 | x1::x2::x3::x4::x5::x6::r,_=>exact ⟨x1,x2,x3,x4,x5,x6,r,rfl⟩
theorem aK7 {x1 x2 x3 x4 x5 x6:Int} (h1:0≤x1∧x1≤255) (h2:0≤x2∧x2≤255) (h3:0≤x3∧x3≤255) (h4:0≤x4∧x4≤255) (h5:0≤x5∧x5≤255) (h6:0≤x6∧x6≤255):be6 ([x1,x2,x3,x4,x5,x6].foldl aHn 0).toNat=[x1,x2,x3,x4,x5,x6]:=by
 simp only [List.foldl_cons,List.foldl_nil,aHn,be6]
 rw [show (2:Nat)^40=1099511627776 from rfl,show (2:Nat)^32=4294967296 from rfl,show (2:Nat)^24=16777216 from rfl,show (2:Nat)^16=65536 from rfl,show (2:Nat)^8=256 from rfl]
 simp only [List.cons.injEq,and_true]
 omega
theorem aNF {t:List Int} (ht : ∀x∈t,0≤x∧x≤255):chK (⟨2,0,aN t⟩:M.Key) (2::t)=mkK 2 0 t:=by
 unfold chK mkK enK
 by_cases h:wS (⟨2,0,aN t⟩:M.Key)=true
 ·rw [if_pos h,if_pos h,if_pos]
  rw [aAL]
  show 2::([]++aV (aN t))=_
  rw [xD ht];rfl
 ·rw [if_neg h,if_neg h,if_neg]
  rw [aAL]
  simp
theorem aMv {c:Int} {t:List Int} (hc:c≠2) (h6:6≤t.length) (ht : ∀x∈t,0≤x∧x≤255):chK (⟨c,(t.take 6).foldl aHn 0-1000000000000,aN (t.drop 6)⟩:M.Key) (c::t)=mkK c ((t.take 6).foldl aHn 0-1000000000000) (t.drop 6):=by
 unfold chK mkK enK
 by_cases h:wS (⟨c,(t.take 6).foldl aHn 0-1000000000000,aN (t.drop 6)⟩:M.Key)=true
 ·rw [if_pos h,if_pos h,if_pos]
  rw [aAL]
  obtain ⟨x1,x2,x3,x4,x5,x6,r,rfl⟩:=six h6
  have hr : ∀x∈r,0≤x∧x≤255:=fun x hx=>ht x (by simp [hx])
  show c::((if (c==2)=true then [] else be6 (([x1,x2,x3,x4,x5,x6].foldl aHn 0)-1000000000000+1000000000000).toNat)++aV (aN r))=_
  rw [if_neg (by simpa using hc),Int.sub_add_cancel,aK7 (ht x1 (by simp)) (ht x2 (by simp)) (ht x3 (by simp)) (ht x4 (by simp)) (ht x5 (by simp)) (ht x6 (by simp)),xD hr]
  rfl
 ·rw [if_neg h,if_neg h,if_neg]
  rw [aAL]
  simp
theorem aDw {c n:Int} {t:List Int} (hc:0≤c∧c≤255) (hn : -1000000000000≤n∧n≤1000000000000000) (ht:t.length≤maxLen):M.Key.ok (⟨c,n,aN t⟩:M.Key):=⟨by show inI c;unfold inI;omega,by show inI n;unfold inI;omega,by show (aN t).size≤_;rw [yI];exact ht⟩
theorem aOW {v:Nat} (h:v<2^48):i64.wrap ((v:Int)*2^(min (8:Int).toNat IntKind.i64.bits))=((v*256:Nat):Int):=by
 rw [show min (8:Int).toNat IntKind.i64.bits=8 from rfl,show ((v:Int)*2^8)=((v*256:Nat):Int) from by omega]
 exact bS (by omega) (by omega)
theorem stS {v x:Nat} (h:v<2^48) (hx:x≤255):(i64.wrap (BitVec.ofInt (IntKind.i64.bits) (i64.wrap ((v:Int)*2^(min (8:Int).toNat IntKind.i64.bits)))|||BitVec.ofInt (IntKind.i64.bits) (i64.wrap (x:Int))).toNat)=((v*256+x:Nat):Int):=by
 have e:=aKp (n:=x) (x:=v) (k:=8) (by omega)
 rw [aOW h,bS (n:=(x:Int)) (by omega) (by omega),aGN (by omega) (by omega),Nat.or_comm,show (256:Nat)=2^8 from rfl,e]
 omega
theorem stI {v x:Nat} (h:v<2^48) (hx:x≤255):(i64.wrap ((i64.wrap ((v:Int)*2^(min (8:Int).toNat IntKind.i64.bits)))+(i64.wrap (x:Int))))=((v*256+x:Nat):Int):=by
 rw [aOW h,bS (n:=(x:Int)) (by omega) (by omega),bS (by omega) (by omega)]
 omega
theorem dkS {b:List Int} {c:Int} (hb:okB b) (hl:b.length≤1048576) (hc:0≤c∧c≤255) (h7:7≤b.length) : ∀(j k v m:Nat),k+j=7→v<2^(8*(k-1))→1≤k→j<m→eR b c m (v:Int) (k:Int)=some (mkK c (((b.drop k).take j).foldl aHn (v:Int)-1000000000000) (b.drop 7))
 | _,_,_,0,_,_,_,h=>by omega
 | 0,k,v,m+1,hk,hv,h1,_=>by
  obtain rfl:k=7:=by omega
  simp only [eR]
  have hd:okB (b.drop 7):=⟨Nat.le_trans (by rw [qT];omega) hb.1,fun x hx=>hb.2 x (List.mem_of_mem_drop hx)⟩
  have hv2:(v:Int)<281474976710656:=by
   have:v<2^48:=hv
   omega
  have ok:=aDw (n:=(v:Int)-1000000000000) hc (by omega) hd.1
  rw [if_neg (by decide),show wK b 7=some (b.drop (7:Int).toNat) from by unfold wK;rw [if_pos ⟨by decide,by simpa using h7⟩],qA,show (7:Int).toNat=7 from rfl,uS hd.2,qA,bS (n:=c) (by omega) (by omega),bS (n:=(v:Int)-1000000000000) (by omega) (by omega),gZ ok,qA,List.take_zero,List.foldl_nil]
  unfold mkK
  cases wS (⟨c,(v:Int)-1000000000000,aN (b.drop 7)⟩:M.Key)<;>rfl
 | j+1,k,v,m+1,hk,hv,h1,hm=>by
  have hlt:k<b.length:=by omega
  obtain ⟨x,ex,hx⟩:=aKI hb hlt
  have hv2:v<2^40:=Nat.lt_of_lt_of_le hv (Nat.pow_le_pow_right (by decide) (by omega))
  have e8:2^(8*(k+1-1))=2^(8*(k-1))*256:=by rw [show 8*(k+1-1)=8*(k-1)+8 from by omega,Nat.pow_add]
  simp only [eR]
  rw [if_pos (by simp;omega),aF hlt,qA,ex,stS (by omega) hx,bR (by omega),dkS hb hl hc h7 j (k+1) (v*256+x) m (by omega) (by rw [e8];omega) (by omega) (by omega),qU hlt,ex,List.take_succ_cons,List.foldl_cons]
  congr 4
theorem aCe {b:List Int} (hb:okB b) (hl:b.length≤1048576):kA b=some (aFR b):=by
 unfold kA
 cases b with
 | nil=>rfl
 | cons c t =>
  have hc:=hb.2 c (by simp)
  have ht : ∀x∈t,0≤x∧x≤255:=fun x hx=>hb.2 x (by simp [hx])
  have hlt:t.length≤maxLen:=by have:=hb.1;rw [qJ] at this;omega
  have hl':t.length+1≤1048576:=hl
  rw [if_neg (by simp;omega),show idx (c::t) 0=some c from rfl,qA,bS (n:=c) (by omega) (by omega)]
  unfold aFR
  show _=some (if c=2 then mkK c 0 t else if t.length<6 then (aGb,false) else mkK c ((t.take 6).foldl aHn 0-1000000000000) (t.drop 6))
  by_cases h2:c=2
  ·subst h2
   rw [if_neg (by decide),if_pos rfl,show wK (2::t) 1=some t from by unfold wK;rw [if_pos ⟨by decide,by simp⟩];rfl,qA,show List.drop (1:Int).toNat ((2:Int)::t)=t from rfl,uS ht,qA,gZ (aDw (by omega) (by omega) hlt),qA]
   unfold mkK
   cases wS (⟨2,0,aN t⟩:M.Key)<;>rfl
  ·rw [if_pos (by simpa using h2),if_neg h2]
   by_cases h6:t.length<6
   ·rw [if_pos (by simp;omega),if_pos h6];rfl
   ·rw [if_neg (by simp;omega),if_neg h6]
    exact dkS hb hl hc (by simp;omega) 6 1 0 fuel rfl (by decide) (by omega) (by unfold fuel;omega)
theorem dkI {c:Int} {t:List Int} (hb:okB (c::t)) (hl:t.length+1≤1048576) (hc:0≤c∧c≤255) (h6:6≤t.length) : ∀(j k v m:Nat),k+j=6→v<2^(8*k)→j<m→eT (c::t) c m (v:Int) (k:Int)=some (chK (⟨c,((t.drop k).take j).foldl aHn (v:Int)-1000000000000,aN (t.drop 6)⟩:M.Key) (c::t))
 | _,_,_,0,_,_,h=>by omega
 | 0,k,v,m+1,hk,hv,_=>by
  obtain rfl:k=6:=by omega
  simp only [eT,show List.drop (1:Int).toNat (c::t)=t from rfl,show (6:Int).toNat=6 from rfl]
  have hd:okB (t.drop 6):=⟨Nat.le_trans (by rw [qT,qJ];omega) hb.1,fun x hx=>hb.2 x (List.mem_cons_of_mem _ (List.mem_of_mem_drop hx))⟩
  have hv2:(v:Int)<281474976710656:=by
   have:v<2^48:=hv
   omega
  have ok:=aDw (n:=(v:Int)-1000000000000) hc (by omega) hd.1
  rw [if_neg (by rw [qS];simp;omega),show wK t 6=some (t.drop 6) from by unfold wK;rw [if_pos ⟨by decide,by simpa using h6⟩];rfl,qA,uS hd.2,qA,bS (n:=c) (by omega) (by omega),bS (n:=(v:Int)-1000000000000) (by omega) (by omega),yA ok,qA,sD (aJI _),qA,List.take_zero,List.foldl_nil]
  unfold chK
  cases eqL sX (enK (⟨c,(v:Int)-1000000000000,aN (t.drop 6)⟩:M.Key)) (c::t)<;>rfl
 | j+1,k,v,m+1,hk,hv,hm=>by
  have hlt:k<t.length:=by omega
  have hlt6:k<(List.take 6 t).length:=by rw [qS];omega
  have hx':=hb.2 t[k] (List.mem_cons_of_mem _ (qG hlt))
  obtain ⟨x,ex⟩:=Int.eq_ofNat_of_zero_le hx'.1
  rw [ex] at hx'
  have hv2:v<2^40:=Nat.lt_of_lt_of_le hv (Nat.pow_le_pow_right (by decide) (by omega))
  have e8:2^(8*(k+1))=2^(8*k)*256:=by rw [show 8*(k+1)=8*k+8 from by omega,Nat.pow_add]
  simp only [eT,show List.drop (1:Int).toNat (c::t)=t from rfl,show (6:Int).toNat=6 from rfl]
  rw [if_pos (by rw [qL];omega),aF hlt6,qA,List.getElem_take,ex,stI (by omega) (by omega),bR (by omega),dkI hb hl hc h6 j (k+1) (v*256+x) m (by omega) (by rw [e8];omega) (by omega),qU hlt,ex,List.take_succ_cons,List.foldl_cons]
  congr 5
theorem aCc {b:List Int} (hb:okB b) (hl:b.length≤1048576):kL b=some (aFR b):=by
 unfold kL
 cases b with
 | nil=>rfl
 | cons c t =>
  have hc:=hb.2 c (by simp)
  have ht : ∀x∈t,0≤x∧x≤255:=fun x hx=>hb.2 x (by simp [hx])
  have hlt:t.length≤maxLen:=by have:=hb.1;rw [qJ] at this;omega
  have hl':t.length+1≤1048576:=hl
  rw [if_neg (by simp;omega),show idx (c::t) 0=some c from rfl,qA,bS (n:=c) (by omega) (by omega),show wK (c::t) 1=some t from by unfold wK;rw [if_pos ⟨by decide,by simp⟩];rfl,qA]
  simp only [show List.drop (1:Int).toNat (c::t)=t from rfl]
  unfold aFR
  show _=some (if c=2 then mkK c 0 t else if t.length<6 then (aGb,false) else mkK c ((t.take 6).foldl aHn 0-1000000000000) (t.drop 6))
  by_cases h2:c=2
  ·subst h2
   rw [if_neg (by decide),if_pos rfl,uS ht,qA,yA (aDw (by omega) (by omega) hlt),qA,sD (aJI _),qA,←aNF ht]
   unfold chK
   cases eqL sX (enK (⟨2,0,aN t⟩:M.Key)) (2::t)<;>rfl
  ·rw [if_pos (by simpa using h2),if_neg h2]
   by_cases h6:t.length<6
   ·rw [if_pos (by simp;omega),if_pos h6];rfl
   ·rw [if_neg (by simp;omega),if_neg h6,show aAp t 6=some (t.take 6) from by unfold aAp;rw [if_pos ⟨by decide,by simp;omega⟩];rfl,qA,←aMv h2 (by omega) ht]
    exact dkI hb hl' hc (by omega) 6 0 0 fuel rfl (by decide) (by unfold fuel;omega)
def aIJ (b:List Int):Nat→Int→List M.Field→Option (List M.Field×Int)
 | 0,p,acc=>some (acc,p)
 | j+1,p,acc=>if (nRb b p 8).2.2=true then (if (nUv b (nRb b p 8).2.1).2.2=true then aIJ b j (nUv b (nRb b p 8).2.1).2.1 (acc++[(⟨aN (nRb b p 8).1,(nUv b (nRb b p 8).2.1).1⟩:M.Field)]) else none) else none
def aEp (b:List Int):M.aA×Bool:=if (nUv b 0).2.2=true then (if (nUv b 0).1>6 then ((⟨([]:List M.Field)⟩:M.aA),false) else match aIJ b (nUv b 0).1.toNat (nUv b 0).2.1 [] with
 | none=>((⟨([]:List M.Field)⟩:M.aA),false)
 | some (fs,q)=>if (bG (⟨fs⟩:M.aA)&&(q==(b.length:Int)))=true then ((⟨fs⟩:M.aA),true) else ((⟨([]:List M.Field)⟩:M.aA),false)) else ((⟨([]:List M.Field)⟩:M.aA),false)
theorem aCL {e:Nat} {n:Nat} (h:e≤n) (hl:n≤1048576):inI (e:Int):=by unfold inI;omega
theorem aAe {b:List Int} {p c:Int} (hb:okB b) (h:(nRb b p c).2.2=true) : ∃(s:List Int) (a e:Nat),nRb b p c=(s,(e:Int),true)∧p=(a:Int)∧(s.length:Int)≤c∧e≤b.length∧s.length≤1000000000000∧a+(uv s.length).length+s.length=e∧b.drop a=uv s.length++(s++b.drop e)∧okB s:=by
 obtain ⟨a,e,h1,h2,h3⟩:=aI0 hb (show nRb b p c=((nRb b p c).1,(nRb b p c).2.1,true) from by rw [←h])
 exact ⟨_,a,e,by rw [←h2,←h],h1,h3⟩
theorem uT {b:List Int} {p:Int} (hb:okB b) (h:(nUv b p).2.2=true) : ∃a m e:Nat,nUv b p=((m:Int),(e:Int),true)∧p=(a:Int)∧m≤1000000000000∧e≤b.length∧a+(uv m).length=e∧b.drop a=uv m++b.drop e:=by
 obtain ⟨a,m,e,h1,h2,h3,h4⟩:=aEe hb (show nUv b p=((nUv b p).1,(nUv b p).2.1,true) from by rw [←h])
 exact ⟨a,m,e,by rw [←h2,←h3,←h],h1,h4⟩
theorem aE7 {s:List Int} {m:Nat} (hs:okB s) (hm:m≤1000000000000):M.Field.ok (⟨aN s,(m:Int)⟩:M.Field):=⟨by show (aN s).size≤_;rw [yI];exact hs.1,by show inI (m:Int);unfold inI;omega⟩
theorem aE2 {b:List Int} (hb:okB b) : ∀(j a:Nat) (acc fs:List M.Field) (q:Int),aIJ b j (a:Int) acc=some (fs,q)→a≤b.length → ∃(l:List M.Field) (e:Nat),fs=acc++l∧l.length=j∧q=(e:Int)∧e≤b.length∧b.drop a=aCI enF l++b.drop e ∧ ∀x∈l,M.Field.ok x
 | 0,a,acc,fs,q,h,ha=>by
  simp only [aIJ,qZ,qY] at h
  exact ⟨[],a,by rw [←h.1,qV],rfl,h.2.symm,ha,rfl,fun _ h=>absurd h (by simp)⟩
 | j+1,a,acc,fs,q,h,ha=>by
  simp only [aIJ] at h
  split at h
  ·rename_i h1
   obtain ⟨s,a1,e1,r1,r2,r3,r4,r5,r6,r7,r8⟩:=aAe hb h1
   obtain rfl:a=a1:=by omega
   rw [r1] at h
   dsimp only at h
   split at h
   ·rename_i h2
    obtain ⟨a2,m,e2,u1,u2,u3,u4,u5,u6⟩:=uT hb h2
    obtain rfl:e1=a2:=by omega
    rw [u1] at h
    dsimp only at h
    obtain ⟨l,e,g1,g2,g3,g4,g5,g6⟩:=aE2 hb j e2 _ fs q h u4
    refine ⟨(⟨aN s,(m:Int)⟩:M.Field)::l,e,by rw [g1,qR];rfl,by rw [qJ,g2],g3,g4,?_,fun x hx => ?_⟩
    ·rw [r7,u6,g5,aCI,enF,aAU,xD r8.2,qH]
     simp only [qR]
    ·rcases List.mem_cons.1 hx with rfl | hx
     ·exact aE7 r8 u3
     ·exact g6 x hx
   ·cases h
  ·cases h
def aSB (o:Option (List M.Field×Int)):M.aA×Int×Bool:=match o with
 | none=>((⟨([]:List M.Field)⟩:M.aA),0,false)
 | some (fs,q)=>((⟨fs⟩:M.aA),q,bG (⟨fs⟩:M.aA))
def aMq (b:List Int) (o:Option (List M.Field×Int)):M.aA×Bool:=match o with
 | none=>((⟨([]:List M.Field)⟩:M.aA),false)
 | some (fs,q)=>if eqL sX (enR (⟨fs⟩:M.aA)) b=true then ((⟨fs⟩:M.aA),true) else ((⟨([]:List M.Field)⟩:M.aA),false)
theorem aHK {acc:List M.Field} {n:Nat} (hl:acc.length≤n) (hn:n≤6) (h : ∀x∈acc,M.Field.ok x):M.aA.ok (⟨acc⟩:M.aA):=⟨⟨Nat.le_trans hl (by unfold maxLen;omega),h⟩⟩
theorem aHO {acc:List M.Field} {x:M.Field} (h : ∀x∈acc,M.Field.ok x) (hx:M.Field.ok x) : ∀y∈acc++[x],M.Field.ok y:=fun y hy=>by
 rcases List.mem_append.1 hy with hy | hy
 ·exact h y hy
 ·rw [List.mem_singleton.1 hy];exact hx
theorem aOZ {b:List Int} {x1:Int×Int×Bool} {N:Nat} (hb:okB b) (hl:b.length≤1048576) (hN:N≤6) (hx:x1.1=(N:Int)) : ∀(j k m:Nat) (p:Int) (acc:List M.Field),k+j=N→j<m→inI p→acc.length=k→(∀x∈acc,M.Field.ok x)→iN b x1 m p (k:Int) acc=some (aSB (aIJ b j p acc))
 | _,_,0,_,_,_,h,_,_,_=>by omega
 | 0,k,m+1,p,acc,hk,_,hp,ha,ho=>by
  simp only [iN]
  rw [hx,if_neg (by simp;omega),jR (aHK (n:=6) (by omega) (by omega) ho),qA]
  rfl
 | j+1,k,m+1,p,acc,hk,hm,hp,ha,ho=>by
  simp only [iN,aIJ]
  rw [hx,if_pos (by simp;omega),jY hb hl hp,qA]
  cases h1:(nRb b p 8).2.2 with
  | false=>rfl
  | true =>
   obtain ⟨s,a1,e1,r1,r2,r3,r4,r5,r6,r7,r8⟩:=aAe hb h1
   rw [r1]
   simp only [qB,qD,if_false,if_true]
   rw [iK hb hl (aCL r4 hl),qA]
   cases h2:(nUv b (e1:Int)).2.2 with
   | false=>rfl
   | true =>
    obtain ⟨a2,v,e2,u1,u2,u3,u4,u5,u6⟩:=uT hb h2
    rw [u1]
    simp only [qB,qD,if_false,if_true]
    rw [uS r8.2,qA,iH (by simp;omega),qA,bR (by omega)]
    exact aOZ hb hl hN hx j (k+1) m (e2:Int) _ (by omega) (by omega) (aCL u4 hl) (by simp [ha]) (aHO ho (aE7 r8 u3))
theorem aBN {b:List Int} (hb:okB b) (hl:b.length≤1048576):gS b=some (aEp b):=by
 unfold gS yE aEp
 rw [iK hb hl aJg,qA]
 cases h:(nUv b 0).2.2 with
 | false=>rfl
 | true =>
  obtain ⟨a,m,e,u1,u2,u3,u4,u5,u6⟩:=uT hb h
  rw [u1]
  simp only [qB,qD,if_false,if_true]
  by_cases h6:(m:Int)>6
  ·rw [if_pos (by simpa using h6),if_pos h6];rfl
  ·have hr:=aOZ (x1:=((m:Int),(e:Int),true)) hb hl (N:=m) (by omega) rfl m 0 fuel (e:Int) [] (by omega) (by unfold fuel;omega) (aCL u4 hl) rfl (fun _ h=>absurd h (by simp))
   rw [show ((0:Nat):Int)=0 from rfl] at hr
   rw [if_neg (by simpa using h6),if_neg h6,qH,hr,qA]
   cases aIJ b m (e:Int) [] with
   | none=>rfl
   | some o =>
    obtain ⟨fs,q⟩:=o
    show (if (!bG (⟨fs⟩:M.aA))=true then some ((⟨([]:List M.Field)⟩:M.aA),false) else if (!(q==(b.length:Int)))=true then some ((⟨([]:List M.Field)⟩:M.aA),false) else some ((⟨fs⟩:M.aA),true))=some (if (bG (⟨fs⟩:M.aA)&&(q==(b.length:Int)))=true then ((⟨fs⟩:M.aA),true) else ((⟨([]:List M.Field)⟩:M.aA),false))
    rcases Bool.eq_false_or_eq_true (bG (⟨fs⟩:M.aA)) with hn | hn
    ·rw [if_neg (show ¬(!bG (⟨fs⟩:M.aA))=true from by simp [hn])]
     by_cases hq:q=(b.length:Int)
     ·rw [if_neg (show ¬(!(q==(b.length:Int)))=true from by simp [hq]),if_pos (by simp [hn,hq])]
     ·rw [if_pos (show (!(q==(b.length:Int)))=true from by simp [hq]),if_neg (by simp [hq])]
    ·rw [if_pos (show (!bG (⟨fs⟩:M.aA))=true from by simp [hn]),if_neg (by simp [hn])]
theorem aQQ {b:List Int} {x1:Int×Int×Bool} {N:Nat} (hb:okB b) (hl:b.length≤1048576) (hN:N≤6) (hx:x1.1=(N:Int)) : ∀(j k m:Nat) (p:Int) (acc:List M.Field),k+j=N→j<m→acc.length=k→(∀x∈acc,M.Field.ok x)→dM b x1 m p (k:Int) acc=some (aMq b (aIJ b j p acc))
 | _,_,0,_,_,_,h,_,_=>by omega
 | 0,k,m+1,p,acc,hk,_,ha,ho=>by
  simp only [dM]
  rw [hx,if_neg (by simp;omega),yU (aHK (n:=6) (by omega) (by omega) ho),qA,sD (aKr _),qA]
  simp only [aIJ,aMq]
  cases eqL sX (enR (⟨acc⟩:M.aA)) b<;>rfl
 | j+1,k,m+1,p,acc,hk,hm,ha,ho=>by
  simp only [dM,aIJ]
  rw [hx,if_pos (by simp;omega),kJ hb hl,qA,hY hb hl,qA]
  cases h1:(nRb b p 8).2.2 with
  | false=>rfl
  | true =>
   obtain ⟨s,a1,e1,r1,r2,r3,r4,r5,r6,r7,r8⟩:=aAe hb h1
   rw [r1]
   simp only [qB,qD,if_false,if_true]
   cases h2:(nUv b (e1:Int)).2.2 with
   | false=>rfl
   | true =>
    obtain ⟨a2,v,e2,u1,u2,u3,u4,u5,u6⟩:=uT hb h2
    rw [u1]
    simp only [qB,qD,if_false,if_true]
    rw [uS r8.2,qA,iH (by simp;omega),qA,bR (by omega)]
    exact aQQ hb hl hN hx j (k+1) m (e2:Int) _ (by omega) (by omega) (by simp [ha]) (aHO ho (aE7 r8 u3))
theorem aBF {b:List Int} (hb:okB b) (hl:b.length≤1048576):gI b=some (aEp b):=by
 unfold gI aEp
 rw [hY hb hl,qA]
 cases h:(nUv b 0).2.2 with
 | false=>rfl
 | true =>
  obtain ⟨a,m,e,u1,u2,u3,u4,u5,u6⟩:=uT hb h
  rw [u1]
  simp only [qB,qD,if_false,if_true]
  by_cases h6:(m:Int)>6
  ·rw [if_pos (by simpa using h6),if_pos h6]
  ·have hq:=aQQ (x1:=((m:Int),(e:Int),true)) hb hl (N:=m) (by omega) rfl m 0 fuel (e:Int) [] (by omega) (by unfold fuel;omega) rfl (fun _ h=>absurd h (by simp))
   rw [show ((0:Nat):Int)=0 from rfl] at hq
   rw [if_neg (by simpa using h6),if_neg h6,qH,hq]
   cases hr:aIJ b m (e:Int) [] with
   | none=>rfl
   | some o =>
    obtain ⟨fs,q⟩:=o
    obtain ⟨l,e3,g1,g2,g3,g4,g5,g6⟩:=aE2 hb m e [] fs q hr u4
    rw [List.nil_append] at g1
    subst g1
    obtain rfl:a=0:=by omega
    rw [List.drop_zero] at u6
    simp only [aMq]
    congr 1
    by_cases hn:bG (⟨fs⟩:M.aA)=true
    ·have hiff:(eqL sX (enR (⟨fs⟩:M.aA)) b=true)↔(bG (⟨fs⟩:M.aA)&&(q==(b.length:Int)))=true:=by
      rw [aAL,hn,Bool.true_and,beq_iff_eq,g3]
      unfold enR
      rw [if_pos hn,g2]
      have hb2:b=uv m++(aCI enF fs++b.drop e3):=by rw [←g5];exact u6
      constructor
      ·intro h
       have:=congrArg List.length h
       have h3:=congrArg List.length hb2
       simp only [qE,qT] at this h3
       omega
      ·intro h
       rw [hb2,List.drop_eq_nil_of_le (by omega),qV]
     by_cases hq:eqL sX (enR (⟨fs⟩:M.aA)) b=true
     ·rw [if_pos hq,if_pos (hiff.1 hq)]
     ·rw [if_neg hq,if_neg (fun h=>hq (hiff.2 h))]
    ·rw [if_neg,if_neg (by simp [hn])]
     rw [aAL]
     unfold enR
     rw [if_neg hn]
     intro h0
     have:=congrArg List.length u6
     have h2:=aBB m
     rw [←h0] at this
     simp at this
     omega
theorem aJ5 {b:List Int} (hb:okB b):(aEp b).1.ok∧M.aA.sz (aEp b).1≤60:=by
 have h0:M.aA.ok (⟨([]:List M.Field)⟩:M.aA)∧M.aA.sz (⟨([]:List M.Field)⟩:M.aA)≤60:=⟨aHK (n:=0) (by simp) (by omega) (fun _ h=>absurd h (by simp)),by simp [M.aA.sz,eA]⟩
 unfold aEp
 split
 ·rename_i h
  obtain ⟨a,m,e,u1,u2,u3,u4,u5,u6⟩:=uT hb h
  rw [u1]
  dsimp only
  split
  ·exact h0
  ·split
   ·exact h0
   ·rename_i fs q hr
    split
    ·rename_i hh
     rw [qM] at hh
     obtain ⟨l,e3,g1,g2,g3,g4,g5,g6⟩:=aE2 hb _ e [] fs q hr u4
     rw [List.nil_append] at g1
     subst g1
     obtain ⟨n6,nf⟩:=sM hh.1
     refine ⟨aHK n6 (by omega) g6,?_⟩
     have:=wY (w:=M.Field.sz) (b:=8) (xs:=fs) (fun x hx=>by have:=(nf x hx).1;simp only [M.Field.sz];omega)
     simp only [M.aA.sz]
     omega
    ·exact h0
 ·exact h0
end Go.Proofs.YtidhkhdnjonjfaaGreat.gen
