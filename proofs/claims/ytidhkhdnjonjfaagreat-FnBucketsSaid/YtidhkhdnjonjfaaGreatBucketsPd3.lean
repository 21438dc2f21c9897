/-
  Helper text. No conditions.
-/
import Derived.Test.YtidhkhdnjonjfaaGreatBucketsPd2
set_option linter.unusedVariables false
set_option linter.unusedSimpArgs false
namespace Go.Proofs.YtidhkhdnjonjfaaGreat.gen
open Go Go.Sh
open Go.IntKind (i64)
def be6 (v:Nat):List Int:=[((v/2^40%256:Nat):Int),((v/2^32%256:Nat):Int),((v/2^24%256:Nat):Int),((v/2^16%256:Nat):Int),((v/2^8%256:Nat):Int),((v%256:Nat):Int)]
def enK (k:M.Key):List Int:=if wR k=true then k.Kind::((if k.Kind==2 then [] else be6 (k.N+1000000000000).toNat)++cH k.Text) else []
theorem aHU {k:M.Key} (h:wR k=true):1≤k.Kind∧k.Kind≤3 ∧ -1000000000000≤k.N∧k.N≤1000000000000:=by
 unfold wR inR at h
 simp only [qM,qL] at h
 omega
theorem aF3 (k:M.Key):(enK k).length≤19:=by
 unfold enK
 split
 ·rename_i h
  have:=aAl h
  have:=aQ k.Text
  split<;>simp [be6]<;>omega
 ·simp
theorem aTg {k:M.Key} (v:Nat) (hv:v≤5) (h : -1000000000000≤k.N∧k.N≤1000000000000):Int.fdiv (i64.wrap (k.N+1000000000000)) (2^(min (i64.wrap (8*(v:Int))).toNat IntKind.i64.bits))=(((k.N+1000000000000).toNat/2^(8*v):Nat):Int):=by
 have e:min (i64.wrap (8*(v:Int))).toNat IntKind.i64.bits=8*v:=by
  rw [bO (by omega) (by omega),show IntKind.i64.bits=64 from rfl]
  omega
 rw [e,bO (by omega) (by omega)]
 obtain ⟨n,hn⟩:=Int.eq_ofNat_of_zero_le (show 0≤k.N+1000000000000 by omega)
 rw [hn,qH,Int.fdiv_eq_ediv_of_nonneg _ (by exact Int.le_of_lt (Int.pow_pos (by decide))),Int.natCast_ediv,Int.natCast_pow]
 rfl
theorem byS {k:M.Key} (v:Nat) (hv:v≤5) (h : -1000000000000≤k.N∧k.N≤1000000000000):(IntKind.u8.wrap (i64.wrap (BitVec.ofInt (IntKind.i64.bits) (Int.fdiv (i64.wrap (k.N+1000000000000)) (2^(min (i64.wrap (8*(v:Int))).toNat IntKind.i64.bits)))&&&BitVec.ofInt (IntKind.i64.bits) 255).toNat))=(((k.N+1000000000000).toNat/2^(8*v)%256:Nat):Int):=by
 have h1:(k.N+1000000000000).toNat/2^(8*v)≤(k.N+1000000000000).toNat:=Nat.div_le_self _ _
 have e:=aFr (n:=(k.N+1000000000000).toNat/2^(8*v)) (m:=255) (by omega) (by omega)
 rw [aPA] at e
 rw [aTg v hv h,show ((255:Int))=((255:Nat):Int) from rfl,e,wrap_u8]
 omega
theorem aDq {k:M.Key} (hk:k.ok):gF k=some (enK k):=by
 unfold gF enK
 rw [iA hk,qA]
 by_cases h:wR k=true
 ·have ht:=aAl h
  have hb:=aHU h
  have hl:=aQ k.Text
  have hw:IntKind.u8.wrap k.Kind=k.Kind:=by rw [wrap_u8];omega
  rw [if_neg (by simp [h]),if_pos h,aOQ,hw]
  by_cases h2:(k.Kind==2)=true
  ·have h3 : ¬(k.Kind != 2)=true:=by simp [bne,h2]
   rw [if_pos h2]
   have e0 : ∀n r,r.length≤7→aU k (n+1) 5 r=some (r++cH k.Text):=by
    intro n r hr
    simp only [aU]
    rw [if_pos (by decide),if_neg h3,fC (by omega),qA]
   exact e0 (18446744073709551609+6) _ (by simp)
  ·have h3:(k.Kind != 2)=true:=by simp [bne,h2]
   rw [if_neg h2]
   have st : ∀n (v:Nat) r,r.length≤7→v≤5→aU k (n+1) (v:Int) r=aU k n ((v:Int)-1) (r++[(((k.N+1000000000000).toNat/2^(8*v)%256:Nat):Int)]):=by
    intro n v r hr hv
    simp only [aU]
    rw [if_pos (by simp),if_pos h3,if_pos (by rw [bO (by omega) (by omega)];simp;omega),fC (by simp;omega),qA,bO (n:=(v:Int)-1) (by omega) (by omega),byS v hv hb.2.2]
   have e7 : ∀n r,r.length≤7→aU k (n+1) (-1) r=some (r++cH k.Text):=by
    intro n r hr
    simp only [aU]
    rw [if_neg (by decide),fC (by omega),qA]
   refine (st (18446744073709551609+6) 5 _ (by simp) (by simp)).trans ((st (18446744073709551609+5) 4 _ (by simp) (by simp)).trans ((st (18446744073709551609+4) 3 _ (by simp) (by simp)).trans ((st (18446744073709551609+3) 2 _ (by simp) (by simp)).trans ((st (18446744073709551609+2) 1 _ (by simp) (by simp)).trans ((st (18446744073709551609+1) 0 _ (by simp) (by simp)).trans ((e7 _ _ (by simp)).trans ?_))))))
   simp [be6]
 ·rw [if_pos (by simp [h]),if_neg h]
theorem aLf : ∀ {a b:List Int},eqL uA a b=true↔a=b
 | [],[]=>by simp [eqL]
 | [],_::_=>by simp [eqL]
 | _::_,[]=>by simp [eqL]
 | x::xs,y::ys=>by
  have:=aLf (a:=xs) (b:=ys)
  simp only [eqL,qM,this,List.cons.injEq,uA,beq_iff_eq]
theorem zN {b:List Int} (h : ∀x∈b,0≤x∧x≤255) : ∀x∈aE5 b,0≤x∧x≤255:=fun x hx=>by
 unfold aE5 at hx
 rcases List.mem_append.1 hx with hx | hx
 ·exact aBV _ x hx
 ·exact h x hx
theorem aGT {α:Type} {f:α→List Int} : ∀ {l:List α},(∀x∈l,∀y∈f x,0≤y∧y≤255) → ∀y∈aGc f l,0≤y∧y≤255
 | [],_,_,hy=>by simp [aGc] at hy
 | x::l,h,y,hy=>by
  rcases List.mem_append.1 (show y∈f x++aGc f l from hy) with hy | hy
  ·exact h x (by simp) y hy
  ·exact aGT (l:=l) (fun z hz=>h z (by simp [hz])) y hy
theorem aMc (x:M.Field) : ∀y∈enF x,0≤y∧y≤255:=fun y hy=>by
 unfold enF at hy
 rcases List.mem_append.1 hy with hy | hy
 ·exact zN (wW _) y hy
 ·exact aBV _ y hy
theorem aPY (r:M.aC):okB (enR r):=⟨Nat.le_trans (aFz r) (by unfold maxLen;omega),fun y hy=>by
 unfold enR at hy
 split at hy
 ·rcases List.mem_append.1 hy with hy | hy
  ·exact aBV _ y hy
  ·exact aGT (fun x _=>aMc x) y hy
 ·simp at hy⟩
theorem aPS (k:M.Key):okB (enK k):=⟨Nat.le_trans (aF3 k) (by unfold maxLen;omega),fun y hy=>by
 unfold enK at hy
 split at hy
 ·rename_i h
  have hk:=aHU h
  rcases List.mem_cons.1 hy with rfl | hy
  ·omega
  ·rcases List.mem_append.1 hy with hy | hy
   ·split at hy
    ·simp at hy
    ·simp only [be6,List.mem_cons,qO,or_false] at hy
     omega
   ·exact wW _ y hy
 ·simp at hy⟩
def aLA:M.Key:=(⟨0,0,(⟨#[]⟩:ByteArray)⟩:M.Key)
def mkK (c n:Int) (t:List Int):M.Key×Bool:=if wR (⟨c,n,cK t⟩:M.Key)=true then ((⟨c,n,cK t⟩:M.Key),true) else (aLA,false)
def aO4 (v x:Int):Int:=v*256+x
def aKY:List Int→M.Key×Bool
 | []=>(aLA,false)
 | c::t=>if c=2 then mkK c 0 t else if t.length<6 then (aLA,false) else mkK c ((t.take 6).foldl aO4 0-1000000000000) (t.drop 6)
theorem aQO {t:List Int} (ht : ∀x∈t,0≤x∧x≤255) : ∀(v:Nat) (n:Nat),(v:Int)<2^n → ∃w:Nat,t.foldl aO4 (v:Int)=(w:Int)∧(w:Int)<2^(n+8*t.length):=by
 induction t with
 | nil=>exact fun v n h=>⟨v,rfl,by simpa using h⟩
 | cons x t ih =>
  intro v n h
  have hx:=ht x (by simp)
  obtain ⟨w,e,hw⟩:=ih (fun y hy=>ht y (by simp [hy])) (v*256+x.toNat) (n+8) (by rw [Int.pow_add];omega)
  refine ⟨w,?_,by rw [qJ,show n+8*(t.length+1)=n+8+8*t.length from by omega];exact hw⟩
  rw [List.foldl_cons,←e]
  congr 1
  unfold aO4
  omega
theorem aIe {c n:Int} {t:List Int} (hc:0≤c∧c≤255) (hn : -1000000000000≤n∧n≤1000000000000000) (ht:t.length≤maxLen):M.Key.ok (⟨c,n,cK t⟩:M.Key):=⟨by show inI c;unfold inI;omega,by show inI n;unfold inI;omega,by show (cK t).size≤_;rw [wX];exact ht⟩
theorem aTa {v:Nat} (h:v<2^48):i64.wrap ((v:Int)*2^(min (8:Int).toNat IntKind.i64.bits))=((v*256:Nat):Int):=by
 rw [show min (8:Int).toNat IntKind.i64.bits=8 from rfl,show ((v:Int)*2^8)=((v*256:Nat):Int) from by omega]
 exact bO (by omega) (by omega)
theorem stS {v x:Nat} (h:v<2^48) (hx:x≤255):(i64.wrap (BitVec.ofInt (IntKind.i64.bits) (i64.wrap ((v:Int)*2^(min (8:Int).toNat IntKind.i64.bits)))|||BitVec.ofInt (IntKind.i64.bits) (i64.wrap (x:Int))).toNat)=((v*256+x:Nat):Int):=by
 have e:=aNh (n:=x) (x:=v) (k:=8) (by omega)
 rw [aTa h,bO (n:=(x:Int)) (by omega) (by omega),aHp (by omega) (by omega),Nat.or_comm,show (256:Nat)=2^8 from rfl,e]
 omega
theorem dkS {b:List Int} {c:Int} (hb:okB b) (hl:b.length≤1048576) (hc:0≤c∧c≤255) (h7:7≤b.length) : ∀(j k v m:Nat),k+j=7→v<2^(8*(k-1))→1≤k→j<m→gL b c m (v:Int) (k:Int)=some (mkK c (((b.drop k).take j).foldl aO4 (v:Int)-1000000000000) (b.drop 7))
 | _,_,_,0,_,_,_,h=>by omega
 | 0,k,v,m+1,hk,hv,h1,_=>by
  obtain rfl:k=7:=by omega
  simp only [gL]
  have hd:okB (b.drop 7):=⟨Nat.le_trans (by rw [qU];omega) hb.1,fun x hx=>hb.2 x (List.mem_of_mem_drop hx)⟩
  have hv2:(v:Int)<281474976710656:=by
   have:v<2^48:=hv
   omega
  have ok:=aIe (n:=(v:Int)-1000000000000) hc (by omega) hd.1
  rw [if_neg (by decide),show wM b 7=some (b.drop (7:Int).toNat) from by unfold wM;rw [if_pos ⟨by decide,by simpa using h7⟩],qA,show (7:Int).toNat=7 from rfl,zV hd.2,qA,bO (n:=c) (by omega) (by omega),bO (n:=(v:Int)-1000000000000) (by omega) (by omega),iA ok,qA,List.take_zero,List.foldl_nil]
  unfold mkK
  cases wR (⟨c,(v:Int)-1000000000000,cK (b.drop 7)⟩:M.Key)<;>rfl
 | j+1,k,v,m+1,hk,hv,h1,hm=>by
  have hlt:k<b.length:=by omega
  obtain ⟨x,ex,hx⟩:=aOT hb hlt
  have hv2:v<2^40:=Nat.lt_of_lt_of_le hv (Nat.pow_le_pow_right (by decide) (by omega))
  have e8:2^(8*(k+1-1))=2^(8*(k-1))*256:=by rw [show 8*(k+1-1)=8*(k-1)+8 from by omega,Nat.pow_add]
  simp only [gL]
  rw [if_pos (by simp;omega),aO hlt,qA,ex,stS (by omega) hx,cU (by omega),dkS hb hl hc h7 j (k+1) (v*256+x) m (by omega) (by rw [e8];omega) (by omega) (by omega),qV hlt,ex,List.take_succ_cons,List.foldl_cons]
  congr 4
theorem aDl {b:List Int} (hb:okB b) (hl:b.length≤1048576):mS b=some (aKY b):=by
 unfold mS
 cases b with
 | nil=>rfl
 | cons c t =>
  have hc:=hb.2 c (by simp)
  have ht : ∀x∈t,0≤x∧x≤255:=fun x hx=>hb.2 x (by simp [hx])
  have hlt:t.length≤maxLen:=by have:=hb.1;rw [qJ] at this;omega
  have hl':t.length+1≤1048576:=hl
  rw [if_neg (by simp;omega),show idx (c::t) 0=some c from rfl,qA,bO (n:=c) (by omega) (by omega)]
  unfold aKY
  show _=some (if c=2 then mkK c 0 t else if t.length<6 then (aLA,false) else mkK c ((t.take 6).foldl aO4 0-1000000000000) (t.drop 6))
  by_cases h2:c=2
  ·subst h2
   rw [if_neg (by decide),if_pos rfl,show wM (2::t) 1=some t from by unfold wM;rw [if_pos ⟨by decide,by simp⟩];rfl,qA,show List.drop (1:Int).toNat ((2:Int)::t)=t from rfl,zV ht,qA,iA (aIe (by omega) (by omega) hlt),qA]
   unfold mkK
   cases wR (⟨2,0,cK t⟩:M.Key)<;>rfl
  ·rw [if_pos (by simpa using h2),if_neg h2]
   by_cases h6:t.length<6
   ·rw [if_pos (by simp;omega),if_pos h6];rfl
   ·rw [if_neg (by simp;omega),if_neg h6]
    exact dkS hb hl hc (by simp;omega) 6 1 0 fuel rfl (by decide) (by omega) (by unfold fuel;omega)
def aNk (b:List Int):Nat→Int→List M.Field→Option (List M.Field×Int)
 | 0,p,acc=>some (acc,p)
 | j+1,p,acc=>if (nRb b p 8).2.2=true then (if (nUv b (nRb b p 8).2.1).2.2=true then aNk b j (nUv b (nRb b p 8).2.1).2.1 (acc++[(⟨cK (nRb b p 8).1,(nUv b (nRb b p 8).2.1).1⟩:M.Field)]) else none) else none
def aJr (b:List Int):M.aC×Bool:=if (nUv b 0).2.2=true then (if (nUv b 0).1>6 then ((⟨([]:List M.Field)⟩:M.aC),false) else match aNk b (nUv b 0).1.toNat (nUv b 0).2.1 [] with
 | none=>((⟨([]:List M.Field)⟩:M.aC),false)
 | some (fs,q)=>if (bL (⟨fs⟩:M.aC)&&(q==(b.length:Int)))=true then ((⟨fs⟩:M.aC),true) else ((⟨([]:List M.Field)⟩:M.aC),false)) else ((⟨([]:List M.Field)⟩:M.aC),false)
theorem aDF {e:Nat} {n:Nat} (h:e≤n) (hl:n≤1048576):inI (e:Int):=by unfold inI;omega
theorem aCi {b:List Int} {p c:Int} (hb:okB b) (h:(nRb b p c).2.2=true) : ∃(s:List Int) (a e:Nat),nRb b p c=(s,(e:Int),true)∧p=(a:Int)∧(s.length:Int)≤c∧e≤b.length∧s.length≤1000000000000∧a+(uv s.length).length+s.length=e∧b.drop a=uv s.length++(s++b.drop e)∧okB s:=by
 obtain ⟨a,e,h1,h2,h3⟩:=aOI hb (show nRb b p c=((nRb b p c).1,(nRb b p c).2.1,true) from by rw [←h])
 exact ⟨_,a,e,by rw [←h2,←h],h1,h3⟩
theorem yJ {b:List Int} {p:Int} (hb:okB b) (h:(nUv b p).2.2=true) : ∃a m e:Nat,nUv b p=((m:Int),(e:Int),true)∧p=(a:Int)∧m≤1000000000000∧e≤b.length∧a+(uv m).length=e∧b.drop a=uv m++b.drop e:=by
 obtain ⟨a,m,e,h1,h2,h3,h4⟩:=aHy hb (show nUv b p=((nUv b p).1,(nUv b p).2.1,true) from by rw [←h])
 exact ⟨a,m,e,by rw [←h2,←h3,←h],h1,h4⟩
theorem aJL {s:List Int} {m:Nat} (hs:okB s) (hm:m≤1000000000000):M.Field.ok (⟨cK s,(m:Int)⟩:M.Field):=⟨by show (cK s).size≤_;rw [wX];exact hs.1,by show inI (m:Int);unfold inI;omega⟩
theorem aJI {b:List Int} (hb:okB b) : ∀(j a:Nat) (acc fs:List M.Field) (q:Int),aNk b j (a:Int) acc=some (fs,q)→a≤b.length → ∃(l:List M.Field) (e:Nat),fs=acc++l∧l.length=j∧q=(e:Int)∧e≤b.length∧b.drop a=aGc enF l++b.drop e ∧ ∀x∈l,M.Field.ok x
 | 0,a,acc,fs,q,h,ha=>by
  simp only [aNk,qa,qZ] at h
  exact ⟨[],a,by rw [←h.1,qW],rfl,h.2.symm,ha,rfl,fun _ h=>absurd h (by simp)⟩
 | j+1,a,acc,fs,q,h,ha=>by
  simp only [aNk] at h
  split at h
  ·rename_i h1
   obtain ⟨s,a1,e1,r1,r2,r3,r4,r5,r6,r7,r8⟩:=aCi hb h1
   obtain rfl:a=a1:=by omega
   rw [r1] at h
   dsimp only at h
   split at h
   ·rename_i h2
    obtain ⟨a2,m,e2,u1,u2,u3,u4,u5,u6⟩:=yJ hb h2
    obtain rfl:e1=a2:=by omega
    rw [u1] at h
    dsimp only at h
    obtain ⟨l,e,g1,g2,g3,g4,g5,g6⟩:=aJI hb j e2 _ fs q h u4
    refine ⟨(⟨cK s,(m:Int)⟩:M.Field)::l,e,by rw [g1,qS];rfl,by rw [qJ,g2],g3,g4,?_,fun x hx => ?_⟩
    ·rw [r7,u6,g5,aGc,enF,aE5,aCo r8.2,qH]
     simp only [qS]
    ·rcases List.mem_cons.1 hx with rfl | hx
     ·exact aJL r8 u3
     ·exact g6 x hx
   ·cases h
  ·cases h
def aTs (o:Option (List M.Field×Int)):M.aC×Int×Bool:=match o with
 | none=>((⟨([]:List M.Field)⟩:M.aC),0,false)
 | some (fs,q)=>((⟨fs⟩:M.aC),q,bL (⟨fs⟩:M.aC))
theorem aKh {acc:List M.Field} {n:Nat} (hl:acc.length≤n) (hn:n≤6) (h : ∀x∈acc,M.Field.ok x):M.aC.ok (⟨acc⟩:M.aC):=⟨⟨Nat.le_trans hl (by unfold maxLen;omega),h⟩⟩
theorem aMm {acc:List M.Field} {x:M.Field} (h : ∀x∈acc,M.Field.ok x) (hx:M.Field.ok x) : ∀y∈acc++[x],M.Field.ok y:=fun y hy=>by
 rcases List.mem_append.1 hy with hy | hy
 ·exact h y hy
 ·rw [List.mem_singleton.1 hy];exact hx
theorem aRK {b:List Int} {x1:Int×Int×Bool} {N:Nat} (hb:okB b) (hl:b.length≤1048576) (hN:N≤6) (hx:x1.1=(N:Int)) : ∀(j k m:Nat) (p:Int) (acc:List M.Field),k+j=N→j<m→inI p→acc.length=k→(∀x∈acc,M.Field.ok x)→kY b x1 m p (k:Int) acc=some (aTs (aNk b j p acc))
 | _,_,0,_,_,_,h,_,_,_=>by omega
 | 0,k,m+1,p,acc,hk,_,hp,ha,ho=>by
  simp only [kY]
  rw [hx,if_neg (by simp;omega),kI (aKh (n:=6) (by omega) (by omega) ho),qA]
  rfl
 | j+1,k,m+1,p,acc,hk,hm,hp,ha,ho=>by
  simp only [kY,aNk]
  rw [hx,if_pos (by simp;omega),mP hb hl hp,qA]
  cases h1:(nRb b p 8).2.2 with
  | false=>rfl
  | true =>
   obtain ⟨s,a1,e1,r1,r2,r3,r4,r5,r6,r7,r8⟩:=aCi hb h1
   rw [r1]
   simp only [qB,qD,if_false,if_true]
   rw [kR hb hl (aDF r4 hl),qA]
   cases h2:(nUv b (e1:Int)).2.2 with
   | false=>rfl
   | true =>
    obtain ⟨a2,v,e2,u1,u2,u3,u4,u5,u6⟩:=yJ hb h2
    rw [u1]
    simp only [qB,qD,if_false,if_true]
    rw [zV r8.2,qA,fC (by simp;omega),qA,cU (by omega)]
    exact aRK hb hl hN hx j (k+1) m (e2:Int) _ (by omega) (by omega) (aDF u4 hl) (by simp [ha]) (aMm ho (aJL r8 u3))
theorem aBg {b:List Int} (hb:okB b) (hl:b.length≤1048576):jV b=some (aJr b):=by
 unfold jV wT aJr
 rw [kR hb hl rG,qA]
 cases h:(nUv b 0).2.2 with
 | false=>rfl
 | true =>
  obtain ⟨a,m,e,u1,u2,u3,u4,u5,u6⟩:=yJ hb h
  rw [u1]
  simp only [qB,qD,if_false,if_true]
  by_cases h6:(m:Int)>6
  ·rw [if_pos (by simpa using h6),if_pos h6];rfl
  ·have hr:=aRK (x1:=((m:Int),(e:Int),true)) hb hl (N:=m) (by omega) rfl m 0 fuel (e:Int) [] (by omega) (by unfold fuel;omega) (aDF u4 hl) rfl (fun _ h=>absurd h (by simp))
   rw [show ((0:Nat):Int)=0 from rfl] at hr
   rw [if_neg (by simpa using h6),if_neg h6,qH,hr,qA]
   cases aNk b m (e:Int) [] with
   | none=>rfl
   | some o =>
    obtain ⟨fs,q⟩:=o
    show (if (!bL (⟨fs⟩:M.aC))=true then some ((⟨([]:List M.Field)⟩:M.aC),false) else if (!(q==(b.length:Int)))=true then some ((⟨([]:List M.Field)⟩:M.aC),false) else some ((⟨fs⟩:M.aC),true))=some (if (bL (⟨fs⟩:M.aC)&&(q==(b.length:Int)))=true then ((⟨fs⟩:M.aC),true) else ((⟨([]:List M.Field)⟩:M.aC),false))
    rcases Bool.eq_false_or_eq_true (bL (⟨fs⟩:M.aC)) with hn | hn
    ·rw [if_neg (show ¬(!bL (⟨fs⟩:M.aC))=true from by simp [hn])]
     by_cases hq:q=(b.length:Int)
     ·rw [if_neg (show ¬(!(q==(b.length:Int)))=true from by simp [hq]),if_pos (by simp [hn,hq])]
     ·rw [if_pos (show (!(q==(b.length:Int)))=true from by simp [hq]),if_neg (by simp [hq])]
    ·rw [if_pos (show (!bL (⟨fs⟩:M.aC))=true from by simp [hn]),if_neg (by simp [hn])]
theorem aMk {b:List Int} (hb:okB b):(aJr b).1.ok∧M.aC.sz (aJr b).1≤60:=by
 have h0:M.aC.ok (⟨([]:List M.Field)⟩:M.aC)∧M.aC.sz (⟨([]:List M.Field)⟩:M.aC)≤60:=⟨aKh (n:=0) (by simp) (by omega) (fun _ h=>absurd h (by simp)),by simp [M.aC.sz,lV]⟩
 unfold aJr
 split
 ·rename_i h
  obtain ⟨a,m,e,u1,u2,u3,u4,u5,u6⟩:=yJ hb h
  rw [u1]
  dsimp only
  split
  ·exact h0
  ·split
   ·exact h0
   ·rename_i fs q hr
    split
    ·rename_i hh
     rw [qM] at hh
     obtain ⟨l,e3,g1,g2,g3,g4,g5,g6⟩:=aJI hb _ e [] fs q hr u4
     rw [List.nil_append] at g1
     subst g1
     obtain ⟨n6,nf⟩:=pD hh.1
     refine ⟨aKh n6 (by omega) g6,?_⟩
     have:=kU (w:=M.Field.sz) (b:=8) (xs:=fs) (fun x hx=>by have:=(nf x hx).1;simp only [M.Field.sz];omega)
     simp only [M.aC.sz]
     omega
    ·exact h0
 ·exact h0
def aEx (o:M.Op):Prop:=inI o.Kind∧o.aA.size≤maxLen∧o.Key.ok∧o.aC.ok∧o.Field.size≤maxLen
def nOp (o:M.Op):Bool:=inR o.Kind 1 6&&(nS o.aA&&(((o.Kind==5)||wR o.Key)&&(bL o.aC&&(if (o.Kind==6)=true then nS o.Field else (o.Field.toList==(⟨#[]⟩:ByteArray).toList)))))
theorem aD8 {o:M.Op} (h:aEx o):uT o=some (nOp o):=by
 unfold uT nOp
 simp only [dQ,fF h.2.1,iA h.2.2.1,kI h.2.2.2.1,fF h.2.2.2.2,qA]
 have hb:(o.Kind != 6) = !(o.Kind==6):=rfl
 generalize (o.Kind != 6)=a9 at hb ⊢
 generalize inR o.Kind 1 6=a1
 generalize nS o.aA=a2
 generalize (o.Kind==5)=a3
 generalize wR o.Key=a4
 generalize bL o.aC=a5
 generalize (o.Kind==6)=a6 at hb ⊢
 generalize nS o.Field=a7
 generalize (o.Field.toList==(⟨#[]⟩:ByteArray).toList)=a8
 subst hb
 cases a1<;>cases a2<;>cases a3<;>cases a4<;>cases a5<;>cases a6<;>cases a7<;>cases a8<;>rfl
def enO (o:M.Op):List Int:=uv o.Kind.toNat++(aE5 (cH o.aA)++(aE5 (enK o.Key)++(aE5 (enR o.aC)++aE5 (cH o.Field))))
def aAd (l:List M.Op):List Int:=if (l.all nOp&&decide (l.length≤6))=true then uv l.length++aGc enO l else []
theorem bsize {a b:ByteArray} (h:a.toList=b.toList):a.size=b.size:=by
 rw [ByteArray.toList_eq,ByteArray.toList_eq] at h
 have:=congrArg List.length h
 rw [Array.length_toList,Array.length_toList] at this
 exact this
theorem aJS {s:ByteArray} (h:(s.toList==(⟨#[]⟩:ByteArray).toList)=true):s.size=0:=bsize (eq_of_beq h)
theorem yZ {o:M.Op} (h:nOp o=true):1≤o.Kind∧o.Kind≤6∧o.aA.size≤8∧o.Field.size≤8∧bL o.aC=true:=by
 unfold nOp inR at h
 simp only [qM,qL] at h
 obtain ⟨h1,h2,_,h4,h5⟩:=h
 have n8 : ∀s:ByteArray,nS s=true→s.size≤8:=fun s hs=>by
  unfold nS inR at hs
  simp only [qM,qL] at hs
  omega
 refine ⟨h1.1,h1.2,n8 _ h2,?_,h4⟩
 split at h5
 ·exact n8 _ h5
 ·rw [aJS h5];omega
theorem aBZ {b:List Int} {n:Nat} (h:b.length≤n) (hn:n≤127):(aE5 b).length≤n+1:=by
 have:=zK 0 b.length (by omega)
 unfold aE5
 rw [qE]
 omega
theorem aIE {o:M.Op} (h:nOp o=true):(enO o).length≤130:=by
 obtain ⟨h1,h2,h3,h4,_⟩:=yZ h
 have e1:=zK 0 o.Kind.toNat (by omega)
 have e2:=aBZ (b:=cH o.aA) (n:=8) (by rw [aQ];exact h3) (by omega)
 have e3:=aBZ (aF3 o.Key) (by omega)
 have e4:=aBZ (aFz o.aC) (by omega)
 have e5:=aBZ (b:=cH o.Field) (n:=8) (by rw [aQ];exact h4) (by omega)
 unfold enO
 simp only [qE]
 omega
theorem aNW {o:M.Op} (ho:aEx o) (h:nOp o=true) {q:List Int} (hq:q.length≤900000) {α:Type} (K:List Int→Option α):((bD q o.Kind).bind fun x21=>((bC x21 (cH o.aA)).bind fun x23=>((gF o.Key).bind fun x25=>((bC x23 x25).bind fun x27=>((eB o.aC).bind fun x29=>((bC x27 x29).bind fun x31=>((bC x31 (cH o.Field)).bind fun x33=>K x33)))))))=K (q++enO o):=by
 obtain ⟨h1,h2,h3,h4,_⟩:=yZ h
 have e0:=iT (r:=q) (n:=o.Kind.toNat) (by omega) (by omega)
 rw [Int.toNat_of_nonneg (by omega)] at e0
 have l1:=zK 0 o.Kind.toNat (by omega)
 have l2:=aBZ (b:=cH o.aA) (n:=8) (by rw [aQ];exact h3) (by omega)
 have l3:=aBZ (aF3 o.Key) (by omega)
 have l4:=aBZ (aFz o.aC) (by omega)
 have k2:=aQ o.aA
 have k5:=aQ o.Field
 have k3:=aF3 o.Key
 have k4:=aFz o.aC
 rw [e0,qA,kQ (by simp only [qE];omega) (by omega),qA,aDq ho.2.2.1,qA,kQ (by simp only [qE];omega) (by omega),qA,aBc ho.2.2.2.1,qA,kQ (by simp only [qE];omega) (by omega),qA,kQ (by simp only [qE];omega) (by omega),qA]
 unfold enO
 simp only [qS]
theorem eoS {l:List M.Op} (hl:l.length≤1000) (ho : ∀o∈l,aEx o) : ∀(n k:Nat) (q:List Int),l.length-k<n→k≤l.length→q.length≤20+130*k→jP l n (k:Int) q=some (if (l.drop k).all nOp=true then (if l.length>6 then [] else q++aGc enO (l.drop k)) else [])
 | 0,_,_,h,_,_=>by omega
 | n+1,k,q,hn,hk,hq=>by
  simp only [jP]
  rcases Nat.lt_or_ge k l.length with hlt | hge
  ·rw [if_pos (bI hlt),aO hlt,qA,aD8 (ho _ (qG hlt)),qA,qV hlt,List.all_cons]
   cases h:nOp l[k] with
   | false =>
    simp only [qC,if_true,Bool.false_and,qD,if_false]
   | true =>
    simp only [qB,qD,if_false,Bool.true_and]
    have hx:=aIE h
    rw [aNW (ho _ (qG hlt)) h (by omega),cU (by omega),eoS hl ho n (k+1) _ (by omega) (by omega) (by rw [qE];omega),aGc,qS]
  ·have e:k=l.length:=by omega
   subst e
   rw [if_neg (by rw [aW];simp),qY]
   simp only [List.all_nil,if_true,aGc,qW]
   by_cases h6:l.length>6
   ·rw [if_pos (by simp;omega),if_pos h6]
   ·rw [if_neg (by simp;omega),if_neg h6]
theorem aAJ {l:List M.Op} (hl:l.length≤1000) (ho : ∀o∈l,aEx o):mT l=some (aAd l):=by
 have h9:=aCe (n:=l.length) (by omega)
 unfold mT aAd
 rw [iT (by simp) (by omega),qA,List.nil_append]
 have e:=eoS hl ho fuel 0 (uv l.length) (by unfold fuel;omega) (by omega) (by omega)
 rw [List.drop_zero] at e
 refine Eq.trans e ?_
 congr 1
 cases l.all nOp with
 | false=>rfl
 | true =>
  by_cases h6:l.length>6
  ·rw [if_pos rfl,if_pos h6,if_neg (by simp;omega)]
  ·rw [if_pos rfl,if_neg h6,if_pos (by simp;omega)]
theorem aJB (l:List M.Op):okB (aAd l):=by
 unfold aAd
 split
 ·rename_i h
  rw [qM,qL,qQ] at h
  have h1:=aGN (f:=enO) (fun o hx=>aIE (h.1 o hx))
  have h9:=aCe (n:=l.length) (by omega)
  refine ⟨?_,fun y hy => ?_⟩
  ·rw [qE]
   exact Nat.le_trans (m:=2000) (by omega) (by unfold maxLen;omega)
  ·rcases List.mem_append.1 hy with hy | hy
   ·exact aBV _ y hy
   ·refine aGT (fun o _ z hz => ?_) y hy
    unfold enO at hz
    simp only [qP] at hz
    rcases hz with hz | hz | hz | hz | hz
    ·exact aBV _ z hz
    ·exact zN (wW _) z hz
    ·exact zN (aPS _).2 z hz
    ·exact zN (aPY _).2 z hz
    ·exact zN (wW _) z hz
 ·exact ⟨by simp,fun _ h=>absurd h (by simp)⟩
def gS9 (b:List Int) (p c1:Int):=nRb b (nUv b p).2.1 c1
def gK9 (b:List Int) (p c1 c2:Int):=nRb b (gS9 b p c1).2.1 c2
def gR9 (b:List Int) (p c1 c2 c3:Int):=nRb b (gK9 b p c1 c2).2.1 c3
def gF9 (b:List Int) (p c1 c2 c3 c4:Int):=nRb b (gR9 b p c1 c2 c3).2.1 c4
def op9 (b:List Int) (p c1 c2 c3 c4:Int):Option (M.Op×Int):=if (nUv b p).2.2=true then (if (gS9 b p c1).2.2=true then (if (gK9 b p c1 c2).2.2=true then (if (gR9 b p c1 c2 c3).2.2=true then (if (gF9 b p c1 c2 c3 c4).2.2=true then some ((⟨(nUv b p).1,cK (gS9 b p c1).1,(aKY (gK9 b p c1 c2).1).1,(aJr (gR9 b p c1 c2 c3).1).1,cK (gF9 b p c1 c2 c3 c4).1⟩:M.Op),(gF9 b p c1 c2 c3 c4).2.1) else none) else none) else none) else none) else none
def aF6 (b:List Int) (c1 c2 c3 c4:Int):Nat→Int→List M.Op→Option (List M.Op)
 | 0,_,acc=>some acc
 | j+1,p,acc=>match op9 b p c1 c2 c3 c4 with
  | none=>none
  | some (o,q)=>aF6 b c1 c2 c3 c4 j q (acc++[o])
def aPo (b:List Int) (o:Option (List M.Op)):List M.Op×Bool:=match o with
 | none=>(([]:List M.Op),false)
 | some l=>if eqL uA (aAd l) b=true then (l,true) else (([]:List M.Op),false)
def aNI (b:List Int) (c1 c2 c3 c4:Int):List M.Op×Bool:=if (nUv b 0).2.2=true then (if (nUv b 0).1>6 then (([]:List M.Op),false) else aPo b (aF6 b c1 c2 c3 c4 (nUv b 0).1.toNat (nUv b 0).2.1 [])) else (([]:List M.Op),false)
theorem aOY {b:List Int} {p:Int} (hb:okB b) (hl:b.length≤1048576):inI (nUv b p).2.1:=by
 cases h:(nUv b p).2.2 with
 | false=>rw [aPP h];exact rG
 | true =>
  obtain ⟨a,m,e,u1,u2,u3,u4,_⟩:=yJ hb h
  rw [u1]
  exact aDF u4 hl
theorem aF9 {b:List Int} {p c:Int} (hb:okB b) (hl:b.length≤1048576):inI (nRb b p c).2.1:=by
 cases h:(nRb b p c).2.2 with
 | false=>rw [aPX h];exact rG
 | true =>
  obtain ⟨s,a,e,r1,r2,r3,r4,_⟩:=aCi hb h
  rw [r1]
  exact aDF r4 hl
theorem yA {b:List Int} {p c:Int} (hb:okB b) (hl:b.length≤1048576) (h:(nRb b p c).2.2=true):okB (nRb b p c).1∧(nRb b p c).1.length≤b.length:=by
 obtain ⟨s,a,e,r1,r2,r3,r4,r5,r6,r7,r8⟩:=aCi hb h
 rw [r1]
 exact ⟨r8,by dsimp only;omega⟩
theorem aNp {c n:Int} {t:List Int} (h:M.Key.ok (⟨c,n,cK t⟩:M.Key)):(mkK c n t).1.ok:=by
 unfold mkK
 split
 ·exact h
 ·exact ⟨rG,rG,sz0⟩
theorem aNL {b:List Int} (hb:okB b):(aKY b).1.ok:=by
 have z:aLA.ok:=⟨rG,rG,sz0⟩
 unfold aKY
 split
 ·exact z
 ·rename_i c t
  have hc:=hb.2 c (by simp)
  have ht : ∀x∈t,0≤x∧x≤255:=fun x hx=>hb.2 x (by simp [hx])
  have hlt:t.length≤maxLen:=by have:=hb.1;rw [qJ] at this;omega
  split
  ·rename_i h2
   exact aNp (aIe hc (by omega) hlt)
  ·split
   ·exact z
   ·obtain ⟨w,e,hw⟩:=aQO (t:=t.take 6) (fun x hx=>ht x (List.mem_of_mem_take hx)) 0 0 (by decide)
    have h6:0+8*(List.take 6 t).length≤48:=by rw [qT];omega
    have h7:(2:Int)^(0+8*(List.take 6 t).length)≤2^48:=by
     have:=Nat.pow_le_pow_right (n:=2) (by decide) h6
     exact_mod_cast this
    have e':(List.take 6 t).foldl aO4 0=(w:Int):=e
    rw [e']
    refine aNp (aIe hc (by omega) (Nat.le_trans (by rw [qU];omega) hlt))
theorem aNg {b:List Int} {p c1 c2 c3 c4 q:Int} {o:M.Op} (hb:okB b) (hl:b.length≤1048576) (h:op9 b p c1 c2 c3 c4=some (o,q)):aEx o∧inI q:=by
 unfold op9 at h
 split at h
 ·rename_i h1
  split at h
  ·rename_i h2
   split at h
   ·rename_i h3
    split at h
    ·rename_i h4
     split at h
     ·rename_i h5
      simp only [qa,qZ] at h
      obtain ⟨a,m,e,u1,u2,u3,_⟩:=yJ hb h1
      have p2:=yA hb hl h2
      have p3:=yA hb hl h3
      have p4:=yA hb hl h4
      have p5:=yA hb hl h5
      rw [←h.1,←h.2]
      refine ⟨⟨?_,?_,aNL p3.1,(aMk p4.1).1,?_⟩,aF9 hb hl⟩
      ·show inI (nUv b p).1
       rw [u1];unfold inI;dsimp only;omega
      ·show (cK _).size≤_
       rw [wX];exact p2.1.1
      ·show (cK _).size≤_
       rw [wX];exact p5.1.1
     ·cases h
    ·cases h
   ·cases h
  ·cases h
 ·cases h
theorem aGU {b:List Int} {p:Int} (hb:okB b) (hl:b.length≤1048576) (hp:inI p):tX b p=some (match op9 b p 100 100 200 100 with
  | none=>((⟨0,(⟨#[]⟩:ByteArray),(⟨0,0,(⟨#[]⟩:ByteArray)⟩:M.Key),(⟨([]:List M.Field)⟩:M.aC),(⟨#[]⟩:ByteArray)⟩:M.Op),0,false)
  | some (o,q)=>(o,q,true)):=by
 unfold tX op9
 rw [kR hb hl hp,qA,mP hb hl (aOY hb hl),qA]
 show (cV b (gS9 b p 100).2.1 100).bind _=_
 rw [mP hb hl (show inI (gS9 b p 100).2.1 from aF9 hb hl),qA]
 show (cV b (gK9 b p 100 100).2.1 200).bind _=_
 rw [mP hb hl (show inI (gK9 b p 100 100).2.1 from aF9 hb hl),qA]
 show (cV b (gR9 b p 100 100 200).2.1 100).bind _=_
 rw [mP hb hl (show inI (gR9 b p 100 100 200).2.1 from aF9 hb hl),qA]
 change (if (!(nUv b p).2.2)=true then _ else if (!(gS9 b p 100).2.2)=true then _ else if (!(gK9 b p 100 100).2.2)=true then _ else if (!(gR9 b p 100 100 200).2.2)=true then _ else if (!(gF9 b p 100 100 200 100).2.2)=true then _ else (toStr (gS9 b p 100).1).bind fun x44=>((toStr (gF9 b p 100 100 200 100).1).bind fun x46=>((mS (gK9 b p 100 100).1).bind fun x48=>((jV (gR9 b p 100 100 200).1).bind fun x50=>some ((⟨(nUv b p).1,cK (gS9 b p 100).1,x48.1,x50.1,cK (gF9 b p 100 100 200 100).1⟩:M.Op),(gF9 b p 100 100 200 100).2.1,true)))))=_
 cases h1:(nUv b p).2.2 with
 | false=>rfl
 | true =>
  cases h2:(gS9 b p 100).2.2 with
  | false=>rfl
  | true =>
   cases h3:(gK9 b p 100 100).2.2 with
   | false=>rfl
   | true =>
    cases h4:(gR9 b p 100 100 200).2.2 with
    | false=>rfl
    | true =>
     cases h5:(gF9 b p 100 100 200 100).2.2 with
     | false=>rfl
     | true =>
      have p2:okB (gS9 b p 100).1∧(gS9 b p 100).1.length≤b.length:=yA hb hl h2
      have p3:okB (gK9 b p 100 100).1∧(gK9 b p 100 100).1.length≤b.length:=yA hb hl h3
      have p4:okB (gR9 b p 100 100 200).1∧(gR9 b p 100 100 200).1.length≤b.length:=yA hb hl h4
      have p5:okB (gF9 b p 100 100 200 100).1∧(gF9 b p 100 100 200 100).1.length≤b.length:=yA hb hl h5
      simp only [qB,qD,if_false,if_true]
      rw [zV p2.1.2,qA,zV p5.1.2,qA,aDl p3.1 (by omega),qA,aBg p4.1 (by omega),qA]
theorem doS {b:List Int} {x1:Int×Int×Bool} {N:Nat} (hb:okB b) (hl:b.length≤1048576) (hN:N≤6) (hx:x1.1=(N:Int)) : ∀(j k m:Nat) (p:Int) (acc:List M.Op),k+j=N→j<m→inI p→acc.length=k→(∀x∈acc,aEx x)→gR b x1 m p (k:Int) acc=some (aPo b (aF6 b 100 100 200 100 j p acc))
 | _,_,0,_,_,_,h,_,_,_=>by omega
 | 0,k,m+1,p,acc,hk,_,hp,ha,ho=>by
  simp only [gR,aF6,aPo]
  rw [hx,if_neg (by simp;omega),aAJ (by omega) ho,qA,aCa (aJB _) hb,qA]
  cases eqL uA (aAd acc) b<;>rfl
 | j+1,k,m+1,p,acc,hk,hm,hp,ha,ho=>by
  simp only [gR,aF6]
  rw [hx,if_pos (by simp;omega),aGU hb hl hp,qA]
  cases h:op9 b p 100 100 200 100 with
  | none=>rfl
  | some x =>
   obtain ⟨o,q⟩:=x
   obtain ⟨k1,k2⟩:=aNg hb hl h
   simp only [qB,qD,if_false]
   rw [fC (by simp;omega),qA,cU (by omega)]
   refine doS hb hl hN hx j (k+1) m q _ (by omega) (by omega) k2 (by simp [ha]) (fun y hy => ?_)
   rcases List.mem_append.1 hy with hy | hy
   ·exact ho y hy
   ·rw [List.mem_singleton.1 hy];exact k1
theorem aDB {b:List Int} (hb:okB b) (hl:b.length≤1048576):mR b=some (aNI b 100 100 200 100):=by
 unfold mR aNI
 rw [kR hb hl rG,qA]
 cases h:(nUv b 0).2.2 with
 | false=>rfl
 | true =>
  obtain ⟨a,m,e,u1,u2,u3,u4,u5,u6⟩:=yJ hb h
  rw [u1]
  simp only [qB,qD,if_false,if_true]
  by_cases h6:(m:Int)>6
  ·rw [if_pos (by simpa using h6),if_pos h6]
  ·rw [if_neg (by simpa using h6),if_neg h6,qH]
   exact doS (x1:=((m:Int),(e:Int),true)) hb hl (N:=m) (by omega) rfl m 0 fuel (e:Int) [] (by omega) (by unfold fuel;omega) (aDF u4 hl) rfl (fun _ h=>absurd h (by simp))
theorem aMJ {l:List M.Op} {b:List Int} (h:aAd l=b) (hb:b≠[]):b=uv l.length++aGc enO l∧(∀o∈l,nOp o=true)∧l.length≤6:=by
 unfold aAd at h
 split at h
 ·rename_i h1
  rw [qM,qL,qQ] at h1
  exact ⟨h.symm,h1.1,h1.2⟩
 ·exact absurd h.symm hb
def aAg (b:List Int):List M.Op×Bool:=aNI b 100 100 200 100
theorem aDu {b:List Int} (hb:okB b) (hl:b.length≤1048576):mR b=some (aAg b):=aDB hb hl
theorem aI0 {b:List Int} {c1 c2 c3 c4:Int} (hb:okB b) (hl:b.length≤1048576) : ∀(j:Nat) (p:Int) (acc l:List M.Op),aF6 b c1 c2 c3 c4 j p acc=some l→(∀x∈acc,aEx x)→(∀x∈l,aEx x)
 | 0,_,_,_,h,ho=>by
  simp only [aF6,qa] at h
  rw [←h];exact ho
 | j+1,p,acc,l,h,ho=>by
  simp only [aF6] at h
  cases e:op9 b p c1 c2 c3 c4 with
  | none=>rw [e] at h;cases h
  | some x =>
   obtain ⟨o,q⟩:=x
   rw [e] at h
   refine aI0 hb hl j q _ l h (fun y hy => ?_)
   rcases List.mem_append.1 hy with hy | hy
   ·exact ho y hy
   ·rw [List.mem_singleton.1 hy];exact (aNg hb hl e).1
theorem aFh {b:List Int} (hb:okB b) (hl:b.length≤1048576):(aAg b).1.length≤6 ∧ ∀o∈(aAg b).1,aEx o∧nOp o=true:=by
 have z:([]:List M.Op).length≤6 ∧ ∀o∈([]:List M.Op),aEx o∧nOp o=true:=⟨by simp,fun _ h=>absurd h (by simp)⟩
 unfold aAg aNI
 split
 ·rename_i h
  obtain ⟨a,m,e,u1,u2,u3,u4,u5,u6⟩:=yJ hb h
  obtain rfl:a=0:=by omega
  rw [List.drop_zero] at u6
  have hne:b≠[]:=fun h0=>by
   have:=congrArg List.length u6
   have h2:=aJK m
   rw [h0] at this
   simp at this
   omega
  rw [u1]
  dsimp only
  split
  ·exact z
  ·cases hr:aF6 b 100 100 200 100 (m:Int).toNat (e:Int) [] with
   | none=>exact z
   | some l =>
    simp only [aPo]
    split
    ·rename_i he
     rw [aLf] at he
     obtain ⟨b1,b2,b3⟩:=aMJ he hne
     exact ⟨b3,fun o ho=>⟨aI0 hb hl _ _ _ l hr (fun _ h=>absurd h (by simp)) o ho,b2 o ho⟩⟩
    ·exact z
 ·exact z
theorem aAt {i:Int} {l:List Int} (hl:l.length≤1048576):oE i l=some (aJv ([101,i]++([(List.length l:Int)]++l.map i64.wrap))):=by
 unfold oE
 rw [aB4 hl,qA,fC (by simp;omega),qA,aH3 (by simp [maxLen];omega),qA]
def aNl (i:Int) (l:List Int):Int:=aJv ([101,i]++([(List.length l:Int)]++l.map i64.wrap))
def aHG (b:List Int):Nat→Int→List (List Int)→List (List Int)×Int
 | 0,p,acc=>(acc,p)
 | j+1,p,acc=>if (nRb b p 4000).2.2=true then (if (nUv b (nRb b p 4000).2.1).2.2=true then (if ((nUv b (nRb b p 4000).2.1).1 != aNl (acc.length:Int) (nRb b p 4000).1)=true then (acc,p) else aHG b j (nUv b (nRb b p 4000).2.1).2.1 (acc++[(nRb b p 4000).1])) else (acc,p)) else (acc,p)
def aO3 (b:List Int):List (List Int)×Int:=aHG b (b.length+1) 0 []
theorem aOK {b:List Int}:nUv b (b.length:Int)=(0,0,false):=by
 unfold nUv
 rw [if_neg (by omega),qH]
 unfold aLZ
 rw [qX (by omega)]
theorem aKI {b:List Int} (hb:okB b) (hl:b.length≤1048576) : ∀(j m a:Nat) (acc:List (List Int)),b.length-a<j→j≤m→a≤b.length→acc.length≤a→mA b m (a:Int) acc=some (aHG b j (a:Int) acc)
 | 0,_,_,_,h,_,_,_=>by omega
 | _+1,0,_,_,_,h,_,_=>by omega
 | j+1,m+1,a,acc,hj,hm,ha,hc=>by
  simp only [mA,aHG]
  by_cases hlt:a<b.length
  case neg =>
   obtain rfl:a=b.length:=by omega
   rw [if_neg (by simp)]
   have:(nRb b (b.length:Int) 4000).2.2=false:=by unfold nRb;rw [aOK];rfl
   rw [this]
   rfl
  rw [if_pos (by simp;omega),mP hb hl (aDF ha hl),qA]
  cases h1:(nRb b (a:Int) 4000).2.2 with
  | false=>rfl
  | true =>
   obtain ⟨s,a1,e1,r1,r2,r3,r4,r5,r6,r7,r8⟩:=aCi hb h1
   obtain rfl:a=a1:=by omega
   rw [r1]
   simp only [qB,qD,if_false,if_true]
   rw [kR hb hl (aDF r4 hl),qA]
   cases h2:(nUv b (e1:Int)).2.2 with
   | false=>rfl
   | true =>
    obtain ⟨a2,v,e2,u1,u2,u3,u4,u5,u6⟩:=yJ hb h2
    obtain rfl:e1=a2:=by omega
    have g1:=aJK s.length
    have g2:=aJK v
    rw [u1]
    simp only [qB,qD,if_false,if_true]
    rw [aAt (by omega),qA]
    show (if ((v:Int) != aNl (acc.length:Int) s)=true then _ else _)=_
    split
    ·rfl
    ·rw [fC (by simp;omega),qA]
     exact aKI hb hl j m e2 _ (by omega) (by omega) u4 (by simp;omega)
theorem aE1 {b:List Int} (hb:okB b) (hl:b.length≤1048576):sS b=some (aO3 b):=by
 unfold sS aO3
 exact aKI hb hl (b.length+1) fuel 0 [] (by omega) (by unfold fuel;omega) (by omega) (by simp)
theorem aJQ {b:List Int} (hb:okB b) : ∀(j a:Nat) (acc:List (List Int)),a≤b.length→acc.length≤a→(∀l∈acc,okB l∧l.length≤4000)→(aHG b j (a:Int) acc).1.length≤b.length ∧ ∀l∈(aHG b j (a:Int) acc).1,okB l∧l.length≤4000
 | 0,a,acc,ha,hc,h=>⟨by simp only [aHG];omega,h⟩
 | j+1,a,acc,ha,hc,h=>by
  simp only [aHG]
  split
  ·rename_i h1
   obtain ⟨s,a1,e1,r1,r2,r3,r4,r5,r6,r7,r8⟩:=aCi hb h1
   obtain rfl:a=a1:=by omega
   rw [r1]
   dsimp only
   split
   ·rename_i h2
    obtain ⟨a2,v,e2,u1,u2,u3,u4,u5,u6⟩:=yJ hb h2
    obtain rfl:e1=a2:=by omega
    have g1:=aJK s.length
    rw [u1]
    dsimp only
    split
    ·exact ⟨by dsimp only;omega,h⟩
    ·refine aJQ hb j e2 _ u4 (by simp;omega) (fun l hl => ?_)
     rcases List.mem_append.1 hl with hl | hl
     ·exact h l hl
     ·rw [List.mem_singleton.1 hl];exact ⟨r8,by omega⟩
   ·exact ⟨by dsimp only;omega,h⟩
  ·exact ⟨by dsimp only;omega,h⟩
theorem aLS {b:List Int} (hb:okB b):(aO3 b).1.length≤b.length ∧ ∀l∈(aO3 b).1,okB l∧l.length≤4000:=aJQ hb (b.length+1) 0 [] (by omega) (by simp) (fun _ h=>absurd h (by simp))
theorem aFL {α:Type} {f:α→Nat} (q:α→Bool) : ∀(l:List α),lV f (l.filter q)≤lV f l
 | []=>Nat.le_refl _
 | x::l=>by
  have h:=aFL (f:=f) q l
  rw [List.filter_cons]
  split
  ·simp only [lV];omega
  ·simp only [lV];omega
def vC (k:M.Key) (g:M.eG):Bool:=wR k&&((!g.HasLow||wR g.Low)&&((!g.HasHigh||wR g.High)&&((!g.HasLow||decide (cE g.Low k≤0))&&(!g.HasHigh||decide (cE k g.High≤0)))))
theorem aDb {k:M.Key} {g:M.eG} (hk:k.ok) (hl:g.Low.ok) (hh:g.High.ok):pN k g=some (vC k g):=by
 unfold pN vC
 simp only [iA hk,iA hl,iA hh,nK hl hk,nK hk hh,qA]
 generalize decide (cE g.Low k≤0)=a1
 generalize decide (cE k g.High≤0)=a2
 generalize g.HasLow=a3
 generalize g.HasHigh=a4
 generalize wR k=a5
 generalize wR g.Low=a6
 generalize wR g.High=a7
 cases a1<;>cases a2<;>cases a3<;>cases a4<;>cases a5<;>cases a6<;>cases a7<;>rfl
def aEZ (s:M.aA) (g:M.eG):M.aA×Int:=if fB s=true then ((⟨s.Name,s.Items.filter (fun x => !vC x.Key g),s.Auto⟩:M.aA),i64.wrap ((List.length s.Items:Int)-(List.length (s.Items.filter (fun x => !vC x.Key g)):Int))) else (s,0)
theorem aGz {α:Type} {f:α→Bool} {l:List α} {k:Nat} (h:k<l.length):(l.take (k+1)).filter f=(l.take k).filter f++(if f l[k]=true then [l[k]] else []):=by
 rw [←List.take_append_getElem h,List.filter_append]
 congr 1
 rw [List.filter_cons,List.filter_nil]
theorem aM1 {s:M.aA} (hz:M.aA.sz s≤1048576) {x:M.Item} (hx:x∈s.Items):M.Item.sz x≤1048576:=by
 have:=nY (f:=M.Item.sz) hx
 simp only [M.aA.sz] at hz
 omega
theorem xZ {s:M.aA} {g:M.eG} (hs:s.ok) (hl:g.Low.ok) (hh:g.High.ok) (hz:M.aA.sz s≤1048576):kT s g=some (aEZ s g):=by
 have hn:s.Items.length≤1048576:=by simp only [M.aA.sz] at hz;omega
 have key : ∀(n k:Nat) (r:List M.Item),s.Items.length-k<n→k≤s.Items.length→r=(s.Items.take k).filter (fun x => !vC x.Key g)→eU s g n (k:Int) r=some ((⟨s.Name,s.Items.filter (fun x => !vC x.Key g),s.Auto⟩:M.aA),i64.wrap ((List.length s.Items:Int)-(List.length (s.Items.filter (fun x => !vC x.Key g)):Int))):=by
  intro n
  induction n with
  | zero=>intro k r h;omega
  | succ n ih =>
   intro k r hk hle hr
   simp only [eU]
   rcases Nat.lt_or_ge k s.Items.length with hlt | hge
   ·have hx:=hs.Items.2 _ (qG hlt)
    have hrl:r.length≤1048576:=by
     rw [hr]
     refine Nat.le_trans (List.length_filter_le _ _) ?_
     rw [qT];omega
    rw [if_pos (bI hlt),aO hlt,qA,aDb hx.Key hl hh,qA]
    cases hq:vC s.Items[k].Key g with
    | true =>
     rw [if_neg (by simp),cU (by omega)]
     refine ih (k+1) r (by omega) hlt ?_
     rw [aGz hlt,hq,←hr]
     simp
    | false =>
     rw [if_pos (by simp),zZ _ (Nat.le_trans (aM1 hz (qG hlt)) (by omega)),qA,fC (by simp only [qJ,qK];omega),qA,cU (by omega)]
     refine ih (k+1) _ (by omega) hlt ?_
     rw [aGz hlt,hq,←hr]
     simp
   ·have e:k=s.Items.length:=by omega
    subst e
    rw [if_neg (by rw [aW];simp),hr,List.take_length]
 unfold kT aEZ
 rw [rA hs,qA,kC s (by omega)]
 cases fB s with
 | false=>rfl
 | true =>
  rw [if_neg (by simp),if_pos rfl]
  exact key fuel 0 [] (by unfold fuel;omega) (by omega) (by simp)
theorem aIj {s:M.aA} {g:M.eG} (hs:s.ok):(aEZ s g).1.ok∧M.aA.sz (aEZ s g).1≤M.aA.sz s:=by
 unfold aEZ
 split
 ·refine ⟨⟨hs.Name,⟨Nat.le_trans (List.length_filter_le _ _) hs.Items.1,fun y hy=>hs.Items.2 y (List.mem_filter.1 hy).1⟩,hs.Auto⟩,?_⟩
  have h4:=List.length_filter_le (fun x:M.Item => !vC x.Key g) s.Items
  have h5:=aFL (f:=M.Item.sz) (fun x:M.Item => !vC x.Key g) s.Items
  simp only [M.aA.sz]
  omega
 ·exact ⟨hs,Nat.le_refl _⟩
def aHm (s:M.aA) (k:M.Key) (r:M.aC):M.aA×Bool:=if rD (rE k) s.Items<0 then wL s k r else (s,false)
theorem aBR {s:M.aA} {k:M.Key} {r:M.aC} (hs:s.ok) (hk:k.ok) (hr:r.ok) (hR:bL r=true) (hz:M.aA.sz s≤1073741824) (hzr:M.aC.sz r≤1073741824):pW s k r=some (aHm s k r):=by
 unfold pW aHm
 rw [rY hs,qA,kC s hz,pU hs hk hr hR hz hzr]
 by_cases h:rD (rE k) s.Items<0
 ·rw [if_neg (by simp;omega),if_pos h];rfl
 ·rw [if_pos (by simp;omega),if_neg h];rfl
def aNc:M.eG:=(⟨false,false,(⟨0,0,(⟨#[]⟩:ByteArray)⟩:M.Key),(⟨0,0,(⟨#[]⟩:ByteArray)⟩:M.Key)⟩:M.eG)
def aPh (s:M.aA) (o:M.Op):M.aA×Int×Bool:=if (aC9 (gH s o.Key) o.Field (i64.wrap ((fJ (gH s o.Key) o.Field).1+1))).2=true then ((wL s o.Key (aC9 (gH s o.Key) o.Field (i64.wrap ((fJ (gH s o.Key) o.Field).1+1))).1).1,i64.wrap ((fJ (gH s o.Key) o.Field).1+1),(wL s o.Key (aC9 (gH s o.Key) o.Field (i64.wrap ((fJ (gH s o.Key) o.Field).1+1))).1).2) else (s,0,false)
def nOn (s:M.aA) (o:M.Op):M.aA×Int×Bool:=if o.Kind=1 then ((wL s o.Key o.aC).1,1,(wL s o.Key o.aC).2) else if o.Kind=2 then ((aHm s o.Key o.aC).1,1,(aHm s o.Key o.aC).2) else if o.Kind=3 then ((aEZ s (⟨true,true,o.Key,o.Key⟩:M.eG)).1,(aEZ s (⟨true,true,o.Key,o.Key⟩:M.eG)).2,true) else if o.Kind=4 then (if rD (rE o.Key) s.Items<0 then (s,-1,true) else (s,(List.length (gH s o.Key).Fields:Int),true)) else if o.Kind=5 then ((aEZ s aNc).1,(aEZ s aNc).2,true) else aPh s o
theorem aHx:M.Key.ok (⟨0,0,(⟨#[]⟩:ByteArray)⟩:M.Key):=⟨rG,rG,sz0⟩
theorem aGR {s:M.aA} {k:M.Key} (h : ¬rD (rE k) s.Items<0) : ∃x,idx s.Items (rD (rE k) s.Items)=some x∧x.aC=gH s k:=by
 obtain ⟨j,e,hj⟩:=lM h
 refine ⟨s.Items[j],by rw [e,aO hj],?_⟩
 unfold gH
 rw [if_neg h,e,qH,qF hj]
theorem aIc {s:M.aA} {k:M.Key} (h:rD (rE k) s.Items<0):gH s k=(⟨([]:List M.Field)⟩:M.aC):=by
 unfold gH
 rw [if_pos h]
theorem zW:bL (⟨([]:List M.Field)⟩:M.aC)=true:=by rfl
theorem aLT {s:M.aA} (h:fB s=true) (k:M.Key):bL (gH s k)=true:=by
 by_cases hf:rD (rE k) s.Items<0
 ·rw [aIc hf];exact zW
 ·obtain ⟨j,e,hj⟩:=lM hf
  obtain ⟨x,e1,e2⟩:=aGR hf
  rw [←e2]
  rw [e,aO hj] at e1
  obtain rfl:=Option.some.inj e1
  exact ((aCJ (pB h).1).1 j _ (qF hj)).2
theorem aIo {r:M.aC} (h:bL r=true) (a:ByteArray) (n:Int):bL (aC9 r a n).1=true:=by
 cases e:(aC9 r a n).2 with
 | true=>exact aAo e
 | false =>
  unfold aC9 aFt at e ⊢
  rw [if_pos h] at e ⊢
  split
  ·rename_i h2;rw [if_pos h2] at e;cases e
  ·exact h
structure aMB (x:M.aA) (y:M.Op):Prop where
 s:x.ok
 o:aEx y
 n:nOp y=true
 t:fB x=true
theorem aMB.z {s:M.aA} {o:M.Op} (h:aMB s o):M.aA.sz s≤10000:=lK h.t
theorem aMB.r {s:M.aA} {o:M.Op} (h:aMB s o):M.aC.sz o.aC≤100:=aBO (yZ h.n).2.2.2.2
theorem aGy {s:M.aA} {o:M.Op} (h:aMB s o):(gH s o.Key).ok∧M.aC.sz (gH s o.Key)≤100∧(aC9 (gH s o.Key) o.Field (i64.wrap ((fJ (gH s o.Key) o.Field).1+1))).1.ok∧bL (aC9 (gH s o.Key) o.Field (i64.wrap ((fJ (gH s o.Key) o.Field).1+1))).1=true:=by
 have h1:=aLT h.t o.Key
 have h2:=aBw (k:=o.Key) h.s
 have h3:=(pD h1).1
 exact ⟨h2,aBO h1,aFw h2 (by omega) h.o.2.2.2.2 (cJ _),aIo h1 _ _⟩
theorem aHV {s:M.aA} {o:M.Op} (h:aMB s o) : ∃x,vM s o.Key o.Field=some x∧x.2.2=(aPh s o).2.2∧(x.2.2=true→x=aPh s o):=by
 have hz:=h.z
 obtain ⟨i1,i2,i3,i4⟩:=aGy h
 have i5:=aBO i4
 unfold vM aPh
 rw [rY h.s,qA]
 by_cases hf:rD (rE o.Key) s.Items<0
 ·rw [aIc hf] at i1 i2 i3 i4 i5 ⊢
  rw [if_neg (by simp;omega),mC i1,qA,uE i1 (by omega) h.o.2.2.2.2 (cJ _),qA,pU h.s h.o.2.2.1 i3 i4 (by omega) (by omega),qA]
  cases (aC9 (⟨([]:List M.Field)⟩:M.aC) o.Field (i64.wrap ((fJ (⟨([]:List M.Field)⟩:M.aC) o.Field).1+1))).2
  ·exact ⟨_,rfl,rfl,fun e=>by cases e⟩
  ·exact ⟨_,rfl,rfl,fun _=>rfl⟩
 ·obtain ⟨x,e1,e2⟩:=aGR hf
  rw [if_pos (by simp;omega),e1,qA,e2,mC i1,qA,uE i1 (by omega) h.o.2.2.2.2 (cJ _),qA,pU h.s h.o.2.2.1 i3 i4 (by omega) (by omega),qA]
  cases (aC9 (gH s o.Key) o.Field (i64.wrap ((fJ (gH s o.Key) o.Field).1+1))).2
  ·exact ⟨_,rfl,rfl,fun e=>by cases e⟩
  ·exact ⟨_,rfl,rfl,fun _=>rfl⟩
theorem aE0 {s:M.aA} {o:M.Op} (h:aMB s o) : ∃x,sZ s o=some x∧x.2.2=(nOn s o).2.2∧(x.2.2=true→x=nOn s o):=by
 have hz:=h.z
 have hr:=h.r
 have same : ∀ {m:Option (M.aA×Int×Bool)} {y:M.aA×Int×Bool},m=some y → ∃x,m=some x∧x.2.2=y.2.2∧(x.2.2=true→x=y):=fun e=>⟨_,e,rfl,fun _=>rfl⟩
 unfold sZ nOn
 rw [rY h.s,qA,kC s (by omega),pU h.s h.o.2.2.1 h.o.2.2.2.1 (yZ h.n).2.2.2.2 (by omega) (by omega),aBR h.s h.o.2.2.1 h.o.2.2.2.1 (yZ h.n).2.2.2.2 (by omega) (by omega),xZ h.s h.o.2.2.1 h.o.2.2.1 (by omega),xZ (g:=(⟨false,false,(⟨0,0,(⟨#[]⟩:ByteArray)⟩:M.Key),(⟨0,0,(⟨#[]⟩:ByteArray)⟩:M.Key)⟩:M.eG)) h.s aHx aHx (by omega)]
 by_cases k1:o.Kind=1
 ·rw [if_pos (by simpa using k1),if_pos k1];exact same rfl
 rw [if_neg (by simpa using k1),if_neg k1]
 by_cases k2:o.Kind=2
 ·rw [if_pos (by simpa using k2),if_pos k2];exact same rfl
 rw [if_neg (by simpa using k2),if_neg k2]
 by_cases k3:o.Kind=3
 ·rw [if_pos (by simpa using k3),if_pos k3];exact same rfl
 rw [if_neg (by simpa using k3),if_neg k3]
 by_cases k4:o.Kind=4
 ·rw [if_pos (by simpa using k4),if_pos k4]
  by_cases hf:rD (rE o.Key) s.Items<0
  ·rw [if_pos (by simpa using hf),if_pos hf];exact same rfl
  ·obtain ⟨x,e1,e2⟩:=aGR hf
   rw [if_neg (by simpa using hf),if_neg hf,qA,e1,qA,e2];exact same rfl
 rw [if_neg (by simpa using k4),if_neg k4]
 by_cases k5:o.Kind=5
 ·rw [if_pos (by simpa using k5),if_pos k5];exact same rfl
 ·rw [if_neg (by simpa using k5),if_neg k5]
  obtain ⟨x,e1,e2,e3⟩:=aHV h
  rw [e1,qA]
  exact ⟨_,rfl,e2,e3⟩
theorem aEn {s:M.aA} {k:M.Key} {r:M.aC} (hs:s.ok) (ht:fB s=true) (hk:k.ok) (hr:r.ok) (hR:bL r=true):(wL s k r).1.ok∧M.aA.sz (wL s k r).1≤10000:=by
 have hz:=lK ht
 refine ⟨aF2 hs (by simp only [M.aA.sz] at hz;omega) hk hr,?_⟩
 cases e:(wL s k r).2 with
 | true=>exact lK (yR hR e)
 | false=>rw [aDA e];exact hz
theorem aLx {s:M.aA} {o:M.Op} (h:aMB s o):(nOn s o).1.ok∧M.aA.sz (nOn s o).1≤10000:=by
 have hz:=h.z
 have hR:=(yZ h.n).2.2.2.2
 obtain ⟨i1,i2,i3,i4⟩:=aGy h
 have hd : ∀g,(aEZ s g).1.ok∧M.aA.sz (aEZ s g).1≤10000:=fun g=>⟨(aIj h.s).1,Nat.le_trans (aIj h.s).2 hz⟩
 unfold nOn aPh aHm
 split
 ·exact aEn h.s h.t h.o.2.2.1 h.o.2.2.2.1 hR
 split
 ·split
  ·exact aEn h.s h.t h.o.2.2.1 h.o.2.2.2.1 hR
  ·exact ⟨h.s,hz⟩
 split
 ·exact hd _
 split
 ·split<;>exact ⟨h.s,hz⟩
 split
 ·exact hd _
 split
 ·exact aEn h.s h.t h.o.2.2.1 i3 i4
 ·exact ⟨h.s,hz⟩
theorem aD1 {d:M.Database} (h:nDb d=true):(∀(k:Nat) (hk:k<d.Stores.length),fB d.Stores[k]=true)∧d.Name.size≤8∧d.Stores.length≤4∧d.Unique.length≤4 ∧ ∀u∈d.Unique,u.Field.size≤8:=by
 unfold nDb at h
 simp only [qM,qL,qQ,qR] at h
 obtain ⟨h1,h2,h3,_,h5,h6⟩:=h
 refine ⟨fun k hk => ?_,?_,h5,h6,fun u hu => ?_⟩
 ·have:=h1 k hk
  unfold zY at this
  rw [qF hk,qM,Option.any_some] at this
  exact this.1
 ·unfold nS inR at h3
  simp only [qM,qL] at h3
  omega
 ·obtain ⟨k,hk,rfl⟩:=List.getElem_of_mem hu
  have:=h2 k hk
  unfold aAT nS inR at this
  rw [qF hk] at this
  simp only [Option.any_some,qM,qL] at this
  omega
end Go.Proofs.YtidhkhdnjonjfaaGreat.gen
