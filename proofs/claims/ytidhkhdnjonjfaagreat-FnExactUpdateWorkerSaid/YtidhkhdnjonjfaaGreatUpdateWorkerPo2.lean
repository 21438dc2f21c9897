/-
  Helper text. No conditions.
-/
import Derived.Test.YtidhkhdnjonjfaaGreatUpdateWorkerPn
set_option linter.unusedVariables false
set_option linter.unusedSimpArgs false
namespace Go.Proofs.YtidhkhdnjonjfaaGreat.gen
open Go Go.Sh
open Go.IntKind (i64)
def aDq (a b:ByteArray) (x:M.Cached):Bool:=(x.Site.toList==a.toList)&&(x.Path.toList==b.toList)
theorem aJp {c:M.Cache} {a b:ByteArray} (hc:c.ok):aAd c a b=some (yK (aDq a b) c.Entries):=by
 have hm:=le_max hc.Entries.1
 unfold aAd
 rw [findAll (L:=jO c a b) (f:=aDq a b) (A:=fun i=>some (i:Int)) (E:=some (-1)) hc.Entries.1 (fun m k hk => ?_) (fun m => ?_),uE]
 ·simp only [jO]
  rw [if_pos (aY hk),aM hk,qA,bC (by omega),aQ2]
  rfl
 ·simp only [jO]
  rw [if_neg (by rw [aO];simp)]
theorem aJo {c:M.Cache} {a b:ByteArray} (hc:c.ok):lE c a b=some (yK (aDq a b) c.Entries):=by
 unfold lE
 rw [aDO (f:=aDq a b) hc.Entries.1 (fun x _=>by simp only [pA,bN];rfl),qA]
theorem aGE {l:List Int} (hl:l.length≤1048576):sA l=some ([(List.length l:Int)]++l.map i64.wrap):=by
 unfold sA
 have:=aMO (b:=8) (xs:=l) (f:=i64.wrap) (L:=gQ l) (fun n k hk r => ?_) (fun n r => ?_) fuel 0 ([(List.length l:Int)]) (by unfold fuel;omega) (by omega) (by simp;omega)
 ·simpa using this
 ·simp only [gQ]
  rw [if_pos (aY hk),aM hk,qA,bC (by omega)]
 ·simp only [gQ]
  rw [if_neg (by rw [aO];simp)]
theorem aGJ {l:List Int} (hl:l.length≤1048576):rU l=some ([(List.length l:Int)]++l.map i64.wrap):=by
 unfold rU
 have:=aMO (b:=8) (xs:=l) (f:=i64.wrap) (L:=gR l) (fun n k hk r => ?_) (fun n r => ?_) fuel 0 ([(List.length l:Int)]) (by unfold fuel;omega) (by omega) (by simp;omega)
 ·simpa using this
 ·simp only [gR]
  rw [if_pos (aY hk),aM hk,qA,bC (by omega)]
 ·simp only [gR]
  rw [if_neg (by rw [aO];simp)]
theorem aNV (x:Int):aDe x 2147483647=some (aLy x):=by
 have e:bF 2147483647 1 1000000000000=some true:=by decide
 unfold aDe
 rw [e,qA,if_neg (by simp),if_neg (by simp),aP0]
theorem aNr (x:Int):aDx x 2147483647=some (aLy x):=by
 have e:aZ 2147483647 1 1000000000000=some true:=by decide
 unfold aDx
 rw [e,qA,if_neg (by simp),if_neg (by simp),aQj]
theorem aMI {l:List Int} (hl:l.length≤maxLen):aDB l=some (aHP l):=by
 have hm:=le_max hl
 unfold aDB aHP
 refine aFZ (L:=sH l) (E:=some) hl (fun n v k hk => ?_) (fun n v => ?_) 11
 ·simp only [sH]
  rw [if_pos (aY hk),aM hk,qA,aNV,qA,bC (by omega)]
  rfl
 ·simp only [sH]
  rw [if_neg (by rw [aO];simp)]
theorem aEO {k:Int} {l:List Int} (hl:l.length≤2000000):pF k l=some (aHP (([k]++l)++[k])):=by
 unfold pF
 rw [lM (by simp;omega),qA,lM (by simp;omega),qA,aMI (by simp [maxLen];omega),qA]
theorem aMB {l:List Int} (hl:l.length≤maxLen):aDF l=some (aHP l):=by
 have hm:=le_max hl
 unfold aDF aHP
 refine aFZ (L:=sK l) (E:=some) hl (fun n v k hk => ?_) (fun n v => ?_) 11
 ·simp only [sK]
  rw [if_pos (aY hk),aM hk,qA,aNr,qA,bC (by omega)]
  rfl
 ·simp only [sK]
  rw [if_neg (by rw [aO];simp)]
theorem aEY {k:Int} {l:List Int} (hl:l.length≤2000000):pG k l=some (aHP (([k]++l)++[k])):=by
 unfold pG
 rw [lM (by simp;omega),qA,lM (by simp;omega),qA,aMB (by simp [maxLen];omega),qA]
def aEn (k:Int) (s:ByteArray):Int:=if aHP (([k]++([(List.length (fJ s):Int)]++(fJ s).map i64.wrap))++[k])=0 then 1 else aHP (([k]++([(List.length (fJ s):Int)]++(fJ s).map i64.wrap))++[k])
theorem aF5 {k:Int} {s:ByteArray} (hs:s.size≤1048576):gY k s=some (aEn k s):=by
 have hl:=bG s
 unfold gY yF aEn
 rw [aGE (by omega),qA,aEO (by simp;omega),qA]
 have:=aOx (([k]++([(List.length (fJ s):Int)]++(fJ s).map i64.wrap))++[k])
 generalize aHP (([k]++([(List.length (fJ s):Int)]++(fJ s).map i64.wrap))++[k])=h at *
 by_cases h0:h=0
 ·rw [if_neg (by simp;omega),if_pos h0];rfl
 ·rw [if_neg h0]
  by_cases h1:h=1
  ·rw [if_neg (by simp;omega),h1];rfl
  ·rw [if_pos (by simp;omega)];rfl
theorem aGT {k:Int} {s:ByteArray} (hs:s.size≤1048576):hP k s=some (aEn k s):=by
 have hl:=bG s
 unfold hP aEn
 rw [aGJ (by omega),qA,aEY (by simp;omega),qA]
 generalize aHP (([k]++([(List.length (fJ s):Int)]++(fJ s).map i64.wrap))++[k])=h
 by_cases h0:h=0
 ·rw [if_pos (by simp [h0]),if_pos h0]
 ·rw [if_neg (by simp [h0]),if_neg h0]
theorem aLR {x:Int} (h0:0≤x) (h1:x<2147483647) : ∀(n:Nat) (v:Int) (r:List Int),pB x n v r=eZ x n v r
 | 0,_,_=>rfl
 | n+1,v,r=>by
  simp only [pB,eZ,aRg h0 h1,aLR h0 h1 n]
theorem aRw (x:Int) : ∃l,eZ x fuel 5 ([]:List Int)=some l∧(okB l∧l.length≤6):=by
 have st : ∀n (v:Nat) r,r.length≤7→(∀y∈r,0≤y∧y≤255)→v≤5 → ∃y:Int,(0≤y∧y≤255)∧eZ x (n+1) (v:Int) r=eZ x n ((v:Int)-1) (r++[y]):=by
  intro n v r hr hy hv
  refine ⟨IntKind.u8.wrap (Int.fdiv x (2^(min (i64.wrap (8*(v:Int))).toNat IntKind.i64.bits))),by rw [wrap_u8];omega,?_⟩
  simp only [eZ]
  rw [if_pos (by simp),if_pos (by rw [fB (by omega) (by omega)];simp;omega),lM (by simp;omega),qA,fB (n:=(v:Int)-1) (by omega) (by omega)]
 have e7 : ∀n r,eZ x (n+1) (-1) r=some r:=by
  intro n r
  simp only [eZ]
  rw [if_neg (by decide)]
 rw [aRc]
 obtain ⟨x1,b1,e1⟩:=st (18446744073709551609+6) 5 [] (by simp) (by simp) (by simp)
 obtain ⟨x2,b2,e2⟩:=st (18446744073709551609+5) 4 ([]++[x1]) (by simp) (by simpa using b1) (by simp)
 obtain ⟨x3,b3,e3⟩:=st (18446744073709551609+4) 3 ([]++[x1]++[x2]) (by simp) (by simpa using ⟨b1,b2⟩) (by simp)
 obtain ⟨x4,b4,e4⟩:=st (18446744073709551609+3) 2 ([]++[x1]++[x2]++[x3]) (by simp) (by simpa using ⟨b1,b2,b3⟩) (by simp)
 obtain ⟨x5,b5,e5⟩:=st (18446744073709551609+2) 1 ([]++[x1]++[x2]++[x3]++[x4]) (by simp) (by simpa using ⟨b1,b2,b3,b4⟩) (by simp)
 obtain ⟨x6,b6,e6⟩:=st (18446744073709551609+1) 0 ([]++[x1]++[x2]++[x3]++[x4]++[x5]) (by simp) (by simpa using ⟨b1,b2,b3,b4,b5⟩) (by simp)
 exact ⟨_,(e1.trans (e2.trans (e3.trans (e4.trans (e5.trans (e6.trans (e7 _ _))))))),⟨by simp [maxLen],by simpa using ⟨b1,b2,b3,b4,b5,b6⟩⟩,by simp⟩
theorem aQB {t:M.Site} {f:ByteArray} {v:Int} (h1:t.Name.size≤1048576) (h2:f.size≤1048576) : ∃l,aBx t f v=some l∧aCD t f v=some l∧(okB l∧l.length≤6):=by
 unfold aBx aCD
 rw [aF5 h1,aGT h1,qA,qA,aF5 h2,aGT h2,qA,qA,aEO (by simp),aEY (by simp),qA,qA]
 have hb:=aOx (([i64.wrap (1+v)]++[103,aEn 107 t.Name,aEn 109 f])++[i64.wrap (1+v)])
 rw [aLR hb.1 hb.2]
 obtain ⟨l,e,hl⟩:=aRw (aHP (([i64.wrap (1+v)]++[103,aEn 107 t.Name,aEn 109 f])++[i64.wrap (1+v)]))
 exact ⟨l,e,e,hl⟩
theorem aLV {s:M.Site} (h:aIq s=true):1≤s.Version∧s.Version≤1000000000000:=by
 simp only [aIq,qM,inR,qL] at h
 exact h.2.2.1
def aE4 (s:M.Site) (v:Int):Bool:=aIq s&&(decide (v>s.Version-2)&&(decide (v≤s.Version)&&decide (v≥1)))
theorem aGH {s:M.Site} {v:Int} (hs:s.ok):jY s v=some (aE4 s v):=by
 unfold jY aE4
 rw [aD9 hs,qA]
 cases hn:aIq s with
 | false=>simp
 | true =>
  have hv:=aLV hn
  rw [if_pos rfl,fB (n:=s.Version-2) (by omega) (by omega),fB (by omega) (by omega)]
  unfold yF bF
  by_cases h:s.Version-2+1>1
  ·rw [if_pos (by simpa using h),qA]
   by_cases h1:v≥s.Version-2+1
   ·rw [if_pos (by simpa using h1),qA]
    have e1:decide (v>s.Version-2)=true:=by simp;omega
    have e2:decide (v≥1)=true:=by simp;omega
    rw [e1,e2];simp
   ·rw [if_neg (by simpa using h1),qA]
    have e1:decide (v>s.Version-2)=false:=by simp;omega
    rw [e1];simp
  ·rw [if_neg (by simpa using h),qA]
   by_cases h1:v≥1
   ·rw [if_pos (by simpa using h1),qA]
    have e1:decide (v>s.Version-2)=true:=by simp;omega
    have e2:decide (v≥1)=true:=by simpa using h1
    rw [e1,e2];simp
   ·rw [if_neg (by simpa using h1),qA]
    have e2:decide (v≥1)=false:=by simpa using h1
    rw [e2];simp
theorem aGG {s:M.Site} {v:Int} (hs:s.ok):kA s v=some (aE4 s v):=by
 unfold kA aE4
 rw [aD4 hs,qA]
 cases hn:aIq s with
 | false=>simp
 | true =>
  have hv:=aLV hn
  rw [if_pos rfl,fB (n:=s.Version-2) (by omega) (by omega)]
  cases decide (v>s.Version-2)<;>cases decide (v≤s.Version)<;>simp
def aSM (s:M.Site) (f:ByteArray):Bool:=s.Files.any fun x=>x.toList==f.toList
theorem aJl {s:M.Site} {f:ByteArray} (hs:s.ok):aAf s f=some (aSM s f):=by
 have hm:=le_max hs.Files.1
 unfold aAf aSM
 rw [findAll (L:=kP s f) (f:=fun x:ByteArray=>x.toList==f.toList) (A:=fun _=>some true) (E:=some false) hs.Files.1 (fun m k hk => ?_) (fun m => ?_),aQW]
 ·cases s.Files.any (fun x=>x.toList==f.toList)<;>rfl
 ·simp only [kP]
  rw [if_pos (aY hk),aM hk,qA,bC (by omega)]
 ·simp only [kP]
  rw [if_neg (by rw [aO];simp)]
theorem aJg {s:M.Site} {f:ByteArray} (hs:s.ok):aAq s f=some (aSM s f):=by
 have hm:=le_max hs.Files.1
 unfold aAq lU jK aSM
 rw [findAll (L:=bQ s.Files f) (f:=fun x:ByteArray=>x.toList==f.toList) (A:=fun i=>some (i:Int)) (E:=some (-1)) hs.Files.1 (fun m k hk => ?_) (fun m => ?_),uE,qA,qA,aIP]
 ·simp only [bQ]
  rw [if_pos (aY hk),aM hk,qA,bC (by omega),Bool.beq_comm]
 ·simp only [bQ]
  rw [if_neg (by rw [aO];simp)]
theorem aSJ:M.Response.ok (⟨4,0,0,([]:List Int),false⟩:M.Response):=⟨by unfold inI;simp,by unfold inI;simp,by unfold inI;simp,⟨by simp [maxLen],by simp⟩⟩
theorem aMX {s:M.Site} {f:ByteArray} {v:Int} (hs:s.ok) (hv:inI v) (zs:M.Site.sz s≤1048576) (zf:f.size≤1048576) : ∃r,mO s f v=some r∧pE s f v=some r∧(M.Response.ok r∧M.Response.sz r≤6):=by
 have hn:s.Name.size≤1048576:=by simp only [M.Site.sz] at zs;omega
 obtain ⟨l,e1,e2,hl⟩:=aQB (t:=s) (f:=f) (v:=v) hn zf
 unfold mO pE sP sR
 rw [aD9 hs,aD4 hs,aGH hs,aGG hs,aJl hs,aJg hs,e1,e2]
 have n404:M.Response.ok (⟨1,404,s.Version,([]:List Int),false⟩:M.Response):=⟨by unfold inI;simp,by unfold inI;simp,hs.Version,⟨by simp [maxLen],by simp⟩⟩
 simp only [qA]
 cases aIq s
 ·exact ⟨_,rfl,rfl,aSJ,by simp [M.Response.sz]⟩
 ·cases aE4 s v
  ·exact ⟨_,rfl,rfl,n404,by simp [M.Response.sz]⟩
  ·cases aSM s f
   ·exact ⟨_,rfl,rfl,n404,by simp [M.Response.sz]⟩
   ·exact ⟨_,rfl,rfl,⟨by unfold inI;simp,by unfold inI;simp,hv,hl.1⟩,hl.2⟩
def aD2 (r:M.Registration):Int:=max r.Active (max r.Waiting r.Installing)
theorem aJt (a b:Int):yF a b=some (max a b):=by
 unfold yF
 split<;>(rename_i h;simp at h;congr 1;omega)
theorem aFL (r:M.Registration):mY r=some (aD2 r):=by
 unfold mY aD2
 rw [aJt,qA,aJt,qA]
theorem aFP (r:M.Registration):mS r=some (aD2 r):=by
 unfold mS aD2
 congr 1
 split<;>split<;>omega
def aGc (r:M.Registration) (v:Int):M.Registration×Bool:=if (aMZ r&&(decide (1≤v)&&(r.Installing==0&&aMZ (⟨r.Site,v,r.Waiting,r.Active⟩:M.Registration))))=true then ((⟨r.Site,v,r.Waiting,r.Active⟩:M.Registration),true) else (r,false)
theorem aFs {r:M.Registration} {v:Int} (hr:r.ok) (hv:inI v):oJ r v=some (aGc r v):=by
 unfold oJ aGc
 have h2:M.Registration.ok (⟨r.Site,v,r.Waiting,r.Active⟩:M.Registration):=⟨hr.Site,hv,hr.Waiting,hr.Active⟩
 rw [lL hr,lL h2]
 simp only [qA]
 rw [show decide (1≤v) = !decide (v<1) from by rw [←decide_not];congr 1;rw [Int.not_lt],show (r.Installing==0) = !(r.Installing != 0) from by simp [bne]]
 generalize aMZ (⟨r.Site,v,r.Waiting,r.Active⟩:M.Registration)=a
 cases aMZ r<;>cases a<;>cases decide (v<1)<;>cases (r.Installing != 0)<;>rfl
theorem aFj {r:M.Registration} {v:Int} (hr:r.ok) (hv:inI v):oA r v=some (aGc r v):=by
 unfold oA aGc
 have h2:M.Registration.ok (⟨r.Site,v,r.Waiting,r.Active⟩:M.Registration):=⟨hr.Site,hv,hr.Waiting,hr.Active⟩
 rw [rV hr,rV h2]
 simp only [qA]
 rw [show decide (1≤v) = !decide (v<1) from by rw [←decide_not];congr 1;rw [Int.not_lt],show (r.Installing==0) = !(r.Installing != 0) from by simp [bne]]
 generalize aMZ (⟨r.Site,v,r.Waiting,r.Active⟩:M.Registration)=a
 cases aMZ r<;>cases a<;>cases decide (v<1)<;>cases (r.Installing != 0)<;>rfl
theorem aPH {r:M.Registration} {v:Int} (hr:r.ok) (hv:inI v):M.Registration.ok (aGc r v).1:=by
 unfold aGc
 split
 ·exact ⟨hr.Site,hv,hr.Waiting,hr.Active⟩
 ·exact hr
theorem aOC (r:M.Registration) (v:Int):M.Registration.sz (aGc r v).1=M.Registration.sz r:=by
 unfold aGc
 split<;>rfl
def aQD (r:M.Registration) (ok:Bool):M.Registration×Int:=if (aMZ r && !(r.Installing==0))=true then (if ok=true then ((⟨r.Site,0,r.Installing,r.Active⟩:M.Registration),r.Waiting) else ((⟨r.Site,0,r.Waiting,r.Active⟩:M.Registration),r.Installing)) else (r,0)
theorem aHD {r:M.Registration} {ok:Bool} (hr:r.ok):tB r ok=some (aQD r ok):=by
 unfold tB aQD
 rw [lL hr,qA]
 cases aMZ r<;>cases ok<;>cases (r.Installing==0)<;>simp
theorem aGr {r:M.Registration} {ok:Bool} (hr:r.ok):sZ r ok=some (aQD r ok):=by
 unfold sZ aQD
 rw [rV hr,qA]
 cases aMZ r<;>cases ok<;>cases (r.Installing==0)<;>simp
theorem aRi {r:M.Registration} {ok:Bool} (hr:r.ok):M.Registration.ok (aQD r ok).1:=by
 have z:inI 0:=by unfold inI;simp
 unfold aQD
 split
 ·split
  ·exact ⟨hr.Site,z,hr.Installing,hr.Active⟩
  ·exact ⟨hr.Site,z,hr.Waiting,hr.Active⟩
 ·exact hr
theorem aRh (r:M.Registration) (ok:Bool):M.Registration.sz (aQD r ok).1=M.Registration.sz r:=by
 unfold aQD
 split
 ·split<;>rfl
 ·rfl
def aHR (s:M.aA) (v:Int):Nat:=(s.Caches.takeWhile fun c=>decide (c.Version<v)).length
def aDG (s:M.aA) (v:Int) (k:Nat):List M.Cache:=s.Caches.take k++((⟨v,([]:List M.Cached)⟩:M.Cache)::s.Caches.drop k)
def aFG (s:M.aA) (v:Int):M.aA×Bool:=if (bS s&&bS (⟨aDG s v (aHR s v)⟩:M.aA))=true then ((⟨aDG s v (aHR s v)⟩:M.aA),true) else (s,false)
theorem aIS {s:M.aA} {v:Int} (hs:s.ok) (hv:inI v) (hl:s.Caches.length≤1073741824) (k:Nat):M.aA.ok (⟨aDG s v k⟩:M.aA):=by
 refine ⟨⟨?_,fun x hx => ?_⟩⟩
 ·show (aDG s v k).length≤maxLen
  unfold aDG maxLen
  simp only [qE,qJ,qT,qU]
  omega
 ·have hx:x∈aDG s v k:=hx
  unfold aDG at hx
  rcases List.mem_append.1 hx with hx | hx
  ·exact hs.Caches.2 x (List.mem_of_mem_take hx)
  ·rcases List.mem_cons.1 hx with rfl | hx
   ·exact ⟨hv,⟨by simp [maxLen],by simp⟩⟩
   ·exact hs.Caches.2 x (List.mem_of_mem_drop hx)
def aJ9 (s:M.aA) (v:Int) (k:Nat):Option (M.aA×Bool):=(bY s).bind fun a=>if (!a)=true then ((bH s).bind fun y=>some (y,false)) else ((bY (⟨aDG s v k⟩:M.aA)).bind fun b=>if (!b)=true then ((bH s).bind fun y=>some (y,false)) else some ((⟨aDG s v k⟩:M.aA),true))
theorem aIJ {s:M.aA} {v:Int} (hs:s.ok) (hv:inI v) (hz:M.aA.sz s≤1073741824):xR s v=some (aFG s v):=by
 have hl:s.Caches.length≤1073741824:=by simp only [M.aA.sz] at hz;omega
 have hm:=le_max hs.Caches.1
 unfold xR
 rw [nF s hz,qA,aKr (l:=s.Caches) (f:=fun c:M.Cache=>decide (c.Version<v)) (L:=jA s v s) (S:=aJ9 s v) hs.Caches.1 (fun n k hk => ?_) (fun n => ?_)]
 ·unfold aJ9 aFG
  rw [kY hs,qA,kY (aIS hs hv hl _),qA,nF s hz,qA]
  show _=some (if (bS s&&bS (⟨aDG s v (aHR s v)⟩:M.aA))=true then _ else _)
  unfold aHR
  generalize bS (⟨aDG s v (List.takeWhile (fun c:M.Cache=>decide (c.Version<v)) s.Caches).length⟩:M.aA)=b
  cases bS s<;>cases b<;>rfl
 ·simp only [jA]
  rw [if_pos (aY hk),aM hk,qA,bC (by omega)]
  by_cases h:s.Caches[k].Version<v
  ·rw [if_pos (by simpa using h),if_pos (by simpa using h)]
  ·rw [if_neg (by simpa using h),if_neg (by simpa using h)]
   rw [aFm (by omega),qA,qH,lM (by simp only [qK,qT];omega),qA,lM (by simp only [qJ,qK,qT];omega),qA,lM (by simp only [qE,qJ,qK,qT,qU];omega),qA,qS]
   rfl
 ·simp only [jA]
  rw [if_neg (by rw [aO];simp)]
  rw [aFm (Nat.le_refl _),qA,qH,lM (by simp only [qK,qT];omega),qA,lM (by simp only [qJ,qK,qT];omega),qA,lM (by simp only [qE,qJ,qK,qT,qU];omega),qA,qS]
  rfl
def aKA (s:M.aA) (v:Int) (k:Nat):Option (M.aA×Bool):=(bX s).bind fun a=>if (!a)=true then ((bD s).bind fun y=>some (y,false)) else ((bX (⟨aDG s v k⟩:M.aA)).bind fun b=>if (!b)=true then ((bD s).bind fun y=>some (y,false)) else some ((⟨aDG s v k⟩:M.aA),true))
theorem aIK {s:M.aA} {v:Int} (hs:s.ok) (hv:inI v) (hz:M.aA.sz s≤1073741824):wH s v=some (aFG s v):=by
 have hl:s.Caches.length≤1073741824:=by simp only [M.aA.sz] at hz;omega
 have hm:=le_max hs.Caches.1
 unfold wH
 rw [iY s hz,qA,aKr (l:=s.Caches) (f:=fun c:M.Cache=>decide (c.Version<v)) (L:=iQ s v s) (S:=aKA s v) hs.Caches.1 (fun n k hk => ?_) (fun n => ?_)]
 ·unfold aKA aFG
  rw [kM hs,qA,kM (aIS hs hv hl _),qA,iY s hz,qA]
  show _=some (if (bS s&&bS (⟨aDG s v (aHR s v)⟩:M.aA))=true then _ else _)
  unfold aHR
  generalize bS (⟨aDG s v (List.takeWhile (fun c:M.Cache=>decide (c.Version<v)) s.Caches).length⟩:M.aA)=b
  cases bS s<;>cases b<;>rfl
 ·simp only [iQ]
  rw [if_pos (aY hk),aM hk,qA,bC (by omega)]
  by_cases h:s.Caches[k].Version<v
  ·rw [if_pos (by simpa using h),if_pos (by simpa using h)]
  ·rw [if_neg (by simpa using h),if_neg (by simpa using h)]
   rw [aIM (by simp only [qH,qJ,qK];omega),qA,qH]
   rfl
 ·simp only [iQ]
  rw [if_neg (by rw [aO];simp)]
  rw [aIM (by simp only [qH,qJ,qK];omega),qA,qH]
  rfl
theorem aKR {s:M.aA} {v:Int} (hs:s.ok) (hv:inI v) (hz:M.aA.sz s≤1073741824):M.aA.ok (aFG s v).1:=by
 have hl:s.Caches.length≤1073741824:=by simp only [M.aA.sz] at hz;omega
 unfold aFG
 split
 ·exact aIS hs hv hl _
 ·exact hs
theorem aJI {s:M.aA} {v:Int} (h:(aFG s v).2=true):bS (aFG s v).1=true:=by
 unfold aFG at h ⊢
 split at h
 ·rename_i h1
  rw [if_pos h1]
  exact (Bool.and_eq_true_iff.1 h1).2
 ·cases h
def aHm (c:M.Cache) (a p:ByteArray) (x:M.Response):M.Cache:=(⟨c.Version,if yK (aDq a p) c.Entries≥0 then c.Entries.set (yK (aDq a p) c.Entries).toNat (⟨a,p,x⟩:M.Cached) else c.Entries++[(⟨a,p,x⟩:M.Cached)]⟩:M.Cache)
def aJ8 (s:M.aA) (v:Int) (a p:ByteArray) (x:M.Response):List M.Cache:=match s.Caches[(yK (fun c:M.Cache=>c.Version==v) s.Caches).toNat]? with
 | some c=>s.Caches.set (yK (fun c:M.Cache=>c.Version==v) s.Caches).toNat (aHm c a p x)
 | none=>s.Caches
def aGu (s:M.aA) (v:Int) (a p:ByteArray) (x:M.Response):M.aA×Bool:=if yK (fun c:M.Cache=>c.Version==v) s.Caches<0 then (s,false) else (if (bS s&&bS (⟨aJ8 s v a p x⟩:M.aA))=true then ((⟨aJ8 s v a p x⟩:M.aA),true) else (s,false))
theorem aOB {c:M.Cache} {a p:ByteArray} {x:M.Response} (hc:c.ok) (hl:c.Entries.length≤1073741824) (ha:a.size≤maxLen) (hp:p.size≤maxLen) (hx:x.ok):M.Cache.ok (aHm c a p x):=by
 unfold aHm
 refine ⟨hc.Version,?_⟩
 dsimp only
 split
 ·refine ⟨by rw [qN];exact hc.Entries.1,fun y hy => ?_⟩
  rcases List.mem_or_eq_of_mem_set hy with hy | rfl
  ·exact hc.Entries.2 y hy
  ·exact ⟨ha,hp,hx⟩
 ·refine ⟨by simp only [qE,qJ,qK];unfold maxLen;omega,fun y hy => ?_⟩
  rcases List.mem_append.1 hy with hy | hy
  ·exact hc.Entries.2 y hy
  ·rw [List.mem_singleton.1 hy]
   exact ⟨ha,hp,hx⟩
theorem aIh {s:M.aA} {v:Int} {a p:ByteArray} {x:M.Response} (hs:s.ok) (hz:M.aA.sz s≤1073741824) (ha:a.size≤maxLen) (hp:p.size≤maxLen) (hx:x.ok):M.aA.ok (⟨aJ8 s v a p x⟩:M.aA):=by
 unfold aJ8
 split
 ·rename_i c hc
  refine ⟨⟨by show List.length (List.set _ _ _)≤_;rw [qN];exact hs.Caches.1,fun y hy => ?_⟩⟩
  have hcm:=List.mem_of_getElem? hc
  have z:=bO (f:=M.Cache.sz) hcm
  rcases List.mem_or_eq_of_mem_set hy with hy | rfl
  ·exact hs.Caches.2 y hy
  ·exact aOB (hs.Caches.2 c hcm) (by simp only [M.aA.sz] at hz;simp only [M.Cache.sz] at z;omega) ha hp hx
 ·exact hs
theorem aRa (b:ByteArray) : ∀(n i:Nat) (r:List UInt8),b.size-i≤n→ByteArray.toList.loop b i r=r.reverse++b.data.toList.drop i:=by
 intro n
 induction n with
 | zero =>
  intro i r h
  unfold ByteArray.toList.loop
  rw [if_neg (by omega),List.drop_eq_nil_of_le (by show b.data.toList.length≤i;have:b.data.toList.length=b.size:=rfl;omega),qW]
 | succ n ih =>
  intro i r h
  unfold ByteArray.toList.loop
  by_cases hi:i<b.size
  ·have hi':i<b.data.toList.length:=hi
   rw [if_pos hi,ih (i+1) _ (by omega),qV hi',List.reverse_cons,qS]
   congr 1
   show b.get! i::_=_
   congr 1
   have hd:i<b.data.size:=hi
   show b.data[i]! = b.data[i]
   exact getElem!_pos b.data i hd
  ·rw [if_neg hi,List.drop_eq_nil_of_le (by show b.data.toList.length≤i;have:b.data.toList.length=b.size:=rfl;omega),qW]
theorem aK2 (b:ByteArray):b.toList=b.data.toList:=by
 unfold ByteArray.toList
 rw [aRa b b.size 0 [] (by omega)]
 simp
theorem aMr {a b:ByteArray} (h:(a.toList==b.toList)=true):a=b:=by
 have h:=eq_of_beq h
 rw [aK2,aK2] at h
 cases a;cases b
 congr 1
 exact Array.toList_inj.1 h
theorem aOq {α:Type} {f:α→Bool} {l:List α} {k:Nat} (h:yK f l=(k:Int)) (hk:k<l.length):f l[k]=true:=by
 unfold yK at h
 cases e:l.findIdx? f with
 | none=>rw [e] at h;simp only at h;omega
 | some i =>
  rw [e] at h
  simp only at h
  have:i=k:=by omega
  subst this
  exact (List.findIdx?_eq_some_iff_getElem.1 e).2.1
theorem aLW {s:M.aA} {v:Int} {a p:ByteArray} {x:M.Response} {j:Nat} (ej:yK (fun c:M.Cache=>c.Version==v) s.Caches=(j:Int)) (hj:j<s.Caches.length):aJ8 s v a p x=s.Caches.set j (aHm s.Caches[j] a p x):=by
 unfold aJ8
 rw [ej,qH,qF hj]
theorem aLD {c:M.Cache} {a p:ByteArray} {x:M.Response} {i:Nat} (ei:yK (aDq a p) c.Entries=(i:Int)):aHm c a p x=(⟨c.Version,c.Entries.set i (⟨a,p,x⟩:M.Cached)⟩:M.Cache):=by
 unfold aHm
 rw [ei,if_pos (by omega),qH]
theorem aKL {c:M.Cache} {a p:ByteArray} {x:M.Response} (h : ¬yK (aDq a p) c.Entries≥0):aHm c a p x=(⟨c.Version,c.Entries++[(⟨a,p,x⟩:M.Cached)]⟩:M.Cache):=by
 unfold aHm
 rw [if_neg h]
theorem aFO {s:M.aA} {v:Int} {a p:ByteArray} {x:M.Response} (hs:s.ok) (hz:M.aA.sz s≤1073741824) (ha:a.size≤maxLen) (hp:p.size≤maxLen) (hx:x.ok) (zx:M.Response.sz x≤1073741824):mT s v a p x=some (aGu s v a p x):=by
 have hout:=aIh (v:=v) (a:=a) (p:=p) (x:=x) hs hz ha hp hx
 unfold mT aGu
 rw [nF s hz,qA,aEV hs,qA]
 by_cases h:yK (fun c:M.Cache=>c.Version==v) s.Caches<0
 ·rw [if_pos (by simpa using h),if_pos h]
 ·rw [if_neg (by simpa using h),if_neg h]
  obtain ⟨j,ej,hj⟩:=vC h
  rw [aLW ej hj] at hout ⊢
  have hc:=hs.Caches.2 _ (qG hj)
  have z1:=bO (f:=M.Cache.sz) (qG hj)
  have hl:s.Caches[j].Entries.length≤1073741824:=by simp only [M.aA.sz] at hz;simp only [M.Cache.sz] at z1;omega
  rw [aFY x zx,qA,ej,aM hj,qA,aJp hc,qA,qH]
  by_cases h2:yK (aDq a p) s.Caches[j].Entries≥0
  ·obtain ⟨i,ei,hi⟩:=vC (f:=aDq a p) (xs:=s.Caches[j].Entries) (by omega)
   rw [aLD ei] at hout ⊢
   rw [if_pos (by simpa using h2),ei,aM hi,qA,qH,kY hs,qA,kY hout,qA]
   generalize bS (⟨s.Caches.set j _⟩:M.aA)=b
   cases bS s<;>cases b<;>rfl
  ·rw [aKL h2] at hout ⊢
   rw [if_neg (by simpa using h2),lM (by simp only [qJ,qK];omega),qA,kY hs,qA,kY hout,qA]
   generalize bS (⟨s.Caches.set j _⟩:M.aA)=b
   cases bS s<;>cases b<;>rfl
theorem aFH {s:M.aA} {v:Int} {a p:ByteArray} {x:M.Response} (hs:s.ok) (hz:M.aA.sz s≤1073741824) (ha:a.size≤maxLen) (hp:p.size≤maxLen) (hx:x.ok) (zx:M.Response.sz x≤1073741824):mW s v a p x=some (aGu s v a p x):=by
 have hout:=aIh (v:=v) (a:=a) (p:=p) (x:=x) hs hz ha hp hx
 unfold mW aGu
 rw [iY s hz,qA,aES hs,qA]
 by_cases h:yK (fun c:M.Cache=>c.Version==v) s.Caches<0
 ·rw [if_pos (by simpa using h),if_pos h]
 ·rw [if_neg (by simpa using h),if_neg h]
  obtain ⟨j,ej,hj⟩:=vC h
  rw [aLW ej hj] at hout ⊢
  have hc:=hs.Caches.2 _ (qG hj)
  have z1:=bO (f:=M.Cache.sz) (qG hj)
  have hl:s.Caches[j].Entries.length≤1073741824:=by simp only [M.aA.sz] at hz;simp only [M.Cache.sz] at z1;omega
  rw [ej,aM hj,qA,aJo hc,qA,qH]
  by_cases h2:yK (aDq a p) s.Caches[j].Entries≥0
  ·obtain ⟨i,ei,hi⟩:=vC (f:=aDq a p) (xs:=s.Caches[j].Entries) (by omega)
   rw [aLD ei] at hout ⊢
   have hit:=aOq ei hi
   unfold aDq at hit
   rw [qM] at hit
   have e1:=aMr hit.1
   have e2:=aMr hit.2
   rw [if_pos (by simpa using h2),aBN x zx,qA,ei,aM hi,qA,qH,e1,e2,kM hs,qA,kM hout,qA]
   generalize bS (⟨s.Caches.set j _⟩:M.aA)=b
   cases bS s<;>cases b<;>rfl
  ·rw [aKL h2] at hout ⊢
   rw [if_neg (by simpa using h2),aBN x zx,qA,lM (by simp only [qJ,qK];omega),qA,kM hs,qA,kM hout,qA]
   generalize bS (⟨s.Caches.set j _⟩:M.aA)=b
   cases bS s<;>cases b<;>rfl
theorem aIV {s:M.aA} {v:Int} {a p:ByteArray} {x:M.Response} (h:(aGu s v a p x).2=true):bS (aGu s v a p x).1=true:=by
 unfold aGu at h ⊢
 split at h
 ·cases h
 ·rename_i h0
  rw [if_neg h0]
  split at h
  ·rename_i h1
   rw [if_pos h1]
   exact (Bool.and_eq_true_iff.1 h1).2
  ·cases h
theorem aKe {s:M.aA} {v:Int} {a p:ByteArray} {x:M.Response} (hs:s.ok) (hz:M.aA.sz s≤1073741824) (ha:a.size≤maxLen) (hp:p.size≤maxLen) (hx:x.ok):M.aA.ok (aGu s v a p x).1:=by
 unfold aGu
 split
 ·exact hs
 ·split
  ·exact aIh hs hz ha hp hx
  ·exact hs
theorem aNJ {x a b:Int} (h:inR x a b=true):a≤x∧x≤b:=by
 unfold inR at h
 simpa using h
theorem aCk {s:M.aA} (h:bS s=true):M.aA.sz s≤65536:=by
 unfold bS at h
 rw [qM] at h
 have h2:s.Caches.length≤4:=by simpa using h.2
 have hc : ∀c∈s.Caches,M.Cache.sz c≤4096:=by
  intro c hc
  obtain ⟨k,hk,rfl⟩:=List.getElem_of_mem hc
  have h3:=List.all_eq_true.1 h.1 k (List.mem_range.2 hk)
  unfold aDy at h3
  rw [qF hk,Option.any_some,qM,qM] at h3
  have h4:=h3.1.2
  unfold aEA at h4
  rw [qM] at h4
  have h5:s.Caches[k].Entries.length≤12:=by simpa using h4.2
  have he : ∀x∈s.Caches[k].Entries,M.Cached.sz x≤100:=by
   intro x hx
   obtain ⟨i,hi,rfl⟩:=List.getElem_of_mem hx
   have h6:=List.all_eq_true.1 h4.1 i (List.mem_range.2 hi)
   unfold aCX at h6
   rw [qF hi,Option.any_some,qM,qM,qM] at h6
   obtain ⟨q1,q2,q3,_⟩:=h6
   unfold sG at q1 q2
   rw [qM] at q1 q2
   have r1:=aNJ q1.2
   have r2:=aNJ q2.2
   unfold aEd at q3
   rw [qM,qM,qM] at q3
   have r3:s.Caches[k].Entries[i].Response.Body.length≤60:=by have:=q3.2.2.2;simp at this;omega
   simp only [M.Cached.sz,M.Response.sz]
   omega
  have:=aC8 he
  simp only [M.Cache.sz]
  omega
 have:=aC8 hc
 simp only [M.aA.sz]
 omega
theorem aKn {s:M.aA} (h:bS s=true):yK (fun c:M.Cache=>c.Version==0) s.Caches<0:=by
 apply Classical.byContradiction
 intro hn
 obtain ⟨j,ej,hj⟩:=vC hn
 have hit:=aOq ej hj
 unfold bS at h
 rw [qM] at h
 have h3:=List.all_eq_true.1 h.1 j (List.mem_range.2 hj)
 unfold aDy at h3
 rw [qF hj,Option.any_some,qM,qM] at h3
 have:=aNJ h3.1.1
 simp at hit
 omega
def aDc (t:M.Site) (v:Int) (f:ByteArray):M.Response:=(mO t f v).getD (⟨4,0,0,([]:List Int),false⟩:M.Response)
theorem served {t:M.Site} {v:Int} {f:ByteArray} (ht:t.ok) (hv:inI v) (zt:M.Site.sz t≤1048576) (zf:f.size≤1048576):mO t f v=some (aDc t v f)∧pE t f v=some (aDc t v f)∧M.Response.ok (aDc t v f)∧M.Response.sz (aDc t v f)≤6:=by
 obtain ⟨r,e1,e2,e3,e4⟩:=aMX (f:=f) ht hv zt zf
 have e:aDc t v f=r:=by unfold aDc;rw [e1];rfl
 rw [e]
 exact ⟨e1,e2,e3,e4⟩
def aHk (t:M.Site) (v:Int):List ByteArray→M.aA→Option M.aA
 | [],s=>some s
 | f::fs,s=>if (aGu s v t.Name f (aDc t v f)).2=true then aHk t v fs (aGu s v t.Name f (aDc t v f)).1 else none
def aLI (s:M.aA) (t:M.Site) (v:Int) (o:Bool):M.aA×Bool:=if (o&&(aE4 t v&&(aFG s v).2))=true then (match aHk t v t.Files (aFG s v).1 with | some c=>(c,true) | none=>(s,false)) else (s,false)
theorem aIU {t:M.Site} {v:Int} (ht:t.ok) (hv:inI v) (zt:M.Site.sz t≤1048576) : ∀(l:List ByteArray) (s c:M.aA),(∀f∈l,f.size≤1048576)→s.ok→bS s=true→aHk t v l s=some c→c.ok∧bS c=true
 | [],s,c,_,hs,hn,h=>by cases h;exact ⟨hs,hn⟩
 | f::fs,s,c,hl,hs,hn,h=>by
  simp only [aHk] at h
  split at h
  ·rename_i h1
   obtain ⟨_,_,e3,_⟩:=served (f:=f) ht hv zt (hl f (by simp))
   have hf:=hl f (by simp)
   exact aIU ht hv zt fs _ c (fun g hg=>hl g (by simp [hg])) (aKe hs (by have:=aCk hn;omega) (by simp only [M.Site.sz] at zt;unfold maxLen;omega) (by unfold maxLen;omega) e3) (aIV h1) h
  ·cases h
theorem aLP {s:M.aA} {t:M.Site} {v:Int} (hz:M.aA.sz s≤1073741824) (ht:t.ok) (hv:inI v) (zt:M.Site.sz t≤1048576) : ∀(n k:Nat) (c:M.aA),t.Files.length-k<n→k≤t.Files.length→c.ok→bS c=true→iI s t v n (k:Int) c.Caches=some (match aHk t v (t.Files.drop k) c with | some c=>(c,true) | none=>(s,false))
 | 0,k,c,h,_,_,_=>by omega
 | n+1,k,c,h,hk,hc,hn=>by
  have zl:t.Files.length≤1048576:=by simp only [M.Site.sz] at zt;omega
  simp only [iI]
  rcases Nat.lt_or_ge k t.Files.length with hlt | hge
  ·have zf:=bO (f:=ByteArray.size) (qG hlt)
   have zf2:t.Files[k].size≤1048576:=by simp only [M.Site.sz] at zt;omega
   obtain ⟨e1,_,e3,e4⟩:=served (f:=t.Files[k]) ht hv zt zf2
   have zc:=aCk hn
   have zn:t.Name.size≤maxLen:=by simp only [M.Site.sz] at zt;unfold maxLen;omega
   have zf3:t.Files[k].size≤maxLen:=by unfold maxLen;omega
   rw [if_pos (aY hlt),aM hlt,qA,e1,qA,aFO hc (by omega) zn zf3 e3 (by omega),qA,qV hlt,aHk]
   cases hb:(aGu c v t.Name t.Files[k] (aDc t v t.Files[k])).2 with
   | false=>rw [if_pos (by rfl),nF s hz,qA];rfl
   | true =>
    rw [if_neg (by simp),if_pos rfl,bC (by omega)]
    exact aLP hz ht hv zt n (k+1) _ (by omega) (by omega) (aKe hc (by omega) zn zf3 e3) (aIV hb)
  ·have e:k=t.Files.length:=by omega
   subst e
   rw [if_neg (by rw [aO];simp),qY]
   rfl
theorem aMQ {s:M.aA} {t:M.Site} {v:Int} (hz:M.aA.sz s≤1073741824) (zl:t.Files.length≤1048576) : ∀(n k:Nat) (r:List M.Cache),t.Files.length-k<n→k≤t.Files.length→dE s t v n false (k:Int) r=some (s,false)
 | 0,k,r,h,_=>by omega
 | n+1,k,r,h,hk=>by
  simp only [dE]
  rcases Nat.lt_or_ge k t.Files.length with hlt | hge
  ·rw [if_pos (aY hlt),aM hlt,qA,if_neg (by simp),bC (by omega)]
   exact aMQ hz zl n (k+1) r (by omega) (by omega)
  ·have e:k=t.Files.length:=by omega
   subst e
   rw [if_neg (by rw [aO];simp),if_pos (show (!false)=true from rfl),iY s hz,qA]
theorem aLl {s:M.aA} {t:M.Site} {v:Int} (hz:M.aA.sz s≤1073741824) (ht:t.ok) (hv:inI v) (zt:M.Site.sz t≤1048576) : ∀(n k:Nat) (c:M.aA),t.Files.length-k<n→k≤t.Files.length→c.ok→bS c=true→dE s t v n true (k:Int) c.Caches=some (match aHk t v (t.Files.drop k) c with | some c=>(c,true) | none=>(s,false))
 | 0,k,c,h,_,_,_=>by omega
 | n+1,k,c,h,hk,hc,hn=>by
  have zl:t.Files.length≤1048576:=by simp only [M.Site.sz] at zt;omega
  simp only [dE]
  rcases Nat.lt_or_ge k t.Files.length with hlt | hge
  ·have zf:=bO (f:=ByteArray.size) (qG hlt)
   have zf2:t.Files[k].size≤1048576:=by simp only [M.Site.sz] at zt;omega
   obtain ⟨_,e2,e3,e4⟩:=served (f:=t.Files[k]) ht hv zt zf2
   have zc:=aCk hn
   have zn:t.Name.size≤maxLen:=by simp only [M.Site.sz] at zt;unfold maxLen;omega
   have zf3:t.Files[k].size≤maxLen:=by unfold maxLen;omega
   rw [if_pos (aY hlt),aM hlt,qA,if_pos trivial,e2,qA,aFH hc (by omega) zn zf3 e3 (by omega),qA,qV hlt,aHk,bC (by omega)]
   cases hb:(aGu c v t.Name t.Files[k] (aDc t v t.Files[k])).2 with
   | false=>rw [aMQ hz zl n (k+1) _ (by omega) (by omega)];rfl
   | true =>
    rw [if_pos rfl]
    exact aLl hz ht hv zt n (k+1) _ (by omega) (by omega) (aKe hc (by omega) zn zf3 e3) (aIV hb)
  ·have e:k=t.Files.length:=by omega
   subst e
   rw [if_neg (by rw [aO];simp),if_neg (by simp),qY]
   rfl
theorem aFg {s:M.aA} {t:M.Site} {v:Int} {o:Bool} (hs:s.ok) (hz:M.aA.sz s≤1073741824) (ht:t.ok) (hv:inI v) (zt:M.Site.sz t≤1048576):oK s t v o=some (aLI s t v o):=by
 have zl:t.Files.length≤1048576:=by simp only [M.Site.sz] at zt;omega
 unfold oK aLI
 rw [aIJ hs hv hz,qA,nF s hz,aGH ht]
 simp only [qA]
 cases hb:(aFG s v).2 with
 | false=>simp
 | true =>
  have h:=aLP hz ht hv zt fuel 0 (aFG s v).1 (by unfold fuel;omega) (by omega) (aKR hs hv hz) (aJI hb)
  rw [List.drop_zero] at h
  cases o
  ·simp
  ·cases aE4 t v
   ·simp
   ·simp only [qB,qD,if_false,Bool.and_self,if_true]
    exact h
theorem aFn {s:M.aA} {t:M.Site} {v:Int} {o:Bool} (hs:s.ok) (hz:M.aA.sz s≤1073741824) (ht:t.ok) (hv:inI v) (zt:M.Site.sz t≤1048576):oF s t v o=some (aLI s t v o):=by
 have zl:t.Files.length≤1048576:=by simp only [M.Site.sz] at zt;omega
 unfold oF aLI
 rw [aIK hs hv hz,qA,iY s hz,aGG ht]
 simp only [qA]
 cases o
 ·simp
 ·cases aE4 t v
  ·simp
  ·simp only [qB,qD,if_false,Bool.true_and]
   cases hb:(aFG s v).2 with
   | false =>
    have h:=aMQ (s:=s) (t:=t) (v:=v) hz zl fuel 0 (aFG s v).1.Caches (by unfold fuel;omega) (by omega)
    rw [if_neg (by simp)]
    exact h
   | true =>
    have h:=aLl hz ht hv zt fuel 0 (aFG s v).1 (by unfold fuel;omega) (by omega) (aKR hs hv hz) (aJI hb)
    rw [List.drop_zero] at h
    rw [if_pos rfl]
    exact h
theorem aN6 {s:M.aA} {t:M.Site} {v:Int} {o:Bool} (hs:s.ok) (hn:bS s=true) (ht:t.ok) (hv:inI v) (zt:M.Site.sz t≤1048576):M.aA.ok (aLI s t v o).1∧bS (aLI s t v o).1=true:=by
 have zc:=aCk hn
 unfold aLI
 split
 ·rename_i h
  rw [qM,qM] at h
  split
  ·rename_i c e
   exact aIU ht hv zt t.Files _ c (fun f hf=>by have:=bO (f:=ByteArray.size) hf;simp only [M.Site.sz] at zt;omega) (aKR hs hv (by omega)) (aJI h.2.2) e
  ·exact ⟨hs,hn⟩
 ·exact ⟨hs,hn⟩
theorem aQE {p:M.Registration} (h:aMZ p=true):0≤p.Active:=by
 apply Classical.byContradiction
 intro hn
 unfold aMZ cT at h
 rw [show fuel=(fuel-1)+1 from by unfold fuel;rfl] at h
 simp only [bL] at h
 rw [if_pos (by decide),show (0:Int)=((0:Nat):Int) from rfl,aM (by simp),qA,dC,qA] at h
 have e:inR [p.Active,p.Waiting,p.Installing][0] ((0:Nat):Int) 1000000000000=false:=by
  cases hb:inR [p.Active,p.Waiting,p.Installing][0] ((0:Nat):Int) 1000000000000 with
  | false=>rfl
  | true=>exact absurd (aNJ hb).1 hn
 rw [e] at h
 simp at h
theorem aNY {w:M.World} {j:Nat} (h:aEU w=true) (hj:j<w.aC.Buckets.length):sE w.aC.Buckets[j]=true:=by
 unfold aEU at h
 simp only [qM] at h
 have h1:=h.2.2.2.2.2.2.2.1
 unfold oP at h1
 rw [qM] at h1
 have h2:=List.all_eq_true.1 h1.1 j (List.mem_range.2 hj)
 unfold aDg at h2
 rw [qF hj,Option.any_some,qM] at h2
 exact h2.1
theorem aL6 (w:M.World) (a:ByteArray) : ∃t,aB4 w a=some t∧(aCq a<0→t.Version=0) ∧ ∀(k:Nat) (hk:k<w.Sites.length),aCq a=(k:Int)→t=w.Sites[k]:=by
 unfold aB4
 rw [aDi,qA]
 by_cases h:aCq a<0
 ·rw [if_pos (by simpa using h)]
  exact ⟨_,rfl,fun _=>rfl,fun k hk e=>by omega⟩
 ·rw [if_neg (by simpa using h)]
  by_cases h2:aCq a≥(w.Sites.length:Int)
  ·rw [if_pos (by simpa using h2)]
   exact ⟨_,rfl,fun _=>rfl,fun k hk e=>by omega⟩
  ·rw [if_neg (by simpa using h2)]
   obtain ⟨k,hk⟩:=Int.eq_ofNat_of_zero_le (show 0≤aCq a by omega)
   have hl:k<w.Sites.length:=by omega
   rw [hk,aM hl,qA]
   exact ⟨_,rfl,fun hh=>by omega,fun k' hk' e=>by
    have:k=k':=by omega
    subst this
    rfl⟩
theorem aJV {w:M.World} {a b:ByteArray} (hw:w.ok) (hz:M.World.sz w≤1048576) : ∃R:M.World×Bool,nY w a b=some R∧kX w a b=some R∧R.1.ok∧M.World.sz R.1≤16777216:=by
 have hz':=hz
 simp only [M.World.sz,M.aC.sz] at hz'
 obtain ⟨T,eT,t0,tk⟩:=aL6 w a
 have base:M.World.ok w∧M.World.sz w≤16777216:=⟨hw,by omega⟩
 unfold nY kX aBq
 rw [aCR hw.aC,aCW hw.aC,aEX w (by omega),aJX hw hz,aJe hw hz,aFT w (by omega),aHQ,eT]
 simp only [qA]
 by_cases h:yK (nAt a b) w.aC.Buckets<0
 ·simp only [h,decide_true,if_true,qA]
  refine ⟨(w,false),?_,?_,base.1,base.2⟩<;>cases aEU w<;>simp
 ·obtain ⟨j,ej,hj⟩:=vC h
  simp only [h,decide_false,qD,if_false]
  rw [ej,aM hj]
  simp only [qA,qB,qD,if_false]
  cases hn:aEU w with
  | false=>exact ⟨(w,false),by simp,by simp,base.1,base.2⟩
  | true =>
   simp only [qB,qD,if_false]
   have hb:=hw.aC.Buckets.2 _ (qG hj)
   have z1:=bO (f:=M.Bucket.sz) (qG hj)
   have nb:=aNY hn hj
   generalize w.aC.Buckets[j]=q at hb z1 nb
   unfold sE at nb
   simp only [qM] at nb
   have nr:=aQE nb.2.2.1
   have nc:=nb.2.2.2.2.1
   have zn:0≤aD2 q.Registration:=by unfold aD2;omega
   rw [aFP,aFL]
   simp only [qA]
   by_cases h2:aCq a<0
   ·have e:=t0 h2
    have h3:T.Version≤aD2 q.Registration:=by omega
    simp only [h2,h3,decide_true,if_true]
    exact ⟨(w,false),rfl,rfl,base.1,base.2⟩
   ·obtain ⟨k,ek,hk⟩:=aNS h2
    have hk':k<w.Sites.length:=by rw [aLC hn];exact hk
    have eT2:=tk k hk' ek
    simp only [h2,decide_false,qD,if_false]
    rw [ek,aM hk',←eT2]
    have ht:T.ok:=by rw [eT2];exact hw.Sites.2 _ (qG hk')
    have zt:M.Site.sz T≤1048576:=by
     have:=bO (f:=M.Site.sz) (qG hk')
     rw [←eT2] at this
     omega
    clear eT tk t0
    simp only [qA]
    rw [aFs hb.Registration ht.Version,aFj hb.Registration ht.Version]
    simp only [qA]
    have okb:=aPH hb.Registration ht.Version
    have szb:=aOC q.Registration T.Version
    generalize aGc q.Registration T.Version=B at okb szb
    have z2:M.aA.sz q.Caches+M.Registration.sz q.Registration≤M.Bucket.sz q:=by simp only [M.Bucket.sz];omega
    cases hB:B.2 with
    | false =>
     refine ⟨(w,false),by simp,?_,base.1,base.2⟩
     by_cases h3:T.Version≤aD2 q.Registration<;>simp [h3]
    | true =>
     simp only [qB,qD,if_false]
     by_cases h3:T.Version≤aD2 q.Registration
     ·simp only [h3,decide_true,if_true]
      exact ⟨(w,false),rfl,rfl,base.1,base.2⟩
     ·simp only [h3,decide_false,qD,if_false]
      rw [aFg hb.Caches (by omega) ht ht.Version zt,aFn hb.Caches (by omega) ht ht.Version zt]
      obtain ⟨oki,nci⟩:=aN6 (o:=w.Online) hb.Caches nc ht ht.Version zt
      generalize aLI q.Caches T T.Version w.Online=I at oki nci
      have zi:=aCk nci
      simp only [qA]
      rw [aHD okb,aGr okb]
      have oke:=aRi (ok:=I.2) okb
      have sze:=aRh B.1 I.2
      generalize aQD B.1 I.2=E at oke sze
      simp only [qA]
      rw [aIB oki (by omega),aIC oki (by omega)]
      simp only [qA]
      have hd:(if (E.2 != 0)=true then (hH w q (aGv I.1 E.2).1 E.1).bind fun x45=>if (!x45.2)=true then some (w,false) else some (x45.1,I.2) else (hH w q I.1 E.1).bind fun x48=>if (!x48.2)=true then some (w,false) else some (x48.1,I.2))=(hH w q (aGv I.1 E.2).1 E.1).bind fun x45=>if (!x45.2)=true then some (w,false) else some (x45.1,I.2):=by
       by_cases h0:E.2=0
       ·have:(aGv I.1 E.2).1=I.1:=by unfold aGv;rw [h0,if_pos (aKn nci)]
        rw [this,ite_self]
       ·rw [if_pos (by simpa using h0)]
      rw [hd]
      have okd:=aQo (v:=E.2) oki
      have szd:=aP9 I.1 E.2
      generalize (aGv I.1 E.2).1=s at okd szd
      have zs:(M.aA.sz s+M.Registration.sz E.1)≤536870912:=by omega
      have zo:M.Database.sz (dD q s E.1).bB.Base≤1048576:=aA2 (b:=q) (by omega)
      have zr:=aCZ q s E.1
      have zc:=aPm q (dD q s E.1)
      have zd:=aPa (b:=q) (o:=dD q s E.1) (by omega) zo
      have ok3:=aPK hb (aCY hb okd oke)
      rw [aFJ hb okd oke (by omega) zs zo,qA,aGq hw hb okd oke hz (by omega) zs,aKZ hw ok3 hz (by omega) zd]
      generalize aJ2 q (dD q s E.1)=Y at zc ok3
      simp only [qA]
      have ok4:=aQw (ok:=Y.2) hw ok3 hz
      have sz4:=aQP w Y.1 Y.2
      have hf:(aHv w Y.1 Y.2).2=false→(aHv w Y.1 Y.2).1=w:=by
       unfold aHv
       split
       ·split<;>simp
       ·simp
      generalize aHv w Y.1 Y.2=Z at ok4 sz4 hf
      cases hZ:Z.2 with
      | false=>exact ⟨(w,false),by simp [hf hZ],by simp,base.1,base.2⟩
      | true=>exact ⟨(Z.1,I.2),by simp,by simp,ok4,by show M.World.sz Z.1≤_;omega⟩
end Go.Proofs.YtidhkhdnjonjfaaGreat.gen
