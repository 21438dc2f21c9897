/-
  Helper text. No conditions.
-/
import Derived.Test.YtidhkhdnjonjfaaGreatUpdateWorkerPl
set_option linter.unusedVariables false
set_option linter.unusedSimpArgs false
namespace Go.Proofs.YtidhkhdnjonjfaaGreat.gen
open Go Go.Sh
def aJ2 (b o:M.Bucket):M.Bucket×Bool:=if sE b=true then (if sE o=true then (o,true) else (b,false)) else (b,false)
theorem aPK {b o:M.Bucket} (hb:b.ok) (ho:o.ok):M.Bucket.ok (aJ2 b o).1:=by
 unfold aJ2
 split
 ·split
  ·exact ho
  ·exact hb
 ·exact hb
theorem aPm (b o:M.Bucket):M.Bucket.sz (aJ2 b o).1≤M.Bucket.sz b+M.Bucket.sz o:=by
 unfold aJ2
 split
 ·split<;>simp only<;>omega
 ·simp only;omega
theorem aH4 {b o:M.Bucket} (hb:b.ok) (ho:o.ok) (zb:M.Bucket.sz b≤1048576) (zc:M.Bucket.sz o≤1073741824) (zo:M.Database.sz o.bB.Base≤1048576):mM b o=some (aJ2 b o):=by
 unfold mM aJ2
 rw [aJM hb zb,qA,aBB b (by omega),aCs ho zo]
 cases sE b
 ·simp
 ·cases sE o<;>simp
theorem aOJ (b o:M.Bucket):((some (aJ2 b o)).bind fun x=>(if x.2=true then (some (o,true)) else (some (x.1,false))))=some (aJ2 b o):=by
 unfold aJ2
 cases sE b<;>cases sE o<;>rfl
theorem aFM {b o:M.Bucket} (hb:b.ok) (ho:o.ok) (zb:M.Bucket.sz b≤1048576) (zc:M.Bucket.sz o≤1073741824) (zo:M.Database.sz o.bB.Base≤1048576):mX b o=some (aJ2 b o):=by
 unfold mX aJ2
 rw [aIX hb zb,qA,uT b (by omega),aCt ho zo,uT o (by omega)]
 cases sE b
 ·simp
 ·cases sE o<;>simp
def dD (b:M.Bucket) (s:M.aA) (r:M.Registration):M.Bucket:=(⟨b.Site,b.Top,r,s,b.bB,b.aE,b.LastUsed,b.Persistent⟩:M.Bucket)
theorem aCY {b:M.Bucket} {s:M.aA} {r:M.Registration} (hb:b.ok) (hs:s.ok) (hr:r.ok):(dD b s r).ok:=⟨hb.Site,hb.Top,hr,hs,hb.bB,hb.aE,hb.LastUsed⟩
theorem aCZ (b:M.Bucket) (s:M.aA) (r:M.Registration):M.Bucket.sz (dD b s r)≤M.Bucket.sz b+(M.aA.sz s+M.Registration.sz r):=by
 simp only [dD,M.Bucket.sz]
 omega
theorem aFJ {b:M.Bucket} {s:M.aA} {r:M.Registration} (hb:b.ok) (hs:s.ok) (hr:r.ok) (zb:M.Bucket.sz b≤1048576) (zs:(M.aA.sz s+M.Registration.sz r)≤536870912) (zo:M.Database.sz (dD b s r).bB.Base≤1048576):nA b s r=some (aJ2 b (dD b s r)):=by
 have zr:=aCZ b s r
 unfold nA
 rw [aBB b (by omega),qA,nF s (by omega),qA]
 have e:=aH4 hb (aCY hb hs hr) zb (show M.Bucket.sz (dD b s r)≤1073741824 by omega) zo
 have e2:=aOJ b (dD b s r)
 unfold dD at e e2 ⊢
 rw [e]
 exact e2
theorem aFN {b:M.Bucket} {s:M.aA} {r:M.Registration} (hb:b.ok) (hs:s.ok) (hr:r.ok) (zb:M.Bucket.sz b≤1048576) (zs:(M.aA.sz s+M.Registration.sz r)≤536870912) (zo:M.Database.sz (dD b s r).bB.Base≤1048576):mZ b s r=some (aJ2 b (dD b s r)):=by
 have zr:=aCZ b s r
 unfold mZ
 have e:=aFM hb (aCY hb hs hr) zb (show M.Bucket.sz (dD b s r)≤1073741824 by omega) zo
 unfold dD at e
 rw [e]
 rfl
end Go.Proofs.YtidhkhdnjonjfaaGreat.gen
