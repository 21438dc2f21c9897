/-
  Helper text. No conditions.
-/
import Derived.Test.YtnhpbpnhmapeeaaGreatActivateWorkerPl
namespace Go.Proofs.YtnhpbpnhmapeeaaGreat.gen
open Go Go.Sh
set_option linter.unusedVariables false
set_option linter.unusedSimpArgs false
def aII (b o:M.aA):M.aA×Bool:=if sA b=true then (if sA o=true then (o,true) else (b,false)) else (b,false)
theorem aM0 {b o:M.aA} (hb:b.ok) (ho:o.ok):M.aA.ok (aII b o).1:=by
 unfold aII
 split
 ·split
  ·exact ho
  ·exact hb
 ·exact hb
theorem aNR (b o:M.aA):M.aA.sz (aII b o).1≤M.aA.sz b+M.aA.sz o:=by
 unfold aII
 split
 ·split<;>simp only<;>omega
 ·simp only;omega
theorem aGH {b o:M.aA} (hb:b.ok) (ho:o.ok) (zb:M.aA.sz b≤1048576) (zc:M.aA.sz o≤1073741824) (zo:M.Database.sz o.bB.Base≤1048576):lJ b o=some (aII b o):=by
 unfold lJ aII
 rw [aHW hb zb,Option.bind_some,zW b (by omega),aBl ho zo]
 cases sA b
 ·simp
 ·cases sA o<;>simp
theorem aMG (b o:M.aA):((some (aII b o)).bind fun x=>(if x.2=true then (some (o,true)) else (some (x.1,false))))=some (aII b o):=by
 unfold aII
 cases sA b<;>cases sA o<;>rfl
theorem aDn {b o:M.aA} (hb:b.ok) (ho:o.ok) (zb:M.aA.sz b≤1048576) (zc:M.aA.sz o≤1073741824) (zo:M.Database.sz o.bB.Base≤1048576):lR b o=some (aII b o):=by
 unfold lR aII
 rw [aGp hb zb,Option.bind_some,rU b (by omega),aBm ho zo,rU o (by omega)]
 cases sA b
 ·simp
 ·cases sA o<;>simp
def cU (b:M.aA) (s:M.aM) (r:M.Registration):M.aA:=(⟨b.Site,b.Top,r,s,b.bB,b.aE,b.LastUsed,b.Persistent⟩:M.aA)
theorem aBU {b:M.aA} {s:M.aM} {r:M.Registration} (hb:b.ok) (hs:s.ok) (hr:r.ok):(cU b s r).ok:=⟨hb.Site,hb.Top,hr,hs,hb.bB,hb.aE,hb.LastUsed⟩
theorem aBV (b:M.aA) (s:M.aM) (r:M.Registration):M.aA.sz (cU b s r)≤M.aA.sz b+(M.aM.sz s+M.Registration.sz r):=by
 simp only [cU,M.aA.sz]
 omega
theorem aDl {b:M.aA} {s:M.aM} {r:M.Registration} (hb:b.ok) (hs:s.ok) (hr:r.ok) (zb:M.aA.sz b≤1048576) (zs:(M.aM.sz s+M.Registration.sz r)≤536870912) (zo:M.Database.sz (cU b s r).bB.Base≤1048576):lT b s r=some (aII b (cU b s r)):=by
 have zr:=aBV b s r
 unfold lT
 rw [zW b (by omega),Option.bind_some,aCR s (by omega),Option.bind_some]
 have e:=aGH hb (aBU hb hs hr) zb (show M.aA.sz (cU b s r)≤1073741824 by omega) zo
 have e2:=aMG b (cU b s r)
 unfold cU at e e2 ⊢
 rw [e]
 exact e2
theorem aDo {b:M.aA} {s:M.aM} {r:M.Registration} (hb:b.ok) (hs:s.ok) (hr:r.ok) (zb:M.aA.sz b≤1048576) (zs:(M.aM.sz s+M.Registration.sz r)≤536870912) (zo:M.Database.sz (cU b s r).bB.Base≤1048576):lS b s r=some (aII b (cU b s r)):=by
 have zr:=aBV b s r
 unfold lS
 have e:=aDn hb (aBU hb hs hr) zb (show M.aA.sz (cU b s r)≤1073741824 by omega) zo
 unfold cU at e
 rw [e]
 rfl
end Go.Proofs.YtnhpbpnhmapeeaaGreat.gen
