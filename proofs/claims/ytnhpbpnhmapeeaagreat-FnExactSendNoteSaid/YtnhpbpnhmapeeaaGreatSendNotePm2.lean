/-
  Helper text. No conditions.
-/
import Derived.Test.YtnhpbpnhmapeeaaGreatSendNotePl
namespace Go.Proofs.YtnhpbpnhmapeeaaGreat.gen
open Go Go.Sh
set_option linter.unusedVariables false
set_option linter.unusedSimpArgs false
def aJ2 (b o:M.aA):M.aA×Bool:=if rX b=true then (if rX o=true then (o,true) else (b,false)) else (b,false)
theorem aOe {b o:M.aA} (hb:b.ok) (ho:o.ok):M.aA.ok (aJ2 b o).1:=by
 unfold aJ2
 split
 ·split
  ·exact ho
  ·exact hb
 ·exact hb
theorem aOr (b o:M.aA):M.aA.sz (aJ2 b o).1≤M.aA.sz b+M.aA.sz o:=by
 unfold aJ2
 split
 ·split<;>simp only<;>omega
 ·simp only;omega
theorem aFz {b o:M.aA} (hb:b.ok) (ho:o.ok) (zb:M.aA.sz b≤1048576) (zc:M.aA.sz o≤1073741824) (zo:M.Database.sz o.bD.Base≤1048576):lB b o=some (aJ2 b o):=by
 unfold lB aJ2
 rw [aHF hb zb,Option.bind_some,zL b (by omega),aBW ho zo]
 cases rX b
 ·simp
 ·cases rX o<;>simp
theorem aLx (b o:M.aA):((some (aJ2 b o)).bind fun x=>(if x.2=true then (some (o,true)) else (some (x.1,false))))=some (aJ2 b o):=by
 unfold aJ2
 cases rX b<;>cases rX o<;>rfl
theorem aDn {b o:M.aA} (hb:b.ok) (ho:o.ok) (zb:M.aA.sz b≤1048576) (zc:M.aA.sz o≤1073741824) (zo:M.Database.sz o.bD.Base≤1048576):lI b o=some (aJ2 b o):=by
 unfold lI aJ2
 rw [aGY hb zb,Option.bind_some,rP b (by omega),aBY ho zo,rP o (by omega)]
 cases rX b
 ·simp
 ·cases rX o<;>simp
def fJ (b:M.aA) (r:M.aC):M.aA:=(⟨b.Site,b.Top,b.Registration,b.Caches,b.bD,r,b.LastUsed,b.Persistent⟩:M.aA)
theorem aBq {b:M.aA} {r:M.aC} (hb:b.ok) (hr:r.ok):(fJ b r).ok:=⟨hb.Site,hb.Top,hb.Registration,hb.Caches,hb.bD,hr,hb.LastUsed⟩
theorem aB0 (b:M.aA) (r:M.aC):M.aA.sz (fJ b r)≤M.aA.sz b+M.aC.sz r:=by
 simp only [fJ,M.aA.sz]
 omega
theorem aDW {b:M.aA} {r:M.aC} (hb:b.ok) (hr:r.ok) (zb:M.aA.sz b≤1048576) (zs:M.aC.sz r≤536870912) (zo:M.Database.sz (fJ b r).bD.Base≤1048576):kD b r=some (aJ2 b (fJ b r)):=by
 have zr:=aB0 b r
 unfold kD
 rw [zL b (by omega),Option.bind_some,aCH r (by omega),Option.bind_some]
 have e:=aFz hb (aBq hb hr) zb (show M.aA.sz (fJ b r)≤1073741824 by omega) zo
 have e2:=aLx b (fJ b r)
 unfold fJ at e e2 ⊢
 rw [e]
 exact e2
theorem aDT {b:M.aA} {r:M.aC} (hb:b.ok) (hr:r.ok) (zb:M.aA.sz b≤1048576) (zs:M.aC.sz r≤536870912) (zo:M.Database.sz (fJ b r).bD.Base≤1048576):jX b r=some (aJ2 b (fJ b r)):=by
 have zr:=aB0 b r
 unfold jX
 have e:=aDn hb (aBq hb hr) zb (show M.aA.sz (fJ b r)≤1073741824 by omega) zo
 unfold fJ at e
 rw [e]
 rfl
end Go.Proofs.YtnhpbpnhmapeeaaGreat.gen
