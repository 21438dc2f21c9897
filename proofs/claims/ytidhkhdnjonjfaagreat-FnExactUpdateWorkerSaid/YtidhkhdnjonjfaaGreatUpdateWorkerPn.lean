/-
  Helper text. No conditions.
-/
import Derived.Test.YtidhkhdnjonjfaaGreatUpdateWorkerPm2
set_option linter.unusedVariables false
set_option linter.unusedSimpArgs false
namespace Go.Proofs.YtidhkhdnjonjfaaGreat.gen
open Go Go.Sh
theorem aJx {α:Type} {f:α→Nat} : ∀(n:Nat) (l:List α),aF f (l.drop n)≤aF f l
 | 0,l=>by simp
 | n+1,[]=>by simp
 | n+1,x::l=>by have:=aJx (f:=f) n l;simp only [List.drop_succ_cons,aF];omega
theorem aPC {α:Type} {f:α→Nat} (k:Nat) (l:List α):aF f (l.take k++l.drop (k+1))≤aF f l:=by
 have h1:=aDk (f:=f) (l.take k) (l.drop (k+1))
 have h2:=aDk (f:=f) (l.take k) (l.drop k)
 rw [List.take_append_drop] at h2
 have h3:=aJx (f:=f) 1 (l.drop k)
 rw [List.drop_drop] at h3
 omega
theorem aRE {α:Type} {l:List α} {k:Nat} (h:k≤l.length):aKq l (k:Int)=some (l.drop k):=by
 unfold aKq
 rw [if_pos ⟨by omega,by simpa using h⟩]
 simp
theorem aEV {s:M.aA} {v:Int} (hs:s.ok):pN s v=some (yK (fun c:M.Cache=>c.Version==v) s.Caches):=by
 have hm:=le_max hs.Caches.1
 unfold pN
 rw [findAll (L:=iO s v) (f:=fun c:M.Cache=>c.Version==v) (A:=fun i=>some (i:Int)) (E:=some (-1)) hs.Caches.1 (fun m k hk => ?_) (fun m => ?_),uE]
 ·simp only [iO]
  rw [if_pos (aY hk),aM hk,qA,bC (by omega)]
 ·simp only [iO]
  rw [if_neg (by rw [aO];simp)]
theorem aES {s:M.aA} {v:Int} (hs:s.ok):pL s v=some (yK (fun c:M.Cache=>c.Version==v) s.Caches):=by
 unfold pL
 rw [aHN (f:=fun c:M.Cache=>c.Version==v) hs.Caches.1 (fun x _=>by simp only [rJ]),qA]
def aJu (s:M.aA) (k:Nat):List M.Cache:=s.Caches.take k++s.Caches.drop (k+1)
def aGv (s:M.aA) (v:Int):M.aA×Bool:=if yK (fun c:M.Cache=>c.Version==v) s.Caches<0 then (s,false) else ((⟨aJu s (yK (fun c:M.Cache=>c.Version==v) s.Caches).toNat⟩:M.aA),true)
theorem aNR {s:M.aA} {k:Nat} {x:M.Cache} (h:x∈aJu s k):x∈s.Caches:=by
 unfold aJu at h
 rcases List.mem_append.1 h with h | h
 ·exact List.mem_of_mem_take h
 ·exact List.mem_of_mem_drop h
theorem aKD (s:M.aA) (k:Nat):(aJu s k).length≤s.Caches.length:=by
 unfold aJu
 simp only [qE,qT,qU]
 omega
theorem aQo {s:M.aA} {v:Int} (hs:s.ok):M.aA.ok (aGv s v).1:=by
 unfold aGv
 split
 ·exact hs
 ·exact ⟨⟨Nat.le_trans (aKD s _) hs.Caches.1,fun x hx=>hs.Caches.2 x (aNR hx)⟩⟩
theorem aP9 (s:M.aA) (v:Int):M.aA.sz (aGv s v).1≤M.aA.sz s:=by
 unfold aGv
 split
 ·exact Nat.le_refl _
 ·have h1:=aKD s (yK (fun c:M.Cache=>c.Version==v) s.Caches).toNat
  have h2:=aPC (f:=M.Cache.sz) (yK (fun c:M.Cache=>c.Version==v) s.Caches).toNat s.Caches
  unfold aJu at h1 ⊢
  simp only [M.aA.sz]
  omega
theorem aIB {s:M.aA} {v:Int} (hs:s.ok) (hz:M.aA.sz s≤1073741824):wZ s v=some (aGv s v):=by
 have hl:s.Caches.length≤1073741824:=by simp only [M.aA.sz] at hz;omega
 unfold wZ aGv
 rw [nF s hz,qA,aEV hs,qA]
 by_cases h:yK (fun c:M.Cache=>c.Version==v) s.Caches<0
 ·rw [if_pos (by simpa using h),if_pos h]
 ·obtain ⟨k,e,hk⟩:=vC h
  rw [if_neg (by simpa using h),if_neg h,e,aFm (by omega),qA,bC (by omega),aRE (by omega),qA,qH,qH,lM (by simp only [qT,qU];omega),qA]
  rfl
theorem aIC {s:M.aA} {v:Int} (hs:s.ok) (hz:M.aA.sz s≤1073741824):wM s v=some (aGv s v):=by
 have hl:s.Caches.length≤1073741824:=by simp only [M.aA.sz] at hz;omega
 unfold wM aGv
 rw [iY s hz,qA,aES hs,qA]
 by_cases h:yK (fun c:M.Cache=>c.Version==v) s.Caches<0
 ·rw [if_pos (by simpa using h),if_pos h]
 ·obtain ⟨k,e,hk⟩:=vC h
  rw [if_neg (by simpa using h),if_neg h,e,bC (by omega),aQr ⟨by omega,by omega,by omega⟩,qA,qH,qH]
  rfl
theorem aPa {b o:M.Bucket} (zb:M.Bucket.sz b≤1048576) (zo:M.Database.sz o.bB.Base≤1048576):M.Database.sz (aJ2 b o).1.bB.Base≤1048576:=by
 unfold aJ2
 split
 ·split
  ·exact zo
  ·exact aA2 zb
 ·exact aA2 zb
def aHv (w:M.World) (b:M.Bucket) (ok:Bool):M.World×Bool:=if ok=true then (if (aN8 w.aC b).2=true then ({ w with aC:=(aN8 w.aC b).1 },true) else (w,false)) else (w,false)
theorem aQw {w:M.World} {b:M.Bucket} {ok:Bool} (hw:w.ok) (hb:b.ok) (hz:M.World.sz w≤1048576):M.World.ok (aHv w b ok).1:=by
 have h:=aRF hw.aC hb (aF8 hz)
 unfold aHv
 split
 ·split
  ·exact ⟨hw.Now,hw.Device,h,hw.Pages,hw.NextPage,hw.Locks,hw.Channel,hw.Sites,hw.Servers⟩
  ·exact hw
 ·exact hw
theorem aQP (w:M.World) (b:M.Bucket) (ok:Bool):M.World.sz (aHv w b ok).1≤M.World.sz w+M.Bucket.sz b+1:=by
 have h:=aRX w.aC b
 unfold aHv
 split
 ·split
  ·simp only [M.World.sz];omega
  ·show M.World.sz w≤_;omega
 ·show M.World.sz w≤_;omega
theorem aKZ {w:M.World} {b:M.Bucket} {ok:Bool} (hw:w.ok) (hb:b.ok) (hz:M.World.sz w≤1048576) (zc:M.Bucket.sz b≤1073741824) (zb:M.Database.sz b.bB.Base≤1048576):aB1 w b ok=some (aHv w b ok):=by
 unfold aB1 aHv
 rw [aFT w (by omega),qA,aG2 hw.aC hb (aF8 hz) zc zb,qA]
 cases ok
 ·simp
 ·cases (aN8 w.aC b).2<;>simp
theorem aGq {w:M.World} {b:M.Bucket} {s:M.aA} {r:M.Registration} (hw:w.ok) (hb:b.ok) (hs:s.ok) (hr:r.ok) (hz:M.World.sz w≤1048576) (zb:M.Bucket.sz b≤1048576) (zs:(M.aA.sz s+M.Registration.sz r)≤536870912) :
  hH w b s r=some (aHv w (aJ2 b (dD b s r)).1 (aJ2 b (dD b s r)).2):=by
 have zo:M.Database.sz (dD b s r).bB.Base≤1048576:=aA2 (b:=b) zb
 have zr:=aCZ b s r
 have zc:=aPm b (dD b s r)
 have zd:=aPa (o:=dD b s r) zb zo
 unfold hH aHv
 rw [aEX w (by omega),qA,aFN hb hs hr zb zs zo,qA,aHT hw.aC (aPK hb (aCY hb hs hr)) (aF8 hz) (by omega) zd,qA]
 cases (aJ2 b (dD b s r)).2
 ·simp
 ·cases (aN8 w.aC (aJ2 b (dD b s r)).1).2<;>simp
end Go.Proofs.YtidhkhdnjonjfaaGreat.gen
