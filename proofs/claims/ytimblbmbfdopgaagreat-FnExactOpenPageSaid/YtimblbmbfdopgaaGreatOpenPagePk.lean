/-
  Helper text. No conditions.
-/
import Derived.Test.YtimblbmbfdopgaaGreatOpenPagePj
set_option linter.unusedVariables false
set_option linter.unusedSimpArgs false
namespace Go.Proofs.YtimblbmbfdopgaaGreat.gen
open Go Go.Sh
open Go.IntKind (i64)
theorem aH5 (x:Int):inI (i64.wrap x):=by unfold inI;rw [IntKind.wrap_i64];omega
theorem aLG {α:Type} {f:α→Nat} {x:α} : ∀ {l:List α} {i:Nat},aF f (l.set i x)≤aF f l+f x
 | [],_=>by simp [aF]
 | y::l,0=>by simp only [List.set_cons_zero,aF];omega
 | y::l,i+1=>by have:=aLG (f:=f) (x:=x) (l:=l) (i:=i);simp only [List.set_cons_succ,aF];omega
theorem aDg {α:Type} {f:α→Nat} : ∀(l r:List α),aF f (l++r)=aF f l+aF f r
 | [],r=>by simp [aF]
 | y::l,r=>by simp only [List.cons_append,aF,aDg l r];omega
theorem aCO {a:ByteArray}:kV a=some (aDY a):=by
 unfold kV
 rw [show sW=some sB from rfl,qA]
 rw [findAll (L:=hM a sB) (f:=fun x:ByteArray=>x.toList==a.toList) (A:=fun i=>some (i:Int)) (E:=some (-1)) aJR (fun m k hk => ?_) (fun m => ?_),uB]
 ·rfl
 ·have hk3:k<3:=hk
  simp only [hM]
  rw [if_pos (bB hk),aN hk,qA,bF (by omega)]
 ·simp only [hM]
  rw [if_neg (by rw [aP];simp)]
theorem aET (x:List M.Instr) (hs:x.length≤1073741824):oY x=some x:=by
 unfold oY
 rw [aHI hs (by omega),qA]
theorem aIv (x:M.Machine) (hs:M.Machine.sz x≤1073741824):aAv x=some x:=by
 simp only [M.Machine.sz] at hs
 unfold aAv
 rw [aET _ (by omega),qA,aHI (by omega) (by omega),qA]
theorem aFL (x:M.bH) (hs:M.bH.sz x≤1073741824):jJ x=some x:=by
 simp only [M.bH.sz] at hs
 unfold jJ
 rw [aHI (by omega) (by omega),qA,aIv _ (by omega),qA]
theorem aI5 (x:M.aQ) (hs:M.aQ.sz x≤1073741824):xW x=some x:=by
 simp only [M.aQ.sz] at hs
 unfold xW
 rw [aHI (by omega) (by omega),qA]
theorem aI6 (x:M.Channel) (hs:M.Channel.sz x≤1073741824):xV x=some x:=by
 simp only [M.Channel.sz] at hs
 unfold xV
 rw [aHI (by omega) (by omega),qA]
theorem aI0 (x:M.Site) (hs:M.Site.sz x≤1073741824):aAx x=some x:=by
 simp only [M.Site.sz] at hs
 unfold aAx
 rw [aHI (by omega) (by omega),qA]
theorem aIy (x:M.Server) (hs:M.Server.sz x≤1073741824):aAp x=some x:=by
 simp only [M.Server.sz] at hs
 unfold aAp
 rw [aEE _ (by omega),qA,aHI (by omega) (by omega),qA,aHI (by omega) (by omega),qA]
theorem aF2 (x:M.Machine) (hs:M.Machine.sz x≤1073741824):qZ x=some x:=by
 simp only [M.Machine.sz] at hs
 unfold qZ
 rw [aHI (by omega) (by omega),qA,aHI (by omega) (by omega),qA]
theorem aEp (x:M.bH) (hs:M.bH.sz x≤1073741824):iD x=some x:=by
 simp only [M.bH.sz] at hs
 unfold iD
 rw [aHI (by omega) (by omega),qA,aF2 _ (by omega),qA]
theorem aH0 (x:M.aQ) (hs:M.aQ.sz x≤1073741824):vX x=some x:=by
 simp only [M.aQ.sz] at hs
 unfold vX
 rw [aHI (by omega) (by omega),qA]
theorem aGE (x:M.Channel) (hs:M.Channel.sz x≤1073741824):rD x=some x:=by
 simp only [M.Channel.sz] at hs
 unfold rD
 rw [aHI (by omega) (by omega),qA]
theorem aIg (x:M.Site) (hs:M.Site.sz x≤1073741824):zL x=some x:=by
 simp only [M.Site.sz] at hs
 unfold zL
 rw [aHI (by omega) (by omega),qA]
theorem aHN (x:M.Server) (hs:M.Server.sz x≤1073741824):tG x=some x:=by
 simp only [M.Server.sz] at hs
 unfold tG
 rw [aCj _ (by omega),qA,aHI (by omega) (by omega),qA,aHI (by omega) (by omega),qA]
theorem aHv (x:List M.bH) (hs:x.length+aF M.bH.sz x≤1073741824):vU x=some x:=by
 unfold vU
 exact aAO (xs:=x) (b:=144) (L:=iQ x) (E:=some) (by omega) (by omega) (fun n r k hk=>by
  have hy:=cF (f:=M.bH.sz) (qG hk)
  simp only [iQ]
  rw [if_pos (bB hk),aN hk,qA,aEp _ (by omega),qA,bF (by omega)]) (fun n r=>by
  simp only [iQ]
  rw [if_neg (by rw [aP];simp)])
theorem aI8 (w:M.World) (hs:M.World.sz w≤1073741824):fO w=some w:=by
 simp only [M.World.sz] at hs
 have e3:gR w w.aA w.Pages w.Locks w.Channel w.Sites fuel 0 ([]:List M.Server)=some w:=aAO (xs:=w.Servers) (b:=96) (L:=gR w w.aA w.Pages w.Locks w.Channel w.Sites) (E:=fun r=>some { w with Servers:=r }) (by omega) (by omega) (fun n r k hk=>by
   have hy:=cF (f:=M.Server.sz) (qG hk)
   simp only [gR]
   rw [if_pos (bB hk),aN hk,qA,aIy _ (by omega),qA,bF (by omega)]) (fun n r=>by
   simp only [gR]
   rw [if_neg (by rw [aP];simp)])
 have e2:gT w w.aA w.Pages w.Locks w.Channel fuel 0 ([]:List M.Site)=some w:=(aAO (xs:=w.Sites) (b:=56) (L:=gT w w.aA w.Pages w.Locks w.Channel) (E:=fun r=>gR w w.aA w.Pages w.Locks w.Channel r fuel 0 ([]:List M.Server)) (by omega) (by omega) (fun n r k hk=>by
   have hy:=cF (f:=M.Site.sz) (qG hk)
   simp only [gT]
   rw [if_pos (bB hk),aN hk,qA,aI0 _ (by omega),qA,bF (by omega)]) (fun n r=>by
   simp only [gT]
   rw [if_neg (by rw [aP];simp)])).trans e3
 have e1:jA w w.aA fuel 0 ([]:List M.bH)=some w:=(aAO (xs:=w.Pages) (b:=144) (L:=jA w w.aA) (E:=fun r=>(xW w.Locks).bind fun x=>(xV w.Channel).bind fun y=>gT w w.aA r x y fuel 0 ([]:List M.Site)) (by omega) (by omega) (fun n r k hk=>by
   have hy:=cF (f:=M.bH.sz) (qG hk)
   simp only [jA]
   rw [if_pos (bB hk),aN hk,qA,aFL _ (by omega),qA,bF (by omega)]) (fun n r=>by
   simp only [jA]
   rw [if_neg (by rw [aP];simp)])).trans (by rw [aI5 _ (by omega),qA,aI6 _ (by omega),qA];exact e2)
 unfold fO
 rw [aDX _ (by omega),qA]
 exact e1
theorem aHy (w:M.World) (hs:M.World.sz w≤1073741824):iF w=some w:=by
 simp only [M.World.sz] at hs
 have e3:fE w w.aA w.Pages w.Locks w.Channel w.Sites fuel 0 ([]:List M.Server)=some w:=aAO (xs:=w.Servers) (b:=96) (L:=fE w w.aA w.Pages w.Locks w.Channel w.Sites) (E:=fun r=>some { w with Servers:=r }) (by omega) (by omega) (fun n r k hk=>by
   have hy:=cF (f:=M.Server.sz) (qG hk)
   simp only [fE]
   rw [if_pos (bB hk),aN hk,qA,aHN _ (by omega),qA,bF (by omega)]) (fun n r=>by
   simp only [fE]
   rw [if_neg (by rw [aP];simp)])
 have e2:gI w w.aA w.Pages w.Locks w.Channel fuel 0 ([]:List M.Site)=some w:=(aAO (xs:=w.Sites) (b:=56) (L:=gI w w.aA w.Pages w.Locks w.Channel) (E:=fun r=>fE w w.aA w.Pages w.Locks w.Channel r fuel 0 ([]:List M.Server)) (by omega) (by omega) (fun n r k hk=>by
   have hy:=cF (f:=M.Site.sz) (qG hk)
   simp only [gI]
   rw [if_pos (bB hk),aN hk,qA,aIg _ (by omega),qA,bF (by omega)]) (fun n r=>by
   simp only [gI]
   rw [if_neg (by rw [aP];simp)])).trans e3
 unfold iF
 rw [aCE _ (by omega),qA,aHv _ (by omega),qA,aH0 _ (by omega),qA,aGE _ (by omega),qA]
 exact e2
theorem aMs {a:ByteArray} (h : ¬aDY a<0) : ∃k:Nat,aDY a=(k:Int)∧k<3:=by
 obtain ⟨k,e,hk⟩:=aBx (show ¬aAP (fun x:ByteArray=>x.toList==a.toList) sB<0 from h)
 exact ⟨k,e,hk⟩
theorem aKg {w:M.World} (h:aFM w=true):w.Sites.length=3:=by
 unfold aFM at h
 rw [qM] at h
 simpa using h.1
theorem aHx {s:M.aO} {v:Int} (hs:s.ok):xN s v=some (aAP (fun c:M.Cache=>c.Version==v) s.Caches):=by
 have hm:=le_max hs.Caches.1
 unfold xN
 rw [findAll (L:=iJ s v) (f:=fun c:M.Cache=>c.Version==v) (A:=fun i=>some (i:Int)) (E:=some (-1)) hs.Caches.1 (fun m k hk => ?_) (fun m => ?_),uB]
 ·simp only [iJ]
  rw [if_pos (bB hk),aN hk,qA,bF (by omega)]
 ·simp only [iJ]
  rw [if_neg (by rw [aP];simp)]
theorem aHt {s:M.aO} {v:Int} (hs:s.ok):xL s v=some (aAP (fun c:M.Cache=>c.Version==v) s.Caches):=by
 unfold xL
 rw [aG9 (f:=fun c:M.Cache=>c.Version==v) hs.Caches.1 (fun x _=>by simp only [pX]),qA]
def aKp (a b:ByteArray) (x:M.Cached):Bool:=(x.Site.toList==a.toList)&&(x.Path.toList==b.toList)
theorem aJL {c:M.Cache} {a b:ByteArray} (hc:c.ok):aAX c a b=some (aAP (aKp a b) c.Entries):=by
 have hm:=le_max hc.Entries.1
 unfold aAX
 rw [findAll (L:=jF c a b) (f:=aKp a b) (A:=fun i=>some (i:Int)) (E:=some (-1)) hc.Entries.1 (fun m k hk => ?_) (fun m => ?_),uB]
 ·simp only [jF]
  rw [if_pos (bB hk),aN hk,qA,bF (by omega),aQU]
  rfl
 ·simp only [jF]
  rw [if_neg (by rw [aP];simp)]
theorem aJK {c:M.Cache} {a b:ByteArray} (hc:c.ok):kZ c a b=some (aAP (aKp a b) c.Entries):=by
 unfold kZ
 rw [aDK (f:=aKp a b) hc.Entries.1 (fun x _=>by simp only [oQ,bL];rfl),qA]
theorem aK3 {s:M.aO} {v:Int} {a b:ByteArray} (hs:s.ok) (hz:s.sz≤1048576) : ∃r,sY s v a b=some r∧uH s v a b=some r∧M.Response.ok r.1:=by
 unfold sY uH cK eI
 rw [aHx hs,aHt hs]
 simp only [qA]
 have hnil:M.Response.ok (⟨4,0,0,([]:List Int),false⟩:M.Response):=⟨by unfold inI;simp,by unfold inI;simp,by unfold inI;simp,⟨by simp [maxLen],by simp⟩⟩
 by_cases h:aAP (fun c:M.Cache=>c.Version==v) s.Caches<0
 ·simp only [h,decide_true,if_true]
  exact ⟨_,rfl,rfl,hnil⟩
 ·obtain ⟨k,e,hk⟩:=aBx h
  simp only [h,decide_false,qD,if_false]
  rw [e,aN hk]
  have hc:=hs.Caches.2 _ (qG hk)
  simp only [qA]
  rw [aJL hc,aJK hc]
  simp only [qA]
  by_cases h2:aAP (aKp a b) s.Caches[k].Entries<0
  ·simp only [h2,decide_true,if_true]
   exact ⟨_,rfl,rfl,hnil⟩
  ·obtain ⟨j,e2,hj⟩:=aBx h2
   simp only [h2,decide_false,qD,if_false]
   rw [e2,aN hj]
   have hx:=hc.Entries.2 _ (qG hj)
   have z1:=cF (f:=M.Cache.sz) (qG hk)
   have z2:=cF (f:=M.Cached.sz) (qG hj)
   unfold M.aO.sz at hz
   have q1:M.Cache.sz s.Caches[k]=s.Caches[k].Entries.length+aF M.Cached.sz s.Caches[k].Entries:=rfl
   have q2:M.Cached.sz s.Caches[k].Entries[j]=s.Caches[k].Entries[j].Site.size+(s.Caches[k].Entries[j].Path.size+s.Caches[k].Entries[j].Response.Body.length):=rfl
   have hb:(s.Caches[k].Entries[j].Response.Body).length≤1048576:=by omega
   simp only [qA,rU,iN,iG]
   rw [oF (by simp;omega)]
   exact ⟨_,rfl,rfl,hx.Response⟩
theorem aF6 {l:List Int} (hl:l.length≤1048576):rM l=some ([(List.length l:Int)]++l.map i64.wrap):=by
 unfold rM
 have:=aLp (b:=8) (xs:=l) (f:=i64.wrap) (L:=gG l) (fun n k hk r => ?_) (fun n r => ?_) fuel 0 ([(List.length l:Int)]) (by unfold fuel;omega) (by omega) (by simp;omega)
 ·simpa using this
 ·simp only [gG]
  rw [if_pos (bB hk),aN hk,qA,bF (by omega)]
 ·simp only [gG]
  rw [if_neg (by rw [aP];simp)]
theorem aF9 {l:List Int} (hl:l.length≤1048576):rG l=some ([(List.length l:Int)]++l.map i64.wrap):=by
 unfold rG
 have:=aLp (b:=8) (xs:=l) (f:=i64.wrap) (L:=gH l) (fun n k hk r => ?_) (fun n r => ?_) fuel 0 ([(List.length l:Int)]) (by unfold fuel;omega) (by omega) (by simp;omega)
 ·simpa using this
 ·simp only [gH]
  rw [if_pos (bB hk),aN hk,qA,bF (by omega)]
 ·simp only [gH]
  rw [if_neg (by rw [aP];simp)]
theorem aMv (x:Int):aDb x 2147483647=some (aLP x):=by
 have e:bG 2147483647 1 1000000000000=some true:=by decide
 unfold aDb
 rw [e,qA,if_neg (by simp),if_neg (by simp),aPL]
theorem aNG (x:Int):aDv x 2147483647=some (aLP x):=by
 have e:aY 2147483647 1 1000000000000=some true:=by decide
 unfold aDv
 rw [e,qA,if_neg (by simp),if_neg (by simp),aP9]
theorem aLj {l:List Int} (hl:l.length≤maxLen):aC7 l=some (aHC l):=by
 have hm:=le_max hl
 unfold aC7 aHC
 refine aFQ (L:=rT l) (E:=some) hl (fun n v k hk => ?_) (fun n v => ?_) 11
 ·simp only [rT]
  rw [if_pos (bB hk),aN hk,qA,aMv,qA,bF (by omega)]
  rfl
 ·simp only [rT]
  rw [if_neg (by rw [aP];simp)]
theorem aEJ {k:Int} {l:List Int} (hl:l.length≤2000000):oV k l=some (aHC (([k]++l)++[k])):=by
 unfold oV
 rw [oF (by simp;omega),qA,oF (by simp;omega),qA,aLj (by simp [maxLen];omega),qA]
theorem aLb {l:List Int} (hl:l.length≤maxLen):aDC l=some (aHC l):=by
 have hm:=le_max hl
 unfold aDC aHC
 refine aFQ (L:=rY l) (E:=some) hl (fun n v k hk => ?_) (fun n v => ?_) 11
 ·simp only [rY]
  rw [if_pos (bB hk),aN hk,qA,aNG,qA,bF (by omega)]
  rfl
 ·simp only [rY]
  rw [if_neg (by rw [aP];simp)]
theorem aEQ {k:Int} {l:List Int} (hl:l.length≤2000000):oZ k l=some (aHC (([k]++l)++[k])):=by
 unfold oZ
 rw [oF (by simp;omega),qA,oF (by simp;omega),qA,aLb (by simp [maxLen];omega),qA]
def aEg (k:Int) (s:ByteArray):Int:=if aHC (([k]++([(List.length (fD s):Int)]++(fD s).map i64.wrap))++[k])=0 then 1 else aHC (([k]++([(List.length (fD s):Int)]++(fD s).map i64.wrap))++[k])
theorem aFx {k:Int} {s:ByteArray} (hs:s.size≤1048576):gO k s=some (aEg k s):=by
 have hl:=bA s
 unfold gO aC4 aEg
 rw [aF6 (by omega),qA,aEJ (by simp;omega),qA]
 have:=aOO (([k]++([(List.length (fD s):Int)]++(fD s).map i64.wrap))++[k])
 generalize aHC (([k]++([(List.length (fD s):Int)]++(fD s).map i64.wrap))++[k])=h at *
 by_cases h0:h=0
 ·rw [if_neg (by simp;omega),if_pos h0];rfl
 ·rw [if_neg h0]
  by_cases h1:h=1
  ·rw [if_neg (by simp;omega),h1];rfl
  ·rw [if_pos (by simp;omega)];rfl
theorem aGK {k:Int} {s:ByteArray} (hs:s.size≤1048576):gW k s=some (aEg k s):=by
 have hl:=bA s
 unfold gW aEg
 rw [aF9 (by omega),qA,aEQ (by simp;omega),qA]
 generalize aHC (([k]++([(List.length (fD s):Int)]++(fD s).map i64.wrap))++[k])=h
 by_cases h0:h=0
 ·rw [if_pos (by simp [h0]),if_pos h0]
 ·rw [if_neg (by simp [h0]),if_neg h0]
theorem aKt {x:Int} (h0:0≤x) (h1:x<2147483647) : ∀(n:Nat) (v:Int) (r:List Int),oR x n v r=eS x n v r
 | 0,_,_=>rfl
 | n+1,v,r=>by
  simp only [oR,eS,aQ8 h0 h1,aKt h0 h1 n]
theorem aRL (x:Int) : ∃l,eS x fuel 5 ([]:List Int)=some l∧okB l:=by
 have st : ∀n (v:Nat) r,r.length≤7→(∀y∈r,0≤y∧y≤255)→v≤5 → ∃y:Int,(0≤y∧y≤255)∧eS x (n+1) (v:Int) r=eS x n ((v:Int)-1) (r++[y]):=by
  intro n v r hr hy hv
  refine ⟨IntKind.u8.wrap (Int.fdiv x (2^(min (i64.wrap (8*(v:Int))).toNat IntKind.i64.bits))),by rw [wrap_u8];omega,?_⟩
  simp only [eS]
  rw [if_pos (by simp),if_pos (by rw [eX (by omega) (by omega)];simp;omega),oF (by simp;omega),qA,eX (n:=(v:Int)-1) (by omega) (by omega)]
 have e7 : ∀n r,eS x (n+1) (-1) r=some r:=by
  intro n r
  simp only [eS]
  rw [if_neg (by decide)]
 rw [aQ4]
 obtain ⟨x1,b1,e1⟩:=st (18446744073709551609+6) 5 [] (by simp) (by simp) (by simp)
 obtain ⟨x2,b2,e2⟩:=st (18446744073709551609+5) 4 ([]++[x1]) (by simp) (by simpa using b1) (by simp)
 obtain ⟨x3,b3,e3⟩:=st (18446744073709551609+4) 3 ([]++[x1]++[x2]) (by simp) (by simpa using ⟨b1,b2⟩) (by simp)
 obtain ⟨x4,b4,e4⟩:=st (18446744073709551609+3) 2 ([]++[x1]++[x2]++[x3]) (by simp) (by simpa using ⟨b1,b2,b3⟩) (by simp)
 obtain ⟨x5,b5,e5⟩:=st (18446744073709551609+2) 1 ([]++[x1]++[x2]++[x3]++[x4]) (by simp) (by simpa using ⟨b1,b2,b3,b4⟩) (by simp)
 obtain ⟨x6,b6,e6⟩:=st (18446744073709551609+1) 0 ([]++[x1]++[x2]++[x3]++[x4]++[x5]) (by simp) (by simpa using ⟨b1,b2,b3,b4,b5⟩) (by simp)
 exact ⟨_,(e1.trans (e2.trans (e3.trans (e4.trans (e5.trans (e6.trans (e7 _ _))))))),by simp [maxLen],by simpa using ⟨b1,b2,b3,b4,b5,b6⟩⟩
theorem aPZ {t:M.Site} {f:ByteArray} {v:Int} (h1:t.Name.size≤1048576) (h2:f.size≤1048576) : ∃l,aBu t f v=some l∧aB8 t f v=some l∧okB l:=by
 unfold aBu aB8
 rw [aFx h1,aGK h1,qA,qA,aFx h2,aGK h2,qA,qA,aEJ (by simp),aEQ (by simp),qA,qA]
 have hb:=aOO (([i64.wrap (1+v)]++[103,aEg 107 t.Name,aEg 109 f])++[i64.wrap (1+v)])
 rw [aKt hb.1 hb.2]
 obtain ⟨l,e,hl⟩:=aRL (aHC (([i64.wrap (1+v)]++[103,aEg 107 t.Name,aEg 109 f])++[i64.wrap (1+v)]))
 exact ⟨l,e,e,hl⟩
theorem aKw {s:M.Site} (h:aIR s=true):1≤s.Version∧s.Version≤1000000000000:=by
 simp only [aIR,qM,inR,qL] at h
 exact h.2.2.1
def aIt (s:M.Site) (v:Int):Bool:=aIR s&&(decide (v>s.Version-2)&&(decide (v≤s.Version)&&decide (v≥1)))
theorem aJ3 {s:M.Site} {v:Int} (hs:s.ok):mR s v=some (aIt s v):=by
 unfold mR aIt
 rw [aD6 hs,qA]
 cases hn:aIR s with
 | false=>simp
 | true =>
  have hv:=aKw hn
  rw [if_pos rfl,eX (n:=s.Version-2) (by omega) (by omega),eX (by omega) (by omega)]
  unfold aC4 bG
  by_cases h:s.Version-2+1>1
  ·rw [if_pos (by simpa using h),qA]
   by_cases h1:v≥s.Version-2+1
   ·rw [if_pos (by simpa using h1),qA]
    have e1:decide (v>s.Version-2)=true:=by simp;omega
    have e2:decide (v≥1)=true:=by simp;omega
    rw [e1,e2];simp
   ·rw [if_neg (by simpa using h1),qA]
    have e1:decide (v>s.Version-2)=false:=by simp;omega
    rw [e1];simp
  ·rw [if_neg (by simpa using h),qA]
   by_cases h1:v≥1
   ·rw [if_pos (by simpa using h1),qA]
    have e1:decide (v>s.Version-2)=true:=by simp;omega
    have e2:decide (v≥1)=true:=by simpa using h1
    rw [e1,e2];simp
   ·rw [if_neg (by simpa using h1),qA]
    have e2:decide (v≥1)=false:=by simpa using h1
    rw [e2];simp
theorem aJ1 {s:M.Site} {v:Int} (hs:s.ok):mS s v=some (aIt s v):=by
 unfold mS aIt
 rw [aD2 hs,qA]
 cases hn:aIR s with
 | false=>simp
 | true =>
  have hv:=aKw hn
  rw [if_pos rfl,eX (n:=s.Version-2) (by omega) (by omega)]
  cases decide (v>s.Version-2)<;>cases decide (v≤s.Version)<;>simp
def aRp (s:M.Site) (f:ByteArray):Bool:=s.Files.any fun x=>x.toList==f.toList
theorem aJG {s:M.Site} {f:ByteArray} (hs:s.ok):aAZ s f=some (aRp s f):=by
 have hm:=le_max hs.Files.1
 unfold aAZ aRp
 rw [findAll (L:=kL s f) (f:=fun x:ByteArray=>x.toList==f.toList) (A:=fun _=>some true) (E:=some false) hs.Files.1 (fun m k hk => ?_) (fun m => ?_),aPw]
 ·cases s.Files.any (fun x=>x.toList==f.toList)<;>rfl
 ·simp only [kL]
  rw [if_pos (bB hk),aN hk,qA,bF (by omega)]
 ·simp only [kL]
  rw [if_neg (by rw [aP];simp)]
theorem aJB {s:M.Site} {f:ByteArray} (hs:s.ok):aAl s f=some (aRp s f):=by
 have hm:=le_max hs.Files.1
 unfold aAl lN jB aRp
 rw [findAll (L:=bP s.Files f) (f:=fun x:ByteArray=>x.toList==f.toList) (A:=fun i=>some (i:Int)) (E:=some (-1)) hs.Files.1 (fun m k hk => ?_) (fun m => ?_),uB,qA,qA,aGC]
 ·simp only [bP]
  rw [if_pos (bB hk),aN hk,qA,bF (by omega),Bool.beq_comm]
 ·simp only [bP]
  rw [if_neg (by rw [aP];simp)]
theorem aQW:M.Response.ok (⟨4,0,0,([]:List Int),false⟩:M.Response):=⟨by unfold inI;simp,by unfold inI;simp,by unfold inI;simp,⟨by simp [maxLen],by simp⟩⟩
theorem aLz {s:M.Site} {f:ByteArray} {v:Int} (hs:s.ok) (hv:inI v) (zs:M.Site.sz s≤1048576) (zf:f.size≤1048576) : ∃r,xI s f v=some r∧wM s f v=some r∧M.Response.ok r:=by
 have hn:s.Name.size≤1048576:=by simp only [M.Site.sz] at zs;omega
 obtain ⟨l,e1,e2,hl⟩:=aPZ (t:=s) (f:=f) (v:=v) hn zf
 unfold xI wM cK eI
 rw [aD6 hs,aD2 hs,aJ3 hs,aJ1 hs,aJG hs,aJB hs,e1,e2]
 have n404:M.Response.ok (⟨1,404,s.Version,([]:List Int),false⟩:M.Response):=⟨by unfold inI;simp,by unfold inI;simp,hs.Version,⟨by simp [maxLen],by simp⟩⟩
 simp only [qA]
 cases aIR s
 ·exact ⟨_,rfl,rfl,aQW⟩
 ·cases aIt s v
  ·exact ⟨_,rfl,rfl,n404⟩
  ·cases aRp s f
   ·exact ⟨_,rfl,rfl,n404⟩
   ·exact ⟨_,rfl,rfl,⟨by unfold inI;simp,by unfold inI;simp,hv,hl⟩⟩
theorem aJ6 {c:M.aO} {s:M.Site} {f:ByteArray} {v:Int} {o:Bool} (hc:c.ok) (hs:s.ok) (hv:inI v) (zc:c.sz≤1048576) (zs:M.Site.sz s≤1048576) (zf:f.size≤1048576) : ∃r,jP c s v f o=some r∧jS c s v f o=some r∧M.Response.ok r:=by
 obtain ⟨x,e1,e2,hx⟩:=aK3 (s:=c) (v:=v) (a:=s.Name) (b:=f) hc zc
 obtain ⟨y,e3,e4,hy⟩:=aLz (f:=f) hs hv zs zf
 unfold jP jS cK eI
 rw [e1,e2,e3,e4]
 simp only [qA]
 cases x.2
 ·cases o
  ·exact ⟨_,rfl,rfl,aQW⟩
  ·exact ⟨_,rfl,rfl,hy⟩
 ·exact ⟨_,rfl,rfl,hx⟩
def aFG (p:M.bH) (f:ByteArray) (v:Int):M.bH:=(⟨p.Id,p.Site,p.Top,p.Version,p.aK++[(⟨f,v⟩:M.aK)],p.Machine⟩:M.bH)
def aIs (p:M.bH) (f:ByteArray) (x:M.Response):M.bH×Bool:=if (x.Status != 200)=true then (p,false) else if (x.Version != p.Version)=true then (p,false) else if aDZ p=true then (if aDZ (aFG p f x.Version)=true then (aFG p f x.Version,true) else (p,false)) else (p,false)
theorem aIJ {p:M.bH} {f:ByteArray} {v:Int} (hp:p.ok) (hl:p.aK.length≤4194304) (hf:f.size≤maxLen) (hv:inI v):(aFG p f v).ok:=
 ⟨hp.Id,hp.Site,hp.Top,hp.Version,⟨by show (p.aK++_).length≤maxLen;unfold maxLen;simp;omega,fun y hy=>by
  have hy':y∈p.aK++[(⟨f,v⟩:M.aK)]:=hy
  simp only [qO,List.mem_cons,List.not_mem_nil,or_false] at hy'
  rcases hy' with hy | rfl
  ·exact hp.aK.2 y hy
  ·exact ⟨hf,hv⟩⟩,hp.Machine⟩
theorem aQD {p:M.bH} {f:ByteArray} {x:M.Response} (hp:p.ok) (hl:p.aK.length≤4194304) (hf:f.size≤maxLen) (hv:inI x.Version):(aIs p f x).1.ok:=by
 unfold aIs
 split
 ·exact hp
 ·split
  ·exact hp
  ·split
   ·split
    ·exact aIJ hp hl hf hv
    ·exact hp
   ·exact hp
theorem aPu (p:M.bH) (f:ByteArray) (x:M.Response):M.bH.sz (aIs p f x).1≤M.bH.sz p+f.size+1:=by
 have h:M.bH.sz (aFG p f x.Version)=M.bH.sz p+f.size+1:=by
  simp only [aFG,M.bH.sz,qE,qJ,qK,aDg,aF,M.aK.sz]
  omega
 unfold aIs
 split
 ·show M.bH.sz p≤_;omega
 ·split
  ·show M.bH.sz p≤_;omega
  ·split
   ·split
    ·show M.bH.sz (aFG p f x.Version)≤_;omega
    ·show M.bH.sz p≤_;omega
   ·show M.bH.sz p≤_;omega
theorem aIr {p:M.bH} {f:ByteArray} {x:M.Response} (hp:p.ok) (hl:p.aK.length≤4194304) (hz:M.bH.sz p≤1073741824) (hf:f.size≤maxLen) (hv:inI x.Version):nX p f x=some (aIs p f x):=by
 have e:=aCu (aIJ hp hl hf hv)
 unfold aFG at e
 unfold nX aIs
 rw [aFL p hz,qA,oF (by simp only [qJ,qK];omega),qA,aCu hp,qA,e,qA]
 unfold aFG
 cases (x.Status != 200)
 ·cases (x.Version != p.Version)
  ·cases aDZ p
   ·simp
   ·cases aDZ (⟨p.Id,p.Site,p.Top,p.Version,p.aK++[(⟨f,x.Version⟩:M.aK)],p.Machine⟩:M.bH)<;>simp
  ·simp
 ·simp
theorem aIi {p:M.bH} {f:ByteArray} {x:M.Response} (hp:p.ok) (hl:p.aK.length≤4194304) (hz:M.bH.sz p≤1073741824) (hf:f.size≤maxLen) (hv:inI x.Version):oE p f x=some (aIs p f x):=by
 have e:=aCx (aIJ hp hl hf hv)
 unfold aFG at e
 unfold oE aIs
 rw [aEp p hz,qA,oF (by simp only [qJ,qK];omega),qA,aCx hp,qA,e,qA]
 unfold aFG
 cases (x.Status != 200)
 ·cases (x.Version != p.Version)
  ·cases aDZ p
   ·simp
   ·cases aDZ (⟨p.Id,p.Site,p.Top,p.Version,p.aK++[(⟨f,x.Version⟩:M.aK)],p.Machine⟩:M.bH)<;>simp
  ·simp
 ·simp
end Go.Proofs.YtimblbmbfdopgaaGreat.gen
