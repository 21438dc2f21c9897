/-
  Helper text. No conditions.
-/
import Derived.Test.YtnhpbpnhmapeeaaGreatActivateWorkerPm2
namespace Go.Proofs.YtnhpbpnhmapeeaaGreat.gen
open Go Go.Sh
set_option linter.unusedVariables false
set_option linter.unusedSimpArgs false
theorem aIH {α β R:Type} {xs:List α} {f:α→Bool} {g:α→β} {b:Nat} {E:List β→Option R} {L:Nat→Int→List β→Option R} (hx:xs.length≤maxLen) (hb:xs.length*b≤140737488355328)
  (h1 : ∀n (r:List β) (k:Nat) (hk:k<xs.length),L (n+1) (k:Int) r=if f xs[k]=true then (app b r [g xs[k]]).bind fun _=>L n ((k+1:Nat):Int) (r++[g xs[k]]) else L n ((k+1:Nat):Int) r) (h2 : ∀n r,L (n+1) (xs.length:Int) r=E r) :
  L fuel 0 []=E ((xs.filter f).map g):=by
 have key:=aKw (L:=fun n k r=>L n k r) (step:=fun r x=>if f x=true then r++[g x] else r) (I:=fun k r=>r.length≤k) (E:=E) hx
  (fun s k hk hi=>by have hi':s.length≤k:=hi;split<;>(try simp only [List.length_append,List.length_cons,List.length_nil])<;>omega) (fun n s k hk hi=>by
   have hi':s.length≤k:=hi
   rw [h1 n s k hk]
   by_cases h:f xs[k]=true
   ·rw [if_pos h,if_pos h,yF,Option.bind_some]
    simp only [List.length_cons,List.length_nil]
    refine Nat.le_trans (Nat.mul_le_mul_right b (show s.length+(0+1)≤xs.length by omega)) hb
   ·rw [if_neg h,if_neg h]) (fun n s _=>h2 n s) [] (by simp)
 have e : ∀(l:List α) (r:List β),l.foldl (fun r x=>if f x=true then r++[g x] else r) r=r++(l.filter f).map g:=by
  intro l
  induction l with
  | nil=>intro r;simp
  | cons x l ih =>
   intro r
   rw [List.foldl_cons,ih,List.filter_cons]
   split<;>simp
 rw [key.1,e]
 simp
theorem aIC {α:Type} {f:α→Nat} : ∀(n:Nat) (l:List α),aF f (l.drop n)≤aF f l
 | 0,l=>by simp
 | n+1,[]=>by simp
 | n+1,x::l=>by have:=aIC (f:=f) n l;simp only [List.drop_succ_cons,aF];omega
theorem aMu {α:Type} {f:α→Nat} (k:Nat) (l:List α):aF f (l.take k++l.drop (k+1))≤aF f l:=by
 have h1:=aCX (f:=f) (l.take k) (l.drop (k+1))
 have h2:=aCX (f:=f) (l.take k) (l.drop k)
 rw [List.take_append_drop] at h2
 have h3:=aIC (f:=f) 1 (l.drop k)
 rw [List.drop_drop] at h3
 omega
theorem aRT {α:Type} (a b:Bool) (x y:α):(if a=true then (if b=true then x else y) else y)=if (a&&b)=true then x else y:=by cases a<;>cases b<;>rfl
def nOn (a b:ByteArray) (x:M.bI):Bool:=(x.Site.toList==a.toList)&&(x.Top.toList==b.toList)
theorem aHp {w:M.World} {a b:ByteArray} (hz:M.World.sz w≤1048576):zM w a b=some (w.Pages.filter (nOn a b)):=by
 have hl:w.Pages.length≤1048576:=by simp only [M.World.sz] at hz;omega
 unfold zM
 refine aHZ (L:=gU w a b) (b:=144) (E:=some) (by unfold maxLen;omega) (by omega) (fun n r k hk => ?_) (fun n r => ?_)
 ·have hz1:=cC (f:=M.bI.sz) (List.getElem_mem hk)
  simp only [M.World.sz] at hz
  simp only [gU]
  rw [if_pos (aZ hk),aO hk,Option.bind_some,aDt _ (by omega),Option.bind_some,bD (by omega),aRT]
  rfl
 ·simp only [gU]
  rw [if_neg (by rw [aP];simp)]
theorem aHl {w:M.World} {a b:ByteArray} (hz:M.World.sz w≤1048576):yR w a b=some (w.Pages.filter (nOn a b)):=by
 have hl:w.Pages.length≤1048576:=by simp only [M.World.sz] at hz;omega
 unfold yR
 refine aHZ (L:=gR w a b) (b:=144) (E:=some) (by unfold maxLen;omega) (by omega) (fun n r k hk => ?_) (fun n r => ?_)
 ·have hz1:=cC (f:=M.bI.sz) (List.getElem_mem hk)
  simp only [M.World.sz] at hz
  simp only [gR]
  rw [if_pos (aZ hk),aO hk,Option.bind_some,aDN _ (by omega),Option.bind_some,bD (by omega),aRT]
  rfl
 ·simp only [gR]
  rw [if_neg (by rw [aP];simp)]
theorem aOX {α:Type} {l:List α} {k:Nat} (h:k≤l.length):aKc l (k:Int)=some (l.drop k):=by
 unfold aKc
 rw [if_pos ⟨by omega,by simpa using h⟩]
 simp
theorem aGV {s:M.aM} {v:Int} (hs:s.ok):uU s v=some (aBN (fun c:M.Cache=>c.Version==v) s.Caches):=by
 have hm:=le_max hs.Caches.1
 unfold uU
 rw [findAll (L:=iE s v) (f:=fun c:M.Cache=>c.Version==v) (A:=fun i=>some (i:Int)) (E:=some (-1)) hs.Caches.1 (fun m k hk => ?_) (fun m => ?_),xI]
 ·simp only [iE]
  rw [if_pos (aZ hk),aO hk,Option.bind_some,bD (by omega)]
 ·simp only [iE]
  rw [if_neg (by rw [aP];simp)]
theorem aGS {s:M.aM} {v:Int} (hs:s.ok):uS s v=some (aBN (fun c:M.Cache=>c.Version==v) s.Caches):=by
 unfold uS
 rw [aFf (f:=fun c:M.Cache=>c.Version==v) hs.Caches.1 (fun x _=>by simp only [oV]),Option.bind_some]
def aH6 (s:M.aM) (k:Nat):List M.Cache:=s.Caches.take k++s.Caches.drop (k+1)
def aIe (s:M.aM) (v:Int):M.aM×Bool:=if aBN (fun c:M.Cache=>c.Version==v) s.Caches<0 then (s,false) else ((⟨aH6 s (aBN (fun c:M.Cache=>c.Version==v) s.Caches).toNat⟩:M.aM),true)
theorem aLe {s:M.aM} {k:Nat} {x:M.Cache} (h:x∈aH6 s k):x∈s.Caches:=by
 unfold aH6 at h
 rcases List.mem_append.1 h with h | h
 ·exact List.mem_of_mem_take h
 ·exact List.mem_of_mem_drop h
theorem aIN (s:M.aM) (k:Nat):(aH6 s k).length≤s.Caches.length:=by
 unfold aH6
 simp only [List.length_append,List.length_take,List.length_drop]
 omega
theorem aOC {s:M.aM} {v:Int} (hs:s.ok):M.aM.ok (aIe s v).1:=by
 unfold aIe
 split
 ·exact hs
 ·exact ⟨⟨Nat.le_trans (aIN s _) hs.Caches.1,fun x hx=>hs.Caches.2 x (aLe hx)⟩⟩
theorem aNg (s:M.aM) (v:Int):M.aM.sz (aIe s v).1≤M.aM.sz s:=by
 unfold aIe
 split
 ·exact Nat.le_refl _
 ·have h1:=aIN s (aBN (fun c:M.Cache=>c.Version==v) s.Caches).toNat
  have h2:=aMu (f:=M.Cache.sz) (aBN (fun c:M.Cache=>c.Version==v) s.Caches).toNat s.Caches
  unfold aH6 at h1 ⊢
  simp only [M.aM.sz]
  omega
theorem aGP {s:M.aM} {v:Int} (hs:s.ok) (hz:M.aM.sz s≤1073741824):tZ s v=some (aIe s v):=by
 have hl:s.Caches.length≤1073741824:=by simp only [M.aM.sz] at hz;omega
 unfold tZ aIe
 rw [aCR s hz,Option.bind_some,aGV hs,Option.bind_some]
 by_cases h:aBN (fun c:M.Cache=>c.Version==v) s.Caches<0
 ·rw [if_pos (by simpa using h),if_pos h]
 ·obtain ⟨k,e,hk⟩:=aBx h
  rw [if_neg (by simpa using h),if_neg h,e,aG6 (by omega),Option.bind_some,bD (by omega),aOX (by omega),Option.bind_some,Int.toNat_natCast,Int.toNat_natCast,yF (by simp only [List.length_take,List.length_drop];omega),Option.bind_some]
  rfl
theorem aGQ {s:M.aM} {v:Int} (hs:s.ok) (hz:M.aM.sz s≤1073741824):tN s v=some (aIe s v):=by
 have hl:s.Caches.length≤1073741824:=by simp only [M.aM.sz] at hz;omega
 unfold tN aIe
 rw [aCA s hz,Option.bind_some,aGS hs,Option.bind_some]
 by_cases h:aBN (fun c:M.Cache=>c.Version==v) s.Caches<0
 ·rw [if_pos (by simpa using h),if_pos h]
 ·obtain ⟨k,e,hk⟩:=aBx h
  rw [if_neg (by simpa using h),if_neg h,e,bD (by omega),aOF ⟨by omega,by omega,by omega⟩,Option.bind_some,Int.toNat_natCast,Int.toNat_natCast]
  rfl
def aHi (l:List M.bI) (a:ByteArray):List Int:=(l.filter fun x:M.bI=>x.Site.toList==a.toList).map fun x=>x.Version
theorem aM6 (l:List M.bI) (a:ByteArray):(aHi l a).length≤l.length:=by unfold aHi;rw [List.length_map];exact List.length_filter_le _ _
theorem aEB {l:List M.bI} {a:ByteArray} (hl:l.length≤1048576):nB l a=some (aHi l a):=by
 unfold nB aHi
 refine aIH (L:=eA l a) (b:=8) (E:=some) (f:=fun x:M.bI=>x.Site.toList==a.toList) (g:=fun x:M.bI=>x.Version) (by unfold maxLen;omega) (by omega) (fun n r k hk => ?_) (fun n r => ?_)
 ·simp only [eA]
  rw [if_pos (aZ hk),aO hk,Option.bind_some,bD (by omega)]
 ·simp only [eA]
  rw [if_neg (by rw [aP];simp)]
theorem aEE {l:List M.bI} {a:ByteArray} (hl:l.length≤1048576):nJ l a=some (aHi l a):=by
 unfold nJ aHi
 refine aIH (L:=eB l a) (b:=8) (E:=some) (f:=fun x:M.bI=>x.Site.toList==a.toList) (g:=fun x:M.bI=>x.Version) (by unfold maxLen;omega) (by omega) (fun n r k hk => ?_) (fun n r => ?_)
 ·simp only [eB]
  rw [if_pos (aZ hk),aO hk,Option.bind_some,bD (by omega)]
 ·simp only [eB]
  rw [if_neg (by rw [aP];simp)]
def aO3 (r:M.Registration) (l:List Int):Bool:=aO2 r&&((r.Waiting != 0) && !(l.any fun x=>x==r.Active))
theorem aEQ {r:M.Registration} {l:List Int} (hr:r.ok) (hl:l.length≤1048576):oD r l=some (aO3 r l):=by
 unfold oD aO3
 rw [findAll (xs:=l) (L:=gD r l) (f:=fun x:Int=>x==r.Active) (A:=fun _=>some false) (E:=(fA r).bind fun x=>(if x=true then (some (r.Waiting != 0)) else (some false))) (by unfold maxLen;omega) (fun m k hk => ?_) (fun m => ?_),aNw,xH hr,Option.bind_some]
 ·cases l.any (fun x:Int=>x==r.Active)<;>cases aO2 r<;>simp
 ·simp only [gD]
  rw [if_pos (aZ hk),aO hk,Option.bind_some,bD (by omega)]
 ·simp only [gD]
  rw [if_neg (by rw [aP];simp)]
theorem aHr {l:List Int} {v:Int} (hl:l.length≤1048576):kK l v=some (l.any fun x=>x==v):=by
 unfold kK vT
 rw [findAll (xs:=l) (L:=gE l v) (f:=fun x:Int=>x==v) (A:=fun i=>some (i:Int)) (E:=some (-1)) (by unfold maxLen;omega) (fun m k hk => ?_) (fun m => ?_),xI,Option.bind_some,aGf]
 ·simp only [gE]
  rw [if_pos (aZ hk),aO hk,Option.bind_some,bD (by omega),Bool.beq_comm]
 ·simp only [gE]
  rw [if_neg (by rw [aP];simp)]
theorem aEs {r:M.Registration} {l:List Int} (hr:r.ok) (hl:l.length≤1048576):oQ r l=some (aO3 r l):=by
 unfold oQ aO3
 rw [aBe hr,Option.bind_some,aHr hl,Option.bind_some]
 cases aO2 r<;>cases (r.Waiting != 0)<;>simp
def aNy (r:M.Registration) (l:List Int):M.Registration×Int×Bool:=if aO3 r l=true then ((⟨r.Site,r.Installing,0,r.Waiting⟩:M.Registration),r.Active,true) else (r,0,false)
theorem aHV {r:M.Registration} {l:List Int} (hr:r.ok) (hl:l.length≤1048576):wZ r l=some (aNy r l):=by
 unfold wZ aNy
 rw [aEQ hr hl,Option.bind_some]
 cases aO3 r l<;>simp
theorem aHG {r:M.Registration} {l:List Int} (hr:r.ok) (hl:l.length≤1048576):xG r l=some (aNy r l):=by
 unfold xG aNy
 rw [aEs hr hl,Option.bind_some]
 cases aO3 r l<;>simp
theorem aOo {r:M.Registration} {l:List Int} (hr:r.ok):M.Registration.ok (aNy r l).1:=by
 unfold aNy
 split
 ·exact ⟨hr.Site,hr.Installing,by unfold inI;simp,hr.Waiting⟩
 ·exact hr
theorem aOZ (r:M.Registration) (l:List Int):M.Registration.sz (aNy r l).1=M.Registration.sz r:=by
 unfold aNy
 split<;>rfl
theorem aNJ {b o:M.aA} (zb:M.aA.sz b≤1048576) (zo:M.Database.sz o.bB.Base≤1048576):M.Database.sz (aII b o).1.bB.Base≤1048576:=by
 unfold aII
 split
 ·split
  ·exact zo
  ·exact zK zb
 ·exact zK zb
def aHf (w:M.World) (b:M.aA) (ok:Bool):M.World×Bool:=if ok=true then (if (aL9 w.aC b).2=true then ({ w with aC:=(aL9 w.aC b).1 },true) else (w,false)) else (w,false)
theorem aOK {w:M.World} {b:M.aA} {ok:Bool} (hw:w.ok) (hb:b.ok) (hz:M.World.sz w≤1048576):M.World.ok (aHf w b ok).1:=by
 have h:=aOY hw.aC hb (aEZ hz)
 unfold aHf
 split
 ·split
  ·exact ⟨hw.Now,hw.Device,h,hw.Pages,hw.NextPage,hw.Locks,hw.Channel,hw.Sites,hw.Servers⟩
  ·exact hw
 ·exact hw
theorem aNq (w:M.World) (b:M.aA) (ok:Bool):M.World.sz (aHf w b ok).1≤M.World.sz w+M.aA.sz b+1:=by
 have h:=aOm w.aC b
 unfold aHf
 split
 ·split
  ·simp only [M.World.sz];omega
  ·show M.World.sz w≤_;omega
 ·show M.World.sz w≤_;omega
theorem aEg {w:M.World} {b:M.aA} {ok:Bool} (hw:w.ok) (hb:b.ok) (hz:M.World.sz w≤1048576) (zc:M.aA.sz b≤1073741824) (zb:M.Database.sz b.bB.Base≤1048576):yA w b ok=some (aHf w b ok):=by
 unfold yA aHf
 rw [aDu w (by omega),Option.bind_some,aFO hw.aC hb (aEZ hz) zc zb,Option.bind_some]
 cases ok
 ·simp
 ·cases (aL9 w.aC b).2<;>simp
theorem aFF {w:M.World} {b:M.aA} {s:M.aM} {r:M.Registration} (hw:w.ok) (hb:b.ok) (hs:s.ok) (hr:r.ok) (hz:M.World.sz w≤1048576) (zb:M.aA.sz b≤1048576) (zs:(M.aM.sz s+M.Registration.sz r)≤536870912) :
  qU w b s r=some (aHf w (aII b (cU b s r)).1 (aII b (cU b s r)).2):=by
 have zo:M.Database.sz (cU b s r).bB.Base≤1048576:=zK (b:=b) zb
 have zr:=aBV b s r
 have zc:=aNR b (cU b s r)
 have zd:=aNJ (o:=cU b s r) zb zo
 unfold qU aHf
 rw [aC3 w (by omega),Option.bind_some,aDo hb hs hr zb zs zo,Option.bind_some,aFi hw.aC (aM0 hb (aBU hb hs hr)) (aEZ hz) (by omega) zd,Option.bind_some]
 cases (aII b (cU b s r)).2
 ·simp
 ·cases (aL9 w.aC (aII b (cU b s r)).1).2<;>simp
theorem aGL {w:M.World} {a b:ByteArray} (hw:w.ok) (hz:M.World.sz w≤1048576) : ∃R:M.World×Bool,kJ w a b=some R∧iT w a b=some R∧R.1.ok∧M.World.sz R.1≤16777216:=by
 have hz':=hz
 simp only [M.World.sz,M.aC.sz] at hz'
 unfold kJ iT aAk
 rw [aBO hw.aC,aBS hw.aC,aC3 w (by omega),aHm hw hz,aHu hw hz,aDu w (by omega)]
 simp only [Option.bind_some]
 by_cases h:aBN (nAt a b) w.aC.Buckets<0
 ·simp only [h,decide_true,if_true,Option.bind_some]
  refine ⟨(w,false),?_,?_,hw,by show M.World.sz w≤_;omega⟩<;>cases aF0 w<;>simp
 ·obtain ⟨j,ej,hj⟩:=aBx h
  simp only [h,decide_false,Bool.false_eq_true,if_false]
  rw [ej,aO hj]
  simp only [Option.bind_some,Bool.not_true,Bool.false_eq_true,if_false]
  cases hn:aF0 w with
  | false=>exact ⟨(w,false),by simp,by simp,hw,by show M.World.sz w≤_;omega⟩
  | true =>
   simp only [Bool.not_true,Bool.false_eq_true,if_false]
   have hb:=hw.aC.Buckets.2 _ (List.getElem_mem hj)
   have z1:=cC (f:=M.aA.sz) (List.getElem_mem hj)
   have hlf:=List.length_filter_le (nOn a b) w.Pages
   generalize w.aC.Buckets[j]=q at hb z1
   have z2:M.aM.sz q.Caches+M.Registration.sz q.Registration≤M.aA.sz q:=by simp only [M.aA.sz];omega
   have hu:(aHi (w.Pages.filter (nOn a b)) a).length≤1048576:=Nat.le_trans (aM6 _ _) (by omega)
   rw [aHp hz,aHl hz,Option.bind_some,Option.bind_some,aEB (by omega),aEE (by omega),Option.bind_some,Option.bind_some,aHV hb.Registration hu,aHG hb.Registration hu,Option.bind_some,Option.bind_some]
   have ok1:=aOo (l:=aHi (w.Pages.filter (nOn a b)) a) hb.Registration
   have sz1:=aOZ q.Registration (aHi (w.Pages.filter (nOn a b)) a)
   generalize aNy q.Registration (aHi (w.Pages.filter (nOn a b)) a)=T at ok1 sz1
   obtain ⟨r,v,c⟩:=T
   simp only at ok1 sz1 ⊢
   have ok2:=aOC (v:=v) hb.Caches
   have sz2:=aNg q.Caches v
   rw [aGP hb.Caches (by omega),aGQ hb.Caches (by omega),Option.bind_some,Option.bind_some]
   generalize (aIe q.Caches v).1=s at ok2 sz2
   have zs:(M.aM.sz s+M.Registration.sz r)≤536870912:=by omega
   have zo:M.Database.sz (cU q s r).bB.Base≤1048576:=zK (b:=q) (by omega)
   have zr:=aBV q s r
   have zc:=aNR q (cU q s r)
   have zd:=aNJ (b:=q) (o:=cU q s r) (by omega) zo
   have ok3:=aM0 hb (aBU hb ok2 ok1)
   rw [aDl hb ok2 ok1 (by omega) zs zo,Option.bind_some,aFF hw hb ok2 ok1 hz (by omega) zs,aEg hw ok3 hz (by omega) zd,aEg hw ok3 hz (by omega) zd]
   generalize aII q (cU q s r)=Y at zc ok3
   simp only [Option.bind_some]
   cases c with
   | false=>exact ⟨(w,false),by simp [aHf],by simp,hw,by show M.World.sz w≤_;omega⟩
   | true =>
    have ok4:=aOK (ok:=Y.2) hw ok3 hz
    have sz4:=aNq w Y.1 Y.2
    exact ⟨aHf w Y.1 Y.2,by simp,by simp,ok4,by omega⟩
end Go.Proofs.YtnhpbpnhmapeeaaGreat.gen
