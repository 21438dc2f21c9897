/-
  Helper text. No conditions.
-/
import Derived.Test.YtidhkhdnjonjfaaGreatReadNotePq2
set_option linter.unusedVariables false
set_option linter.unusedSimpArgs false
namespace Go.Proofs.YtidhkhdnjonjfaaGreat.gen
open Go Go.Sh
open Go.IntKind (i64)
def aCf (o:M.Op):Prop:=inI o.Kind∧o.aC.size≤maxLen∧o.Key.ok∧o.aA.ok∧o.Field.size≤maxLen
def nOp (o:M.Op):Bool:=inR o.Kind 1 6&&(tN o.aC&&(((o.Kind==5)||wS o.Key)&&(bG o.aA&&(if (o.Kind==6)=true then tN o.Field else (o.Field.toList==(⟨#[]⟩:ByteArray).toList)))))
theorem aCu {o:M.Op} (h:aCf o):xH o=some (nOp o):=by
 unfold xH nOp
 simp only [pU,sP h.2.1,gZ h.2.2.1,jR h.2.2.2.1,sP h.2.2.2.2,qA]
 have hb:(o.Kind != 6) = !(o.Kind==6):=rfl
 generalize (o.Kind != 6)=a9 at hb ⊢
 generalize inR o.Kind 1 6=a1
 generalize tN o.aC=a2
 generalize (o.Kind==5)=a3
 generalize wS o.Key=a4
 generalize bG o.aA=a5
 generalize (o.Kind==6)=a6 at hb ⊢
 generalize tN o.Field=a7
 generalize (o.Field.toList==(⟨#[]⟩:ByteArray).toList)=a8
 subst hb
 cases a1<;>cases a2<;>cases a3<;>cases a4<;>cases a5<;>cases a6<;>cases a7<;>cases a8<;>rfl
theorem aC9 {o:M.Op} (h:aCf o):wZ o=some (nOp o):=by
 unfold wZ nOp
 simp only [lJ,sI h.2.1,kM h.2.2.1,pO h.2.2.2.1,sI h.2.2.2.2,qA]
 have hb:(o.Kind != 5) = !(o.Kind==5):=rfl
 generalize (o.Kind != 5)=a9 at hb ⊢
 generalize inR o.Kind 1 6=a1
 generalize tN o.aC=a2
 generalize (o.Kind==5)=a3 at hb ⊢
 generalize wS o.Key=a4
 generalize bG o.aA=a5
 generalize (o.Kind==6)=a6
 generalize tN o.Field=a7
 generalize (o.Field.toList==(⟨#[]⟩:ByteArray).toList)=a8
 subst hb
 cases a1<;>cases a2<;>cases a3<;>cases a4<;>cases a5<;>cases a6<;>cases a7<;>cases a8<;>rfl
def enO (o:M.Op):List Int:=uv o.Kind.toNat++(aAU (aV o.aC)++(aAU (enK o.Key)++(aAU (enR o.aA)++aAU (aV o.Field))))
def aC6 (l:List M.Op):List Int:=if (l.all nOp&&decide (l.length≤6))=true then uv l.length++aCI enO l else []
theorem bsize {a b:ByteArray} (h:a.toList=b.toList):a.size=b.size:=by
 rw [ByteArray.toList_eq,ByteArray.toList_eq] at h
 have:=congrArg List.length h
 rw [Array.length_toList,Array.length_toList] at this
 exact this
theorem aHq {s:ByteArray} (h:(s.toList==(⟨#[]⟩:ByteArray).toList)=true):s.size=0:=bsize (eq_of_beq h)
theorem rA {o:M.Op} (h:nOp o=true):1≤o.Kind∧o.Kind≤6∧o.aC.size≤8∧o.Field.size≤8∧bG o.aA=true:=by
 unfold nOp inR at h
 simp only [qM,qL] at h
 obtain ⟨h1,h2,_,h4,h5⟩:=h
 have n8 : ∀s:ByteArray,tN s=true→s.size≤8:=fun s hs=>by
  unfold tN inR at hs
  simp only [qM,qL] at hs
  omega
 refine ⟨h1.1,h1.2,n8 _ h2,?_,h4⟩
 split at h5
 ·exact n8 _ h5
 ·rw [aHq h5];omega
theorem aAZ {b:List Int} {n:Nat} (h:b.length≤n) (hn:n≤127):(aAU b).length≤n+1:=by
 have:=yP 0 b.length (by omega)
 unfold aAU
 rw [qE]
 omega
theorem aGq {o:M.Op} (h:nOp o=true):(enO o).length≤130:=by
 obtain ⟨h1,h2,h3,h4,_⟩:=rA h
 have e1:=yP 0 o.Kind.toNat (by omega)
 have e2:=aAZ (b:=aV o.aC) (n:=8) (by rw [aR];exact h3) (by omega)
 have e3:=aAZ (aBM o.Key) (by omega)
 have e4:=aAZ (aBK o.aA) (by omega)
 have e5:=aAZ (b:=aV o.Field) (n:=8) (by rw [aR];exact h4) (by omega)
 unfold enO
 simp only [qE]
 omega
theorem aKe {o:M.Op} (ho:aCf o) (h:nOp o=true) {q:List Int} (hq:q.length≤900000) {α:Type} (K:List Int→Option α):((bZ q o.Kind).bind fun x21=>((bQ x21 (aV o.aC)).bind fun x23=>((kB o.Key).bind fun x25=>((bQ x23 x25).bind fun x27=>((gT o.aA).bind fun x29=>((bQ x27 x29).bind fun x31=>((bQ x31 (aV o.Field)).bind fun x33=>K x33)))))))=K (q++enO o):=by
 obtain ⟨h1,h2,h3,h4,_⟩:=rA h
 have e0:=iU (r:=q) (n:=o.Kind.toNat) (by omega) (by omega)
 rw [Int.toNat_of_nonneg (by omega)] at e0
 have l1:=yP 0 o.Kind.toNat (by omega)
 have l2:=aAZ (b:=aV o.aC) (n:=8) (by rw [aR];exact h3) (by omega)
 have l3:=aAZ (aBM o.Key) (by omega)
 have l4:=aAZ (aBK o.aA) (by omega)
 have k2:=aR o.aC
 have k5:=aR o.Field
 have k3:=aBM o.Key
 have k4:=aBK o.aA
 rw [e0,qA,lG (by simp only [qE];omega) (by omega),qA,aCh ho.2.2.1,qA,lG (by simp only [qE];omega) (by omega),qA,aBH ho.2.2.2.1,qA,lG (by simp only [qE];omega) (by omega),qA,lG (by simp only [qE];omega) (by omega),qA]
 unfold enO
 simp only [qR]
theorem eoS {l:List M.Op} (hl:l.length≤1000) (ho : ∀o∈l,aCf o) : ∀(n k:Nat) (q:List Int),l.length-k<n→k≤l.length→q.length≤20+130*k→gL l n (k:Int) q=some (if (l.drop k).all nOp=true then (if l.length>6 then [] else q++aCI enO (l.drop k)) else [])
 | 0,_,_,h,_,_=>by omega
 | n+1,k,q,hn,hk,hq=>by
  simp only [gL]
  rcases Nat.lt_or_ge k l.length with hlt | hge
  ·rw [if_pos (bD hlt),aF hlt,qA,aCu (ho _ (qG hlt)),qA,qU hlt,List.all_cons]
   cases h:nOp l[k] with
   | false =>
    simp only [qC,if_true,Bool.false_and,qD,if_false]
   | true =>
    simp only [qB,qD,if_false,Bool.true_and]
    have hx:=aGq h
    rw [aKe (ho _ (qG hlt)) h (by omega),bR (by omega),eoS hl ho n (k+1) _ (by omega) (by omega) (by rw [qE];omega),aCI,qR]
  ·have e:k=l.length:=by omega
   subst e
   rw [if_neg (by rw [aJ];simp),qX]
   simp only [List.all_nil,if_true,aCI,qV]
   by_cases h6:l.length>6
   ·rw [if_pos (by simp;omega),if_pos h6]
   ·rw [if_neg (by simp;omega),if_neg h6]
theorem aCi {l:List M.Op} (hl:l.length≤1000) (ho : ∀o∈l,aCf o):nI l=some (aC6 l):=by
 have h9:=aAd (n:=l.length) (by omega)
 unfold nI aC6
 rw [iU (by simp) (by omega),qA,List.nil_append]
 have e:=eoS hl ho fuel 0 (uv l.length) (by unfold fuel;omega) (by omega) (by omega)
 rw [List.drop_zero] at e
 refine Eq.trans e ?_
 congr 1
 cases l.all nOp with
 | false=>rfl
 | true =>
  by_cases h6:l.length>6
  ·rw [if_pos rfl,if_pos h6,if_neg (by simp;omega)]
  ·rw [if_pos rfl,if_neg h6,if_pos (by simp;omega)]
theorem aES {l:List M.Op} (hl:l.length≤1000) (ho : ∀o∈l,aCf o):vV l=some (l.all nOp&&decide (l.length≤6)):=by
 have key : ∀(n k:Nat),l.length-k<n→k≤l.length→kG l n (k:Int)=some ((l.drop k).all nOp&&decide (l.length≤6)):=by
  intro n
  induction n with
  | zero=>intro k h;omega
  | succ n ih =>
   intro k hn hk
   simp only [kG]
   rcases Nat.lt_or_ge k l.length with hlt | hge
   ·rw [if_pos (bD hlt),aF hlt,qA,aC9 (ho _ (qG hlt)),qA,qU hlt,List.all_cons]
    cases h:nOp l[k] with
    | false=>rfl
    | true =>
     simp only [qB,qD,if_false,Bool.true_and]
     rw [bR (by omega),ih (k+1) (by omega) (by omega)]
   ·have e:k=l.length:=by omega
    subst e
    rw [if_neg (by rw [aJ];simp),qX,List.all_nil,Bool.true_and]
    congr 1
    rw [decide_eq_decide]
    omega
 unfold vV
 exact key fuel 0 (by unfold fuel;omega) (by omega)
theorem aCd {l:List M.Op} (hl:l.length≤1000) (ho : ∀o∈l,aCf o):oO l=some (aC6 l):=by
 unfold oO aC6
 rw [aES hl ho,qA]
 cases h:(l.all nOp&&decide (l.length≤6)) with
 | false=>rfl
 | true =>
  rw [qM,qL,qP] at h
  have h9:=aAd (n:=l.length) (by omega)
  simp only [qB,qD,if_false,if_true]
  rw [iV (by simp) (by omega),qA,List.nil_append]
  have:=aDc (xs:=l) (f:=enO) (c:=130) (B:=10000) (L:=cN l) (E:=some) (fun o hx=>aGq (h.1 o hx)) (fun n k hk q hq => ?_) (fun n q _ => ?_) fuel 0 (uv l.length) (by unfold fuel;omega) (by omega) (by omega)
  ·rw [List.drop_zero] at this
   exact this
  ·have ho':=ho _ (qG hk)
   obtain ⟨h1,h2,h3,h4,_⟩:=rA (h.1 _ (qG hk))
   have e0:=iV (r:=q) (n:=l[k].Kind.toNat) (by omega) (by omega)
   rw [Int.toNat_of_nonneg (by omega)] at e0
   have l1:=yP 0 l[k].Kind.toNat (by omega)
   have k2:=aR l[k].aC
   have k5:=aR l[k].Field
   have k3:=aBM l[k].Key
   have k4:=aBK l[k].aA
   simp only [cN]
   rw [if_pos (bD hk),aF hk,qA,e0,qA,yA ho'.2.2.1,qA,yU ho'.2.2.2.1,qA]
   have hp : ∀x∈[aV l[k].aC,enK l[k].Key,enR l[k].aA,aV l[k].Field],x.length≤85:=fun x hx=>by
    simp only [List.mem_cons,List.not_mem_nil,or_false] at hx
    rcases hx with rfl | rfl | rfl | rfl<;>omega
   have hin:=aDc (L:=dF l[k] (enK l[k].Key) (enR l[k].aA) (fun (v39:Int) (r5:List Int)=>cN l n (i64.wrap ((k:Int)+1)) r5)) (xs:=[aV l[k].aC,enK l[k].Key,enR l[k].aA,aV l[k].Field]) (f:=aAU) (c:=86) (B:=20000) (E:=fun q'=>cN l n (i64.wrap ((k:Int)+1)) q') (fun x hx=>aAZ (hp x hx) (by omega)) (fun n' k' hk' q' hq' => ?_) (fun n' q' _ => ?_) fuel 0 (q++uv l[k].Kind.toNat) (by unfold fuel;simp) (by simp) (by simp only [qE,qJ,qK];omega)
   ·refine Eq.trans hin ?_
    rw [bR (by omega)]
    congr 1
    simp only [List.drop_zero,aCI,enO,qV,qR]
   ·have hx:=hp _ (qG hk')
    simp only [dF]
    rw [if_pos (by simp only [qJ,qK] at hk';rw [qL];omega),aF hk',qA,zE (by omega) (by omega),qA,bR (n:=k') (by simp only [qJ,qK] at hk';omega)]
   ·simp only [dF]
    rw [if_neg (by simp)]
  ·simp only [cN]
   rw [if_neg (by rw [aJ];simp)]
theorem aHf (l:List M.Op):okB (aC6 l):=by
 unfold aC6
 split
 ·rename_i h
  rw [qM,qL,qP] at h
  have h1:=aGl (f:=enO) (fun o hx=>aGq (h.1 o hx))
  have h9:=aAd (n:=l.length) (by omega)
  refine ⟨?_,fun y hy => ?_⟩
  ·rw [qE]
   exact Nat.le_trans (m:=2000) (by omega) (by unfold maxLen;omega)
  ·rcases List.mem_append.1 hy with hy | hy
   ·exact aCs _ y hy
   ·refine aE1 (fun o _ z hz => ?_) y hy
    unfold enO at hz
    simp only [qO] at hz
    rcases hz with hz | hz | hz | hz | hz
    ·exact aCs _ z hz
    ·exact aBd (yH _) z hz
    ·exact aBd (aJI _).2 z hz
    ·exact aBd (aKr _).2 z hz
    ·exact aBd (yH _) z hz
 ·exact ⟨by simp,fun _ h=>absurd h (by simp)⟩
def gS9 (b:List Int) (p c1:Int):=nRb b (nUv b p).2.1 c1
def gK9 (b:List Int) (p c1 c2:Int):=nRb b (gS9 b p c1).2.1 c2
def gR9 (b:List Int) (p c1 c2 c3:Int):=nRb b (gK9 b p c1 c2).2.1 c3
def gF9 (b:List Int) (p c1 c2 c3 c4:Int):=nRb b (gR9 b p c1 c2 c3).2.1 c4
def op9 (b:List Int) (p c1 c2 c3 c4:Int):Option (M.Op×Int):=if (nUv b p).2.2=true then (if (gS9 b p c1).2.2=true then (if (gK9 b p c1 c2).2.2=true then (if (gR9 b p c1 c2 c3).2.2=true then (if (gF9 b p c1 c2 c3 c4).2.2=true then some ((⟨(nUv b p).1,aN (gS9 b p c1).1,(aFR (gK9 b p c1 c2).1).1,(aEp (gR9 b p c1 c2 c3).1).1,aN (gF9 b p c1 c2 c3 c4).1⟩:M.Op),(gF9 b p c1 c2 c3 c4).2.1) else none) else none) else none) else none) else none
def zQ (b:List Int) (c1 c2 c3 c4:Int):Nat→Int→List M.Op→Option (List M.Op)
 | 0,_,acc=>some acc
 | j+1,p,acc=>match op9 b p c1 c2 c3 c4 with
  | none=>none
  | some (o,q)=>zQ b c1 c2 c3 c4 j q (acc++[o])
def aLT (b:List Int) (o:Option (List M.Op)):List M.Op×Bool:=match o with
 | none=>(([]:List M.Op),false)
 | some l=>if eqL sX (aC6 l) b=true then (l,true) else (([]:List M.Op),false)
def aEw (b:List Int) (c1 c2 c3 c4:Int):List M.Op×Bool:=if (nUv b 0).2.2=true then (if (nUv b 0).1>6 then (([]:List M.Op),false) else aLT b (zQ b c1 c2 c3 c4 (nUv b 0).1.toNat (nUv b 0).2.1 [])) else (([]:List M.Op),false)
theorem aLU {b:List Int} {p:Int} (hb:okB b) (hl:b.length≤1048576):inI (nUv b p).2.1:=by
 cases h:(nUv b p).2.2 with
 | false=>rw [aL1 h];exact aJg
 | true =>
  obtain ⟨a,m,e,u1,u2,u3,u4,_⟩:=uT hb h
  rw [u1]
  exact aCL u4 hl
theorem aEh {b:List Int} {p c:Int} (hb:okB b) (hl:b.length≤1048576):inI (nRb b p c).2.1:=by
 cases h:(nRb b p c).2.2 with
 | false=>rw [aL5 h];exact aJg
 | true =>
  obtain ⟨s,a,e,r1,r2,r3,r4,_⟩:=aAe hb h
  rw [r1]
  exact aCL r4 hl
theorem sG {b:List Int} {p c:Int} (hb:okB b) (hl:b.length≤1048576) (h:(nRb b p c).2.2=true):okB (nRb b p c).1∧(nRb b p c).1.length≤b.length:=by
 obtain ⟨s,a,e,r1,r2,r3,r4,r5,r6,r7,r8⟩:=aAe hb h
 rw [r1]
 exact ⟨r8,by dsimp only;omega⟩
theorem aKw {c n:Int} {t:List Int} (h:M.Key.ok (⟨c,n,aN t⟩:M.Key)):(mkK c n t).1.ok:=by
 unfold mkK
 split
 ·exact h
 ·exact ⟨aJg,aJg,sz0⟩
theorem aKS {b:List Int} (hb:okB b):(aFR b).1.ok:=by
 have z:aGb.ok:=⟨aJg,aJg,sz0⟩
 unfold aFR
 split
 ·exact z
 ·rename_i c t
  have hc:=hb.2 c (by simp)
  have ht : ∀x∈t,0≤x∧x≤255:=fun x hx=>hb.2 x (by simp [hx])
  have hlt:t.length≤maxLen:=by have:=hb.1;rw [qJ] at this;omega
  split
  ·rename_i h2
   exact aKw (aDw hc (by omega) hlt)
  ·split
   ·exact z
   ·obtain ⟨w,e,hw⟩:=aM7 (t:=t.take 6) (fun x hx=>ht x (List.mem_of_mem_take hx)) 0 0 (by decide)
    have h6:0+8*(List.take 6 t).length≤48:=by rw [qS];omega
    have h7:(2:Int)^(0+8*(List.take 6 t).length)≤2^48:=by
     have:=Nat.pow_le_pow_right (n:=2) (by decide) h6
     exact_mod_cast this
    have e':(List.take 6 t).foldl aHn 0=(w:Int):=e
    rw [e']
    refine aKw (aDw hc (by omega) (Nat.le_trans (by rw [qT];omega) hlt))
theorem aJC {b:List Int} {p c1 c2 c3 c4 q:Int} {o:M.Op} (hb:okB b) (hl:b.length≤1048576) (h:op9 b p c1 c2 c3 c4=some (o,q)):aCf o∧inI q:=by
 unfold op9 at h
 split at h
 ·rename_i h1
  split at h
  ·rename_i h2
   split at h
   ·rename_i h3
    split at h
    ·rename_i h4
     split at h
     ·rename_i h5
      simp only [qZ,qY] at h
      obtain ⟨a,m,e,u1,u2,u3,_⟩:=uT hb h1
      have p2:=sG hb hl h2
      have p3:=sG hb hl h3
      have p4:=sG hb hl h4
      have p5:=sG hb hl h5
      rw [←h.1,←h.2]
      refine ⟨⟨?_,?_,aKS p3.1,(aJ5 p4.1).1,?_⟩,aEh hb hl⟩
      ·show inI (nUv b p).1
       rw [u1];unfold inI;dsimp only;omega
      ·show (aN _).size≤_
       rw [yI];exact p2.1.1
      ·show (aN _).size≤_
       rw [yI];exact p5.1.1
     ·cases h
    ·cases h
   ·cases h
  ·cases h
 ·cases h
theorem aE4 {b:List Int} {p:Int} (hb:okB b) (hl:b.length≤1048576) (hp:inI p):vM b p=some (match op9 b p 100 100 200 100 with
  | none=>((⟨0,(⟨#[]⟩:ByteArray),(⟨0,0,(⟨#[]⟩:ByteArray)⟩:M.Key),(⟨([]:List M.Field)⟩:M.aA),(⟨#[]⟩:ByteArray)⟩:M.Op),0,false)
  | some (o,q)=>(o,q,true)):=by
 unfold vM op9
 rw [iK hb hl hp,qA,jY hb hl (aLU hb hl),qA]
 show (cE b (gS9 b p 100).2.1 100).bind _=_
 rw [jY hb hl (show inI (gS9 b p 100).2.1 from aEh hb hl),qA]
 show (cE b (gK9 b p 100 100).2.1 200).bind _=_
 rw [jY hb hl (show inI (gK9 b p 100 100).2.1 from aEh hb hl),qA]
 show (cE b (gR9 b p 100 100 200).2.1 100).bind _=_
 rw [jY hb hl (show inI (gR9 b p 100 100 200).2.1 from aEh hb hl),qA]
 change (if (!(nUv b p).2.2)=true then _ else if (!(gS9 b p 100).2.2)=true then _ else if (!(gK9 b p 100 100).2.2)=true then _ else if (!(gR9 b p 100 100 200).2.2)=true then _ else if (!(gF9 b p 100 100 200 100).2.2)=true then _ else (toStr (gS9 b p 100).1).bind fun x44=>((toStr (gF9 b p 100 100 200 100).1).bind fun x46=>((kA (gK9 b p 100 100).1).bind fun x48=>((gS (gR9 b p 100 100 200).1).bind fun x50=>some ((⟨(nUv b p).1,aN (gS9 b p 100).1,x48.1,x50.1,aN (gF9 b p 100 100 200 100).1⟩:M.Op),(gF9 b p 100 100 200 100).2.1,true)))))=_
 cases h1:(nUv b p).2.2 with
 | false=>rfl
 | true =>
  cases h2:(gS9 b p 100).2.2 with
  | false=>rfl
  | true =>
   cases h3:(gK9 b p 100 100).2.2 with
   | false=>rfl
   | true =>
    cases h4:(gR9 b p 100 100 200).2.2 with
    | false=>rfl
    | true =>
     cases h5:(gF9 b p 100 100 200 100).2.2 with
     | false=>rfl
     | true =>
      have p2:okB (gS9 b p 100).1∧(gS9 b p 100).1.length≤b.length:=sG hb hl h2
      have p3:okB (gK9 b p 100 100).1∧(gK9 b p 100 100).1.length≤b.length:=sG hb hl h3
      have p4:okB (gR9 b p 100 100 200).1∧(gR9 b p 100 100 200).1.length≤b.length:=sG hb hl h4
      have p5:okB (gF9 b p 100 100 200 100).1∧(gF9 b p 100 100 200 100).1.length≤b.length:=sG hb hl h5
      simp only [qB,qD,if_false,if_true]
      rw [uS p2.1.2,qA,uS p5.1.2,qA,aCe p3.1 (by omega),qA,aBN p4.1 (by omega),qA]
theorem doS {b:List Int} {x1:Int×Int×Bool} {N:Nat} (hb:okB b) (hl:b.length≤1048576) (hN:N≤6) (hx:x1.1=(N:Int)) : ∀(j k m:Nat) (p:Int) (acc:List M.Op),k+j=N→j<m→inI p→acc.length=k→(∀x∈acc,aCf x)→eU b x1 m p (k:Int) acc=some (aLT b (zQ b 100 100 200 100 j p acc))
 | _,_,0,_,_,_,h,_,_,_=>by omega
 | 0,k,m+1,p,acc,hk,_,hp,ha,ho=>by
  simp only [eU,zQ,aLT]
  rw [hx,if_neg (by simp;omega),aCi (by omega) ho,qA,aB1 (aHf _) hb,qA]
  cases eqL sX (aC6 acc) b<;>rfl
 | j+1,k,m+1,p,acc,hk,hm,hp,ha,ho=>by
  simp only [eU,zQ]
  rw [hx,if_pos (by simp;omega),aE4 hb hl hp,qA]
  cases h:op9 b p 100 100 200 100 with
  | none=>rfl
  | some x =>
   obtain ⟨o,q⟩:=x
   obtain ⟨k1,k2⟩:=aJC hb hl h
   simp only [qB,qD,if_false]
   rw [iH (by simp;omega),qA,bR (by omega)]
   refine doS hb hl hN hx j (k+1) m q _ (by omega) (by omega) k2 (by simp [ha]) (fun y hy => ?_)
   rcases List.mem_append.1 hy with hy | hy
   ·exact ho y hy
   ·rw [List.mem_singleton.1 hy];exact k1
theorem aCH {b:List Int} (hb:okB b) (hl:b.length≤1048576):jZ b=some (aEw b 100 100 200 100):=by
 unfold jZ aEw
 rw [iK hb hl aJg,qA]
 cases h:(nUv b 0).2.2 with
 | false=>rfl
 | true =>
  obtain ⟨a,m,e,u1,u2,u3,u4,u5,u6⟩:=uT hb h
  rw [u1]
  simp only [qB,qD,if_false,if_true]
  by_cases h6:(m:Int)>6
  ·rw [if_pos (by simpa using h6),if_pos h6]
  ·rw [if_neg (by simpa using h6),if_neg h6,qH]
   exact doS (x1:=((m:Int),(e:Int),true)) hb hl (N:=m) (by omega) rfl m 0 fuel (e:Int) [] (by omega) (by unfold fuel;omega) (aCL u4 hl) rfl (fun _ h=>absurd h (by simp))
theorem doI {b:List Int} {x1:Int×Int×Bool} {N:Nat} (hb:okB b) (hl:b.length≤1048576) (hN:N≤6) (hx:x1.1=(N:Int)) : ∀(j k m:Nat) (p:Int) (acc:List M.Op),k+j=N→j<m→acc.length=k→(∀x∈acc,aCf x)→dD b x1 m p (k:Int) acc=some (aLT b (zQ b (b.length:Int) (b.length:Int) (b.length:Int) (b.length:Int) j p acc))
 | _,_,0,_,_,_,h,_,_=>by omega
 | 0,k,m+1,p,acc,hk,_,ha,ho=>by
  simp only [dD,zQ,aLT]
  rw [hx,if_neg (by simp;omega),aCd (by omega) ho,qA,sD (aHf _),qA]
  cases eqL sX (aC6 acc) b<;>rfl
 | j+1,k,m+1,p,acc,hk,hm,ha,ho=>by
  have hop : ∀o q,op9 b p (b.length:Int) (b.length:Int) (b.length:Int) (b.length:Int)=some (o,q)→aCf o∧inI q:=fun o q h=>aJC hb hl h
  simp only [dD,zQ]
  rw [hx,if_pos (by simp;omega),hY hb hl,qA]
  unfold op9 at hop ⊢
  cases h1:(nUv b p).2.2 with
  | false=>rfl
  | true =>
   rw [h1] at hop
   simp only [if_true] at hop ⊢
   rw [kJ hb hl,qA]
   change (if (gS9 b p (b.length:Int)).2.2=true then (cD b (gS9 b p (b.length:Int)).2.1 (b.length:Int)).bind _ else _)=_
   cases h2:(gS9 b p (b.length:Int)).2.2 with
   | false=>rfl
   | true =>
    rw [h2] at hop
    simp only [if_true] at hop ⊢
    rw [kJ hb hl,qA]
    change (if (gK9 b p (b.length:Int) (b.length:Int)).2.2=true then (cD b (gK9 b p (b.length:Int) (b.length:Int)).2.1 (b.length:Int)).bind _ else _)=_
    cases h3:(gK9 b p (b.length:Int) (b.length:Int)).2.2 with
    | false=>rfl
    | true =>
     rw [h3] at hop
     simp only [if_true] at hop ⊢
     rw [kJ hb hl,qA]
     change (if (gR9 b p (b.length:Int) (b.length:Int) (b.length:Int)).2.2=true then (cD b (gR9 b p (b.length:Int) (b.length:Int) (b.length:Int)).2.1 (b.length:Int)).bind _ else _)=_
     cases h4:(gR9 b p (b.length:Int) (b.length:Int) (b.length:Int)).2.2 with
     | false=>rfl
     | true =>
      rw [h4] at hop
      simp only [if_true] at hop ⊢
      rw [kJ hb hl,qA]
      change (if (!(gF9 b p (b.length:Int) (b.length:Int) (b.length:Int) (b.length:Int)).2.2)=true then _ else (toStr (gS9 b p (b.length:Int)).1).bind fun x109=>((kL (gK9 b p (b.length:Int) (b.length:Int)).1).bind fun x111=>((gI (gR9 b p (b.length:Int) (b.length:Int) (b.length:Int)).1).bind fun x113=>((toStr (gF9 b p (b.length:Int) (b.length:Int) (b.length:Int) (b.length:Int)).1).bind fun x115=>((app 96 acc ([(⟨(nUv b p).1,aN (gS9 b p (b.length:Int)).1,x111.1,x113.1,aN (gF9 b p (b.length:Int) (b.length:Int) (b.length:Int) (b.length:Int)).1⟩:M.Op)])).bind fun x117=>dD b x1 m (gF9 b p (b.length:Int) (b.length:Int) (b.length:Int) (b.length:Int)).2.1 (i64.wrap ((k:Int)+1)) (acc++[(⟨(nUv b p).1,aN (gS9 b p (b.length:Int)).1,x111.1,x113.1,aN (gF9 b p (b.length:Int) (b.length:Int) (b.length:Int) (b.length:Int)).1⟩:M.Op)]))))))=_
      cases h5:(gF9 b p (b.length:Int) (b.length:Int) (b.length:Int) (b.length:Int)).2.2 with
      | false=>rfl
      | true =>
       rw [h5] at hop
       simp only [if_true] at hop ⊢
       have p2:okB (gS9 b p (b.length:Int)).1∧(gS9 b p (b.length:Int)).1.length≤b.length:=sG hb hl h2
       have p3:okB (gK9 b p (b.length:Int) (b.length:Int)).1∧(gK9 b p (b.length:Int) (b.length:Int)).1.length≤b.length:=sG hb hl h3
       have p4:okB (gR9 b p (b.length:Int) (b.length:Int) (b.length:Int)).1∧(gR9 b p (b.length:Int) (b.length:Int) (b.length:Int)).1.length≤b.length:=sG hb hl h4
       have p5:okB (gF9 b p (b.length:Int) (b.length:Int) (b.length:Int) (b.length:Int)).1∧(gF9 b p (b.length:Int) (b.length:Int) (b.length:Int) (b.length:Int)).1.length≤b.length:=sG hb hl h5
       obtain ⟨k1,k2⟩:=hop _ _ rfl
       simp only [qB,qD,if_false]
       rw [uS p2.1.2,qA,aCc p3.1 (by omega),qA,aBF p4.1 (by omega),qA,uS p5.1.2,qA,iH (by simp;omega),qA,bR (by omega)]
       refine doI hb hl hN hx j (k+1) m _ _ (by omega) (by omega) (by simp [ha]) (fun y hy => ?_)
       rcases List.mem_append.1 hy with hy | hy
       ·exact ho y hy
       ·rw [List.mem_singleton.1 hy];exact k1
theorem aCD {b:List Int} (hb:okB b) (hl:b.length≤1048576):kF b=some (aEw b (b.length:Int) (b.length:Int) (b.length:Int) (b.length:Int)):=by
 unfold kF aEw
 rw [hY hb hl,qA]
 cases h:(nUv b 0).2.2 with
 | false=>rfl
 | true =>
  obtain ⟨a,m,e,u1,u2,u3,u4,u5,u6⟩:=uT hb h
  rw [u1]
  simp only [qB,qD,if_false,if_true]
  by_cases h6:(m:Int)>6
  ·rw [if_pos (by simpa using h6),if_pos h6]
  ·rw [if_neg (by simpa using h6),if_neg h6,qH]
   exact doI (x1:=((m:Int),(e:Int),true)) hb hl (N:=m) (by omega) rfl m 0 fuel (e:Int) [] (by omega) (by unfold fuel;omega) rfl (fun _ h=>absurd h (by simp))
theorem aE8 {b x y:List Int} {a:Nat} (h:b.drop a=x++y):b.drop (a+x.length)=y:=by
 rw [←List.drop_drop,h,List.drop_left]
theorem aCr {b s r:List Int} {a:Nat} {c:Int} (h:b.drop a=aAU s++r) (hc:(s.length:Int)≤c) (hs:s.length≤1000000000000):nRb b (a:Int) c=(s,((a+(aAU s).length:Nat):Int),true)∧b.drop (a+(aAU s).length)=r:=by
 refine ⟨?_,aE8 h⟩
 unfold aAU at h ⊢
 rw [qR] at h
 rw [aIq h hc hs,qE,Nat.add_assoc]
theorem aKV {b r:List Int} {a m:Nat} (h:b.drop a=uv m++r) (hm:m≤1000000000000):nUv b (a:Int)=((m:Int),((a+(uv m).length:Nat):Int),true)∧b.drop (a+(uv m).length)=r:=⟨aGR h hm,aE8 h⟩
theorem aIh {b r:List Int} {a:Nat} {o:M.Op} {c1 c2 c3 c4:Int} (h:b.drop a=enO o++r) (ho:nOp o=true) (h1:(o.aC.size:Int)≤c1) (h2:((enK o.Key).length:Int)≤c2) (h3:((enR o.aA).length:Int)≤c3) (h4:(o.Field.size:Int)≤c4):op9 b (a:Int) c1 c2 c3 c4=some ((⟨o.Kind,aN (aV o.aC),(aFR (enK o.Key)).1,(aEp (enR o.aA)).1,aN (aV o.Field)⟩:M.Op),((a+(enO o).length:Nat):Int))∧b.drop (a+(enO o).length)=r:=by
 obtain ⟨s1,s2,s3,s4,_⟩:=rA ho
 have k2:=aR o.aC
 have k5:=aR o.Field
 have k3:=aBM o.Key
 have k4:=aBK o.aA
 refine ⟨?_,aE8 h⟩
 have hh:=h
 unfold enO at hh
 simp only [qR] at hh
 obtain ⟨e1,d1⟩:=aKV hh (by omega)
 obtain ⟨e2,d2⟩:=aCr (c:=c1) d1 (by omega) (by omega)
 obtain ⟨e3,d3⟩:=aCr (c:=c2) d2 h2 (by omega)
 obtain ⟨e4,d4⟩:=aCr (c:=c3) d3 h3 (by omega)
 obtain ⟨e5,d5⟩:=aCr (c:=c4) d4 (by omega) (by omega)
 have f2:gS9 b (a:Int) c1=(aV o.aC,((a+(uv o.Kind.toNat).length+(aAU (aV o.aC)).length:Nat):Int),true):=by unfold gS9;rw [e1];exact e2
 have f3:gK9 b (a:Int) c1 c2=(enK o.Key,((a+(uv o.Kind.toNat).length+(aAU (aV o.aC)).length+(aAU (enK o.Key)).length:Nat):Int),true):=by unfold gK9;rw [f2];exact e3
 have f4:gR9 b (a:Int) c1 c2 c3=(enR o.aA,((a+(uv o.Kind.toNat).length+(aAU (aV o.aC)).length+(aAU (enK o.Key)).length+(aAU (enR o.aA)).length:Nat):Int),true):=by unfold gR9;rw [f3];exact e4
 have f5:gF9 b (a:Int) c1 c2 c3 c4=(aV o.Field,((a+(uv o.Kind.toNat).length+(aAU (aV o.aC)).length+(aAU (enK o.Key)).length+(aAU (enR o.aA)).length+(aAU (aV o.Field)).length:Nat):Int),true):=by unfold gF9;rw [f4];exact e5
 unfold op9
 rw [e1,f2,f3,f4,f5]
 simp only [if_true]
 rw [Int.toNat_of_nonneg (by omega)]
 congr 3
 unfold enO
 simp only [qE]
 omega
theorem aJo {b:List Int} {p:Int} {x:M.Op×Int} (hb:okB b) (hl:b.length≤1048576) (h:op9 b p 100 100 200 100=some x):op9 b p (b.length:Int) (b.length:Int) (b.length:Int) (b.length:Int)=some x:=by
 have mono : ∀ {p c:Int},(nRb b p c).2.2=true→nRb b p (b.length:Int)=nRb b p c:=fun {p c} h=>by
  have hp:=sG hb hl h
  exact aJ3 hb (show nRb b p c=((nRb b p c).1,(nRb b p c).2.1,true) from by rw [←h]) (by omega) |>.trans (by rw [←h])
 unfold op9 at h ⊢
 split at h
 ·rename_i h1
  split at h
  ·rename_i h2
   split at h
   ·rename_i h3
    split at h
    ·rename_i h4
     split at h
     ·rename_i h5
      have f2:gS9 b p (b.length:Int)=gS9 b p 100:=mono h2
      have f3:gK9 b p (b.length:Int) (b.length:Int)=gK9 b p 100 100:=by unfold gK9;rw [f2];exact mono h3
      have f4:gR9 b p (b.length:Int) (b.length:Int) (b.length:Int)=gR9 b p 100 100 200:=by unfold gR9;rw [f3];exact mono h4
      have f5:gF9 b p (b.length:Int) (b.length:Int) (b.length:Int) (b.length:Int)=gF9 b p 100 100 200 100:=by unfold gF9;rw [f4];exact mono h5
      rw [f2,f3,f4,f5,if_pos h1,if_pos h2,if_pos h3,if_pos h4,if_pos h5]
      exact h
     ·cases h
    ·cases h
   ·cases h
  ·cases h
 ·cases h
theorem aEF {b:List Int} (hb:okB b) (hl:b.length≤1048576) : ∀(j:Nat) (p:Int) (acc l:List M.Op),zQ b 100 100 200 100 j p acc=some l→zQ b (b.length:Int) (b.length:Int) (b.length:Int) (b.length:Int) j p acc=some l
 | 0,_,_,_,h=>h
 | j+1,p,acc,l,h=>by
  simp only [zQ] at h ⊢
  cases e:op9 b p 100 100 200 100 with
  | none=>rw [e] at h;cases h
  | some x =>
   rw [aJo hb hl e]
   rw [e] at h
   exact aEF hb hl j _ _ l h
theorem aFU {b:List Int} {c1 c2 c3 c4 d1 d2 d3 d4:Int} : ∀(rest:List M.Op) (a:Nat) (acc:List M.Op) (t:List Int),b.drop a=aCI enO rest++t→(∀o∈rest,nOp o=true∧(o.aC.size:Int)≤c1∧((enK o.Key).length:Int)≤c2∧((enR o.aA).length:Int)≤c3∧(o.Field.size:Int)≤c4∧(o.aC.size:Int)≤d1∧((enK o.Key).length:Int)≤d2∧((enR o.aA).length:Int)≤d3∧(o.Field.size:Int)≤d4)→zQ b c1 c2 c3 c4 rest.length (a:Int) acc=zQ b d1 d2 d3 d4 rest.length (a:Int) acc
 | [],_,_,_,_,_=>rfl
 | o::rest,a,acc,t,h,hs=>by
  obtain ⟨g0,g1,g2,g3,g4,g5,g6,g7,g8⟩:=hs o (by simp)
  rw [aCI,qR] at h
  obtain ⟨e1,dr⟩:=aIh h g0 g1 g2 g3 g4
  obtain ⟨e2,_⟩:=aIh h g0 g5 g6 g7 g8
  simp only [qJ,zQ]
  rw [e1,e2]
  exact aFU rest _ _ t dr (fun x hx=>hs x (by simp [hx]))
theorem aG6 {l:List M.Op} {b:List Int} (h:aC6 l=b) (hb:b≠[]):b=uv l.length++aCI enO l∧(∀o∈l,nOp o=true)∧l.length≤6:=by
 unfold aC6 at h
 split at h
 ·rename_i h1
  rw [qM,qL,qP] at h1
  exact ⟨h.symm,h1.1,h1.2⟩
 ·exact absurd h.symm hb
theorem aLd {b:List Int} {l:List M.Op} (h:b=uv l.length++aCI enO l) : ∀o∈l,o.aC.size≤b.length∧(enK o.Key).length≤b.length∧(enR o.aA).length≤b.length∧o.Field.size≤b.length:=by
 have h1:(aCI enO l).length≤b.length:=by rw [h,qE];omega
 have key : ∀(l:List M.Op) (o:M.Op),o∈l→(enO o).length≤(aCI enO l).length:=by
  intro l
  induction l with
  | nil=>intro o ho;cases ho
  | cons x xs ih =>
   intro o ho
   rw [aCI,qE]
   rcases List.mem_cons.1 ho with rfl | ho
   ·omega
   ·have:=ih o ho;omega
 intro o ho
 have h2:=Nat.le_trans (key l o ho) h1
 have k2:=aR o.aC
 have k5:=aR o.Field
 unfold enO aAU at h2
 simp only [qE] at h2
 omega
theorem aKC {b:List Int} (hb:okB b) (hl:b.length≤1048576):aEw b (b.length:Int) (b.length:Int) (b.length:Int) (b.length:Int)=aEw b 100 100 200 100:=by
 unfold aEw
 cases h:(nUv b 0).2.2 with
 | false=>simp only [qD,if_false]
 | true =>
  obtain ⟨a,m,e,u1,u2,u3,u4,u5,u6⟩:=uT hb h
  obtain rfl:a=0:=by omega
  rw [List.drop_zero] at u6
  have hne:b≠[]:=fun h0=>by
   have:=congrArg List.length u6
   have h2:=aBB m
   rw [h0] at this
   simp at this
   omega
  rw [u1]
  dsimp only
  by_cases h6:(m:Int)>6
  ·rw [if_pos h6,if_pos h6]
  ·rw [if_neg h6,if_neg h6,qH,if_pos rfl,if_pos rfl]
   cases hS:zQ b 100 100 200 100 m (e:Int) [] with
   | some l=>rw [aEF hb hl m _ _ l hS]
   | none =>
    cases hL:zQ b (b.length:Int) (b.length:Int) (b.length:Int) (b.length:Int) m (e:Int) [] with
    | none=>rfl
    | some l =>
     simp only [aLT]
     rw [if_neg]
     rw [aAL]
     intro he
     obtain ⟨b1,b2,b3⟩:=aG6 he hne
     have pl:=aLd b1
     have hu:=aGR (b:=b) (a:=0) (by rw [List.drop_zero];exact b1) (show l.length≤1000000000000 by omega)
     rw [show ((0:Nat):Int)=0 from rfl,u1] at hu
     simp only [qY,Nat.zero_add] at hu
     obtain rfl:m=l.length:=by omega
     have he2:e=(uv l.length).length:=by omega
     have hd:b.drop e=aCI enO l++[]:=by
      rw [qV,he2]
      conv=>lhs;rw [b1]
      exact List.drop_left
     have:=aFU (c1:=100) (c2:=100) (c3:=200) (c4:=100) (d1:=(b.length:Int)) (d2:=(b.length:Int)) (d3:=(b.length:Int)) (d4:=(b.length:Int)) l e [] [] hd (fun o ho=>by
      have q1:=rA (b2 o ho)
      have q2:=aBM o.Key
      have q3:=aBK o.aA
      have q4:=pl o ho
      exact ⟨b2 o ho,by omega,by omega,by omega,by omega,by omega,by omega,by omega,by omega⟩)
     rw [hS,hL] at this
     cases this
def yT (b:List Int):List M.Op×Bool:=aEw b 100 100 200 100
theorem aCk {b:List Int} (hb:okB b) (hl:b.length≤1048576):jZ b=some (yT b):=aCH hb hl
theorem aCa {b:List Int} (hb:okB b) (hl:b.length≤1048576):kF b=some (yT b):=by
 rw [aCD hb hl,aKC hb hl];rfl
theorem aHZ {b:List Int} {c1 c2 c3 c4:Int} (hb:okB b) (hl:b.length≤1048576) : ∀(j:Nat) (p:Int) (acc l:List M.Op),zQ b c1 c2 c3 c4 j p acc=some l→(∀x∈acc,aCf x)→(∀x∈l,aCf x)
 | 0,_,_,_,h,ho=>by
  simp only [zQ,qZ] at h
  rw [←h];exact ho
 | j+1,p,acc,l,h,ho=>by
  simp only [zQ] at h
  cases e:op9 b p c1 c2 c3 c4 with
  | none=>rw [e] at h;cases h
  | some x =>
   obtain ⟨o,q⟩:=x
   rw [e] at h
   refine aHZ hb hl j q _ l h (fun y hy => ?_)
   rcases List.mem_append.1 hy with hy | hy
   ·exact ho y hy
   ·rw [List.mem_singleton.1 hy];exact (aJC hb hl e).1
theorem aCG {b:List Int} (hb:okB b) (hl:b.length≤1048576):(yT b).1.length≤6 ∧ ∀o∈(yT b).1,aCf o∧nOp o=true:=by
 have z:([]:List M.Op).length≤6 ∧ ∀o∈([]:List M.Op),aCf o∧nOp o=true:=⟨by simp,fun _ h=>absurd h (by simp)⟩
 unfold yT aEw
 split
 ·rename_i h
  obtain ⟨a,m,e,u1,u2,u3,u4,u5,u6⟩:=uT hb h
  obtain rfl:a=0:=by omega
  rw [List.drop_zero] at u6
  have hne:b≠[]:=fun h0=>by
   have:=congrArg List.length u6
   have h2:=aBB m
   rw [h0] at this
   simp at this
   omega
  rw [u1]
  dsimp only
  split
  ·exact z
  ·cases hr:zQ b 100 100 200 100 (m:Int).toNat (e:Int) [] with
   | none=>exact z
   | some l =>
    simp only [aLT]
    split
    ·rename_i he
     rw [aAL] at he
     obtain ⟨b1,b2,b3⟩:=aG6 he hne
     exact ⟨b3,fun o ho=>⟨aHZ hb hl _ _ _ l hr (fun _ h=>absurd h (by simp)) o ho,b2 o ho⟩⟩
    ·exact z
 ·exact z
theorem aDS {i:Int} {l:List Int} (hl:l.length≤1048576):pP i l=some (aGj ([101,i]++([(List.length l:Int)]++l.map i64.wrap))):=by
 unfold pP
 rw [aBe hl,qA,iH (by simp;omega),qA,aGe (by simp [maxLen];omega),qA]
theorem aDM {i:Int} {l:List Int} (hl:l.length≤1048576):rT i l=some (aGj ([101,i]++([(List.length l:Int)]++l.map i64.wrap))):=by
 unfold rT
 rw [aBh hl,qA,iH (by simp;omega),qA,aGU (by simp [maxLen];omega),qA]
def aNW (i:Int) (l:List Int):Int:=aGj ([101,i]++([(List.length l:Int)]++l.map i64.wrap))
def aDn (b:List Int):Nat→Int→List (List Int)→List (List Int)×Int
 | 0,p,acc=>(acc,p)
 | j+1,p,acc=>if (nRb b p 4000).2.2=true then (if (nUv b (nRb b p 4000).2.1).2.2=true then (if ((nUv b (nRb b p 4000).2.1).1 != aNW (acc.length:Int) (nRb b p 4000).1)=true then (acc,p) else aDn b j (nUv b (nRb b p 4000).2.1).2.1 (acc++[(nRb b p 4000).1])) else (acc,p)) else (acc,p)
def aKc (b:List Int):List (List Int)×Int:=aDn b (b.length+1) 0 []
theorem aLO {b:List Int}:nUv b (b.length:Int)=(0,0,false):=by
 unfold nUv
 rw [if_neg (by omega),qH]
 unfold aFt
 rw [qW (by omega)]
theorem aIU {b:List Int} (hb:okB b) (hl:b.length≤1048576) : ∀(j m a:Nat) (acc:List (List Int)),b.length-a<j→j≤m→a≤b.length→acc.length≤a→jK b m (a:Int) acc=some (aDn b j (a:Int) acc)
 | 0,_,_,_,h,_,_,_=>by omega
 | _+1,0,_,_,_,h,_,_=>by omega
 | j+1,m+1,a,acc,hj,hm,ha,hc=>by
  simp only [jK,aDn]
  by_cases hlt:a<b.length
  case neg =>
   obtain rfl:a=b.length:=by omega
   rw [if_neg (by simp)]
   have:(nRb b (b.length:Int) 4000).2.2=false:=by unfold nRb;rw [aLO];rfl
   rw [this]
   rfl
  rw [if_pos (by simp;omega),jY hb hl (aCL ha hl),qA]
  cases h1:(nRb b (a:Int) 4000).2.2 with
  | false=>rfl
  | true =>
   obtain ⟨s,a1,e1,r1,r2,r3,r4,r5,r6,r7,r8⟩:=aAe hb h1
   obtain rfl:a=a1:=by omega
   rw [r1]
   simp only [qB,qD,if_false,if_true]
   rw [iK hb hl (aCL r4 hl),qA]
   cases h2:(nUv b (e1:Int)).2.2 with
   | false=>rfl
   | true =>
    obtain ⟨a2,v,e2,u1,u2,u3,u4,u5,u6⟩:=uT hb h2
    obtain rfl:e1=a2:=by omega
    have g1:=aBB s.length
    have g2:=aBB v
    rw [u1]
    simp only [qB,qD,if_false,if_true]
    rw [aDS (by omega),qA]
    show (if ((v:Int) != aNW (acc.length:Int) s)=true then _ else _)=_
    split
    ·rfl
    ·rw [iH (by simp;omega),qA]
     exact aIU hb hl j m e2 _ (by omega) (by omega) u4 (by simp;omega)
theorem aDh {b:List Int} (hb:okB b) (hl:b.length≤1048576):tE b=some (aKc b):=by
 unfold tE aKc
 exact aIU hb hl (b.length+1) fuel 0 [] (by omega) (by unfold fuel;omega) (by omega) (by simp)
theorem aIr {b:List Int} (hb:okB b) (hl:b.length≤1048576) : ∀(j m a:Nat) (acc:List (List Int)),b.length-a<j→j≤m→a≤b.length→acc.length≤a→jE b m (a:Int) acc=some (aDn b j (a:Int) acc)
 | 0,_,_,_,h,_,_,_=>by omega
 | _+1,0,_,_,_,h,_,_=>by omega
 | j+1,m+1,a,acc,hj,hm,ha,hc=>by
  simp only [jE,aDn]
  rw [kJ hb hl,qA]
  cases h1:(nRb b (a:Int) 4000).2.2 with
  | false=>rfl
  | true =>
   obtain ⟨s,a1,e1,r1,r2,r3,r4,r5,r6,r7,r8⟩:=aAe hb h1
   obtain rfl:a=a1:=by omega
   rw [r1]
   simp only [qB,qD,if_false,if_true]
   rw [hY hb hl,qA]
   cases h2:(nUv b (e1:Int)).2.2 with
   | false=>rfl
   | true =>
    obtain ⟨a2,v,e2,u1,u2,u3,u4,u5,u6⟩:=uT hb h2
    obtain rfl:e1=a2:=by omega
    have g1:=aBB s.length
    have g2:=aBB v
    rw [u1]
    simp only [qB,qD,if_false,if_true]
    rw [aDM (by omega),qA]
    show (if ((v:Int) != aNW (acc.length:Int) s)=true then _ else _)=_
    split
    ·rfl
    ·rw [iH (by simp;omega),qA]
     exact aIr hb hl j m e2 _ (by omega) (by omega) u4 (by simp;omega)
theorem aDj {b:List Int} (hb:okB b) (hl:b.length≤1048576):tZ b=some (aKc b):=by
 unfold tZ aKc
 exact aIr hb hl (b.length+1) fuel 0 [] (by omega) (by unfold fuel;omega) (by omega) (by simp)
theorem aHo {b:List Int} (hb:okB b) : ∀(j a:Nat) (acc:List (List Int)),a≤b.length→acc.length≤a→(∀l∈acc,okB l∧l.length≤4000)→(aDn b j (a:Int) acc).1.length≤b.length ∧ ∀l∈(aDn b j (a:Int) acc).1,okB l∧l.length≤4000
 | 0,a,acc,ha,hc,h=>⟨by simp only [aDn];omega,h⟩
 | j+1,a,acc,ha,hc,h=>by
  simp only [aDn]
  split
  ·rename_i h1
   obtain ⟨s,a1,e1,r1,r2,r3,r4,r5,r6,r7,r8⟩:=aAe hb h1
   obtain rfl:a=a1:=by omega
   rw [r1]
   dsimp only
   split
   ·rename_i h2
    obtain ⟨a2,v,e2,u1,u2,u3,u4,u5,u6⟩:=uT hb h2
    obtain rfl:e1=a2:=by omega
    have g1:=aBB s.length
    rw [u1]
    dsimp only
    split
    ·exact ⟨by dsimp only;omega,h⟩
    ·refine aHo hb j e2 _ u4 (by simp;omega) (fun l hl => ?_)
     rcases List.mem_append.1 hl with hl | hl
     ·exact h l hl
     ·rw [List.mem_singleton.1 hl];exact ⟨r8,by omega⟩
   ·exact ⟨by dsimp only;omega,h⟩
  ·exact ⟨by dsimp only;omega,h⟩
theorem aGh {b:List Int} (hb:okB b):(aKc b).1.length≤b.length ∧ ∀l∈(aKc b).1,okB l∧l.length≤4000:=aHo hb (b.length+1) 0 [] (by omega) (by simp) (fun _ h=>absurd h (by simp))
end Go.Proofs.YtidhkhdnjonjfaaGreat.gen
