/-
  Helper text. No conditions.
-/
import Derived.Test.YtidhkhdnjonjfaaGreatReadNotePq3
set_option linter.unusedVariables false
set_option linter.unusedSimpArgs false
namespace Go.Proofs.YtidhkhdnjonjfaaGreat.gen
open Go Go.Sh
open Go.IntKind (i64)
theorem aDy {α:Type} {f:α→Nat} (q:α→Bool) : ∀(l:List α),eA f (l.filter q)≤eA f l
 | []=>Nat.le_refl _
 | x::l=>by
  have h:=aDy (f:=f) q l
  rw [List.filter_cons]
  split
  ·simp only [eA];omega
  ·simp only [eA];omega
theorem aKO {x y:M.Key} (hx:wS x=true) (hy:wS y=true):decide (aY y x≤0) = !decide (aY x y<0):=by
 have ht:=sR x.Text.toList y.Text.toList
 have ht2:=sR y.Text.toList x.Text.toList
 unfold aY
 rw [if_pos (show wS y=true∧wS x=true from ⟨hy,hx⟩),if_pos (show wS x=true∧wS y=true from ⟨hx,hy⟩)]
 by_cases hk:x.Kind=y.Kind
 ·rw [if_pos hk.symm,if_pos hk]
  by_cases hn:x.N=y.N
  ·rw [if_pos hn.symm,if_pos hn]
   rw [show (y.Text.toList==x.Text.toList)=(x.Text.toList==y.Text.toList) from Bool.beq_comm] at *
   generalize Op.bytesLess x.Text.toList y.Text.toList=a at *
   generalize Op.bytesLess y.Text.toList x.Text.toList=b at *
   generalize (x.Text.toList==y.Text.toList)=c at *
   revert ht ht2
   cases a<;>cases b<;>cases c<;>decide
  ·rw [if_neg (fun e=>hn (Eq.symm e)),if_neg hn]
   by_cases hlt:x.N<y.N
   ·rw [if_neg (show ¬y.N<x.N by omega),if_pos hlt];decide
   ·rw [if_pos (show y.N<x.N by omega),if_neg hlt];decide
 ·rw [if_neg (fun e=>hk (Eq.symm e)),if_neg hk]
  by_cases hlt:x.Kind<y.Kind
  ·rw [if_neg (show ¬y.Kind<x.Kind by omega),if_pos hlt];decide
  ·rw [if_pos (show y.Kind<x.Kind by omega),if_neg hlt];decide
def jT (k:M.Key) (g:M.bU):Bool:=wS k&&((!g.HasLow||wS g.Low)&&((!g.HasHigh||wS g.High)&&((!g.HasLow||decide (aY g.Low k≤0))&&(!g.HasHigh||decide (aY k g.High≤0)))))
theorem aCb {k:M.Key} {g:M.bU} (hk:k.ok) (hl:g.Low.ok) (hh:g.High.ok):oA k g=some (jT k g):=by
 unfold oA jT
 simp only [gZ hk,gZ hl,gZ hh,lF hl hk,lF hk hh,qA]
 generalize decide (aY g.Low k≤0)=a1
 generalize decide (aY k g.High≤0)=a2
 generalize g.HasLow=a3
 generalize g.HasHigh=a4
 generalize wS k=a5
 generalize wS g.Low=a6
 generalize wS g.High=a7
 cases a1<;>cases a2<;>cases a3<;>cases a4<;>cases a5<;>cases a6<;>cases a7<;>rfl
theorem aCZ {k:M.Key} {g:M.bU} (hk:k.ok) (hl:g.Low.ok) (hh:g.High.ok):nJ k g=some (jT k g):=by
 have h2:(!(decide (aY k g.High>0)))=decide (aY k g.High≤0):=by
  rw [←decide_not,decide_eq_decide];omega
 have h1:wS k=true→wS g.Low=true→(!(decide (aY k g.Low<0)))=decide (aY g.Low k≤0):=fun a b=>(aKO a b).symm
 unfold nJ jT
 simp only [kM hk,kM hl,kM hh,lD hk hl,lD hk hh,qA,h2]
 generalize (!(decide (aY k g.Low<0)))=a0 at *
 generalize decide (aY g.Low k≤0)=a1 at *
 generalize decide (aY k g.High≤0)=a2
 generalize g.HasLow=a3
 generalize g.HasHigh=a4
 generalize wS k=a5 at *
 generalize wS g.Low=a6 at *
 generalize wS g.High=a7
 cases a5
 ·rfl
 cases a6
 ·cases a3<;>cases a4<;>cases a7<;>cases a2<;>cases a1<;>cases a0<;>rfl
 ·obtain rfl:=h1 rfl rfl
  cases a0<;>cases a2<;>cases a3<;>cases a4<;>cases a7<;>rfl
theorem aEV {α R:Type} {xs:List α} {q:α→Bool} {E:List α→Option R} {L:Nat→Int→Int→List α→Option R}
  (h1 : ∀n (i j:Nat) (r:List α) (hj:j<r.length) (hi:i<r.length),r.length=xs.length→r[j]∈xs→L (n+1) (i:Int) (j:Int) r=if q r[j]=true then L n (i:Int) ((j+1:Nat):Int) r else L n ((i+1:Nat):Int) ((j+1:Nat):Int) (r.set i r[j]))
  (h2 : ∀n (i:Nat) (r:List α),i≤r.length→L (n+1) (i:Int) (r.length:Int) r=E (r.take i)) :
  ∀(n i j:Nat) (r:List α),xs.length-j<n→j≤xs.length→i≤j→r.length=xs.length→r.take i=(xs.take j).filter (fun x => !q x)→r.drop j=xs.drop j→L n (i:Int) (j:Int) r=E (xs.filter fun x => !q x)
 | 0,i,j,r,hn,_,_,_,_,_=>by omega
 | n+1,i,j,r,hn,hj,hi,hr,ht,hd=>by
  rcases Nat.lt_or_ge j xs.length with h | h
  ·have hjr:j<r.length:=by omega
   have e0:r[j]=xs[j]:=by
    have:=congrArg (fun l=>l[0]?) hd
    simp only [List.getElem?_drop,Nat.add_zero,qF hjr,qF h,qZ] at this
    exact this
   have hd1:r.drop (j+1)=xs.drop (j+1):=by
    have:=congrArg (List.drop 1) hd
    simpa only [List.drop_drop] using this
   have htk:xs.take (j+1)=xs.take j++[xs[j]]:=(List.take_append_getElem h).symm
   rw [h1 n i j r hjr (by omega) hr (by rw [e0];exact qG h)]
   cases hq:q r[j] with
   | true =>
    rw [if_pos rfl]
    refine aEV h1 h2 n i (j+1) r (by omega) h (by omega) hr ?_ hd1
    rw [ht,htk,List.filter_append,←e0]
    simp [hq]
   | false =>
    rw [if_neg (by simp)]
    refine aEV h1 h2 n (i+1) (j+1) (r.set i r[j]) (by omega) h (by omega) (by simpa using hr) ?_ ?_
    ·rw [htk,List.filter_append,←ht,←e0]
     have hl:i<(r.set i r[j]).length:=by rw [qN];omega
     rw [←List.take_append_getElem hl,List.getElem_set_self,List.take_set_of_le (Nat.le_refl i)]
     simp [hq]
    ·rw [List.drop_set_of_lt (by omega)]
     exact hd1
  ·have e:j=r.length:=by omega
   subst e
   rw [h2 n i r hi,ht,List.take_of_length_le (by omega)]
def aCA (s:M.aC) (g:M.bU):M.aC×Int:=if fX s=true then ((⟨s.Name,s.Items.filter (fun x => !jT x.Key g),s.Auto⟩:M.aC),i64.wrap ((List.length s.Items:Int)-(List.length (s.Items.filter (fun x => !jT x.Key g)):Int))) else (s,0)
theorem aDB {α:Type} {f:α→Bool} {l:List α} {k:Nat} (h:k<l.length):(l.take (k+1)).filter f=(l.take k).filter f++(if f l[k]=true then [l[k]] else []):=by
 rw [←List.take_append_getElem h,List.filter_append]
 congr 1
 rw [List.filter_cons,List.filter_nil]
theorem aKG {s:M.aC} (hz:M.aC.sz s≤1048576) {x:M.Item} (hx:x∈s.Items):M.Item.sz x≤1048576:=by
 have:=eP (f:=M.Item.sz) hx
 simp only [M.aC.sz] at hz
 omega
theorem zF {s:M.aC} {g:M.bU} (hs:s.ok) (hl:g.Low.ok) (hh:g.High.ok) (hz:M.aC.sz s≤1048576):iL s g=some (aCA s g):=by
 have hn:s.Items.length≤1048576:=by simp only [M.aC.sz] at hz;omega
 have key : ∀(n k:Nat) (r:List M.Item),s.Items.length-k<n→k≤s.Items.length→r=(s.Items.take k).filter (fun x => !jT x.Key g)→dS s g n (k:Int) r=some ((⟨s.Name,s.Items.filter (fun x => !jT x.Key g),s.Auto⟩:M.aC),i64.wrap ((List.length s.Items:Int)-(List.length (s.Items.filter (fun x => !jT x.Key g)):Int))):=by
  intro n
  induction n with
  | zero=>intro k r h;omega
  | succ n ih =>
   intro k r hk hle hr
   simp only [dS]
   rcases Nat.lt_or_ge k s.Items.length with hlt | hge
   ·have hx:=hs.Items.2 _ (qG hlt)
    have hrl:r.length≤1048576:=by
     rw [hr]
     refine Nat.le_trans (List.length_filter_le _ _) ?_
     rw [qS];omega
    rw [if_pos (bD hlt),aF hlt,qA,aCb hx.Key hl hh,qA]
    cases hq:jT s.Items[k].Key g with
    | true =>
     rw [if_neg (by simp),bR (by omega)]
     refine ih (k+1) r (by omega) hlt ?_
     rw [aDB hlt,hq,←hr]
     simp
    | false =>
     rw [if_pos (by simp),aAQ _ (Nat.le_trans (aKG hz (qG hlt)) (by omega)),qA,iH (by simp only [qJ,qK];omega),qA,bR (by omega)]
     refine ih (k+1) _ (by omega) hlt ?_
     rw [aDB hlt,hq,←hr]
     simp
   ·have e:k=s.Items.length:=by omega
    subst e
    rw [if_neg (by rw [aJ];simp),hr,List.take_length]
 unfold iL aCA
 rw [zK hs,qA,wO s (by omega)]
 cases fX s with
 | false=>rfl
 | true =>
  rw [if_neg (by simp),if_pos rfl]
  exact key fuel 0 [] (by unfold fuel;omega) (by omega) (by simp)
theorem zG {s:M.aC} {g:M.bU} (hs:s.ok) (hl:g.Low.ok) (hh:g.High.ok) (hz:M.aC.sz s≤1048576):hM s g=some (aCA s g):=by
 have hn:s.Items.length≤1048576:=by simp only [M.aC.sz] at hz;omega
 have hp : ∀x∈s.Items,eG x g=some (jT x.Key g):=fun x hx=>by
  unfold eG
  rw [aCZ (hs.Items.2 x hx).Key hl hh,qA]
 unfold hM aCA
 rw [kE s (by omega),qA,xL hs,qA]
 cases fX s with
 | false=>rfl
 | true =>
  rw [if_neg (by simp),if_pos rfl,aAS (f:=fun x=>jT x.Key g) hs.Items.1 hp,qA]
  unfold nO
  cases hf:s.Items.findIdx? (fun x=>jT x.Key g) with
  | none =>
   rw [if_pos (by simp)]
   rw [List.findIdx?_eq_none_iff] at hf
   rw [List.filter_eq_self.2 (fun x hx=>by simp [hf x hx])]
  | some k =>
   obtain ⟨hk,hqk,hlt⟩:=List.findIdx?_eq_some_iff_getElem.1 hf
   have hne:((k:Int) == -1)=false:=beq_eq_false_iff_ne.2 (by omega)
   simp only [hne,qD,if_false]
   rw [bR (by omega)]
   refine aEV (xs:=s.Items) (q:=fun x=>jT x.Key g) (L:=cH s g s) (E:=fun l=>some ((⟨s.Name,l,s.Auto⟩:M.aC),i64.wrap ((List.length s.Items:Int)-(List.length l:Int)))) (fun n i j r hj hi hrl hmem => ?_) (fun n i r hi => ?_) fuel k (k+1) s.Items (by unfold fuel;omega) hk (by omega) rfl ?_ rfl
   ·simp only [cH]
    rw [if_pos (bD hj),aF hj,qA,hp _ hmem,qA,aF hi,qA]
    rw [bR (n:=i) (by omega),bR (n:=j) (by omega),qH]
    cases jT r[j].Key g<;>rfl
   ·simp only [cH]
    rw [if_neg (by rw [aJ];simp),show wK r (i:Int)=some (r.drop i) from by unfold wK;rw [if_pos ⟨by omega,by simpa using hi⟩,qH],qA,qH]
   ·rw [aDB hk]
    have:(s.Items.take k).filter (fun x => !jT x.Key g)=s.Items.take k:=List.filter_eq_self.2 (fun x hx=>by
     obtain ⟨j,hj,rfl⟩:=List.mem_iff_getElem.1 hx
     rw [qS] at hj
     rw [List.getElem_take]
     have:=hlt j (by omega)
     simpa using this)
    rw [this]
    simp [hqk]
theorem aHH {s:M.aC} {g:M.bU} (hs:s.ok):(aCA s g).1.ok∧M.aC.sz (aCA s g).1≤M.aC.sz s:=by
 unfold aCA
 split
 ·refine ⟨⟨hs.Name,⟨Nat.le_trans (List.length_filter_le _ _) hs.Items.1,fun y hy=>hs.Items.2 y (List.mem_filter.1 hy).1⟩,hs.Auto⟩,?_⟩
  have h4:=List.length_filter_le (fun x:M.Item => !jT x.Key g) s.Items
  have h5:=aDy (f:=M.Item.sz) (fun x:M.Item => !jT x.Key g) s.Items
  simp only [M.aC.sz]
  omega
 ·exact ⟨hs,Nat.le_refl _⟩
def aGJ (s:M.aC) (k:M.Key) (r:M.aA):M.aC×Bool:=if nO (lC k) s.Items<0 then zU s k r else (s,false)
theorem aDo {s:M.aC} {k:M.Key} {r:M.aA} (hs:s.ok) (hk:k.ok) (hr:r.ok) (hR:bG r=true) (hz:M.aC.sz s≤1073741824) (hzr:M.aA.sz r≤1073741824):tQ s k r=some (aGJ s k r):=by
 unfold tQ aGJ
 rw [rY hs,qA,wO s hz,xM hs hk hr hR hz hzr]
 by_cases h:nO (lC k) s.Items<0
 ·rw [if_neg (by simp;omega),if_pos h];rfl
 ·rw [if_pos (by simp;omega),if_neg h];rfl
theorem aDk {s:M.aC} {k:M.Key} {r:M.aA} (hs:s.ok) (hk:k.ok) (hr:r.ok) (hR:bG r=true) (hz:M.aC.sz s≤1073741824) (hzr:M.aA.sz r≤1073741824):uJ s k r=some (aGJ s k r):=by
 unfold uJ aGJ
 rw [wB hs,qA,kE s hz,xN hs hk hr hR hz hzr]
 by_cases h:nO (lC k) s.Items<0
 ·rw [if_neg (by simp;omega),if_pos h];rfl
 ·rw [if_pos (by simp;omega),if_neg h];rfl
def aKl:M.bU:=(⟨false,false,(⟨0,0,(⟨#[]⟩:ByteArray)⟩:M.Key),(⟨0,0,(⟨#[]⟩:ByteArray)⟩:M.Key)⟩:M.bU)
def aLl (s:M.aC) (o:M.Op):M.aC×Int×Bool:=if (aDr (kZ s o.Key) o.Field (i64.wrap ((cA (kZ s o.Key) o.Field).1+1))).2=true then ((zU s o.Key (aDr (kZ s o.Key) o.Field (i64.wrap ((cA (kZ s o.Key) o.Field).1+1))).1).1,i64.wrap ((cA (kZ s o.Key) o.Field).1+1),(zU s o.Key (aDr (kZ s o.Key) o.Field (i64.wrap ((cA (kZ s o.Key) o.Field).1+1))).1).2) else (s,0,false)
def nOn (s:M.aC) (o:M.Op):M.aC×Int×Bool:=if o.Kind=1 then ((zU s o.Key o.aA).1,1,(zU s o.Key o.aA).2) else if o.Kind=2 then ((aGJ s o.Key o.aA).1,1,(aGJ s o.Key o.aA).2) else if o.Kind=3 then ((aCA s (⟨true,true,o.Key,o.Key⟩:M.bU)).1,(aCA s (⟨true,true,o.Key,o.Key⟩:M.bU)).2,true) else if o.Kind=4 then (if nO (lC o.Key) s.Items<0 then (s,-1,true) else (s,(List.length (kZ s o.Key).Fields:Int),true)) else if o.Kind=5 then ((aCA s aKl).1,(aCA s aKl).2,true) else aLl s o
theorem aEc:M.Key.ok (⟨0,0,(⟨#[]⟩:ByteArray)⟩:M.Key):=⟨aJg,aJg,sz0⟩
theorem aAM {s:M.aC} {k:M.Key} (h : ¬nO (lC k) s.Items<0) : ∃x,idx s.Items (nO (lC k) s.Items)=some x∧x.aA=kZ s k:=by
 obtain ⟨j,e,hj⟩:=fV h
 refine ⟨s.Items[j],by rw [e,aF hj],?_⟩
 unfold kZ
 rw [if_neg h,e,qH,qF hj]
theorem aBX {s:M.aC} {k:M.Key} (h:nO (lC k) s.Items<0):kZ s k=(⟨([]:List M.Field)⟩:M.aA):=by
 unfold kZ
 rw [if_pos h]
theorem aGt:bG (⟨([]:List M.Field)⟩:M.aA)=true:=by rfl
theorem aJO {s:M.aC} (h:fX s=true) (k:M.Key):bG (kZ s k)=true:=by
 by_cases hf:nO (lC k) s.Items<0
 ·rw [aBX hf];exact aGt
 ·obtain ⟨j,e,hj⟩:=fV hf
  obtain ⟨x,e1,e2⟩:=aAM hf
  rw [←e2]
  rw [e,aF hj] at e1
  obtain rfl:=Option.some.inj e1
  exact ((aBn (pF h).1).1 j _ (qF hj)).2
theorem aJ7 {r:M.aA} (h:bG r=true) (a:ByteArray) (n:Int):bG (aDr r a n).1=true:=by
 cases e:(aDr r a n).2 with
 | true=>exact aJE e
 | false =>
  unfold aDr aC2 at e ⊢
  rw [if_pos h] at e ⊢
  split
  ·rename_i h2;rw [if_pos h2] at e;cases e
  ·exact h
structure aII (x:M.aC) (y:M.Op):Prop where
 s:x.ok
 o:aCf y
 n:nOp y=true
 t:fX x=true
theorem aII.z {s:M.aC} {o:M.Op} (h:aII s o):M.aC.sz s≤10000:=aCl h.t
theorem aII.r {s:M.aC} {o:M.Op} (h:aII s o):M.aA.sz o.aA≤100:=aFp (rA h.n).2.2.2.2
theorem aDA {s:M.aC} {o:M.Op} (h:aII s o):(kZ s o.Key).ok∧M.aA.sz (kZ s o.Key)≤100∧(aDr (kZ s o.Key) o.Field (i64.wrap ((cA (kZ s o.Key) o.Field).1+1))).1.ok∧bG (aDr (kZ s o.Key) o.Field (i64.wrap ((cA (kZ s o.Key) o.Field).1+1))).1=true:=by
 have h1:=aJO h.t o.Key
 have h2:=aFT (k:=o.Key) h.s
 have h3:=(sM h1).1
 exact ⟨h2,aFp h1,aLF h2 (by omega) h.o.2.2.2.2 (aBl _),aJ7 h1 _ _⟩
theorem aGL {s:M.aC} {o:M.Op} (h:aII s o):yW s o=some (nOn s o):=by
 have hz:=h.z
 have hr:=h.r
 obtain ⟨i1,i2,i3,i4⟩:=aDA h
 have i5:=aFp i4
 unfold yW nOn
 rw [wB h.s,qA,xN h.s h.o.2.2.1 h.o.2.2.2.1 (rA h.n).2.2.2.2 (by omega) (by omega),aDk h.s h.o.2.2.1 h.o.2.2.2.1 (rA h.n).2.2.2.2 (by omega) (by omega),zG h.s h.o.2.2.1 h.o.2.2.1 (by omega),zG (g:=(⟨false,false,(⟨0,0,(⟨#[]⟩:ByteArray)⟩:M.Key),(⟨0,0,(⟨#[]⟩:ByteArray)⟩:M.Key)⟩:M.bU)) h.s aEc aEc (by omega)]
 by_cases k1:o.Kind=1
 ·rw [if_pos (by simpa using k1),if_pos k1];rfl
 rw [if_neg (by simpa using k1),if_neg k1]
 by_cases k2:o.Kind=2
 ·rw [if_pos (by simpa using k2),if_pos k2];rfl
 rw [if_neg (by simpa using k2),if_neg k2]
 by_cases k3:o.Kind=3
 ·rw [if_pos (by simpa using k3),if_pos k3];rfl
 rw [if_neg (by simpa using k3),if_neg k3]
 by_cases k5:o.Kind=5
 ·rw [if_pos (by simpa using k5),if_neg (by omega),if_pos k5];rfl
 rw [if_neg (by simpa using k5)]
 by_cases k4:o.Kind=4
 ·rw [if_pos (by simpa using k4),if_pos k4]
  by_cases hf:nO (lC o.Key) s.Items<0
  ·rw [if_pos (by simpa using hf),if_pos hf]
  ·obtain ⟨x,e1,e2⟩:=aAM hf
   rw [if_neg (by simpa using hf),if_neg hf,e1,qA,e2]
 ·rw [if_neg (by simpa using k4),if_neg k4,if_neg k5]
  unfold aLl
  by_cases hf:nO (lC o.Key) s.Items<0
  ·rw [aBX hf] at i1 i2 i3 i4 i5 ⊢
   rw [if_neg (by simp;omega),eN i1,qA,aAn i1 (by omega) h.o.2.2.2.2 (aBl _),qA,xN h.s h.o.2.2.1 i3 i4 (by omega) (by omega)]
   cases (aDr (⟨([]:List M.Field)⟩:M.aA) o.Field (i64.wrap ((cA (⟨([]:List M.Field)⟩:M.aA) o.Field).1+1))).2<;>rfl
  ·obtain ⟨x,e1,e2⟩:=aAM hf
   rw [if_pos (by simp;omega),e1,qA,e2,eN i1,qA,aAn i1 (by omega) h.o.2.2.2.2 (aBl _),qA,xN h.s h.o.2.2.1 i3 i4 (by omega) (by omega)]
   cases (aDr (kZ s o.Key) o.Field (i64.wrap ((cA (kZ s o.Key) o.Field).1+1))).2<;>rfl
theorem aF3 {s:M.aC} {o:M.Op} (h:aII s o) : ∃x,xR s o.Key o.Field=some x∧x.2.2=(aLl s o).2.2∧(x.2.2=true→x=aLl s o):=by
 have hz:=h.z
 obtain ⟨i1,i2,i3,i4⟩:=aDA h
 have i5:=aFp i4
 unfold xR aLl
 rw [rY h.s,qA]
 by_cases hf:nO (lC o.Key) s.Items<0
 ·rw [aBX hf] at i1 i2 i3 i4 i5 ⊢
  rw [if_neg (by simp;omega),gV i1,qA,aAf i1 (by omega) h.o.2.2.2.2 (aBl _),qA,xM h.s h.o.2.2.1 i3 i4 (by omega) (by omega),qA]
  cases (aDr (⟨([]:List M.Field)⟩:M.aA) o.Field (i64.wrap ((cA (⟨([]:List M.Field)⟩:M.aA) o.Field).1+1))).2
  ·exact ⟨_,rfl,rfl,fun e=>by cases e⟩
  ·exact ⟨_,rfl,rfl,fun _=>rfl⟩
 ·obtain ⟨x,e1,e2⟩:=aAM hf
  rw [if_pos (by simp;omega),e1,qA,e2,gV i1,qA,aAf i1 (by omega) h.o.2.2.2.2 (aBl _),qA,xM h.s h.o.2.2.1 i3 i4 (by omega) (by omega),qA]
  cases (aDr (kZ s o.Key) o.Field (i64.wrap ((cA (kZ s o.Key) o.Field).1+1))).2
  ·exact ⟨_,rfl,rfl,fun e=>by cases e⟩
  ·exact ⟨_,rfl,rfl,fun _=>rfl⟩
theorem aDg {s:M.aC} {o:M.Op} (h:aII s o) : ∃x,uA s o=some x∧x.2.2=(nOn s o).2.2∧(x.2.2=true→x=nOn s o):=by
 have hz:=h.z
 have hr:=h.r
 have same : ∀ {m:Option (M.aC×Int×Bool)} {y:M.aC×Int×Bool},m=some y → ∃x,m=some x∧x.2.2=y.2.2∧(x.2.2=true→x=y):=fun e=>⟨_,e,rfl,fun _=>rfl⟩
 unfold uA nOn
 rw [rY h.s,qA,wO s (by omega),xM h.s h.o.2.2.1 h.o.2.2.2.1 (rA h.n).2.2.2.2 (by omega) (by omega),aDo h.s h.o.2.2.1 h.o.2.2.2.1 (rA h.n).2.2.2.2 (by omega) (by omega),zF h.s h.o.2.2.1 h.o.2.2.1 (by omega),zF (g:=(⟨false,false,(⟨0,0,(⟨#[]⟩:ByteArray)⟩:M.Key),(⟨0,0,(⟨#[]⟩:ByteArray)⟩:M.Key)⟩:M.bU)) h.s aEc aEc (by omega)]
 by_cases k1:o.Kind=1
 ·rw [if_pos (by simpa using k1),if_pos k1];exact same rfl
 rw [if_neg (by simpa using k1),if_neg k1]
 by_cases k2:o.Kind=2
 ·rw [if_pos (by simpa using k2),if_pos k2];exact same rfl
 rw [if_neg (by simpa using k2),if_neg k2]
 by_cases k3:o.Kind=3
 ·rw [if_pos (by simpa using k3),if_pos k3];exact same rfl
 rw [if_neg (by simpa using k3),if_neg k3]
 by_cases k4:o.Kind=4
 ·rw [if_pos (by simpa using k4),if_pos k4]
  by_cases hf:nO (lC o.Key) s.Items<0
  ·rw [if_pos (by simpa using hf),if_pos hf];exact same rfl
  ·obtain ⟨x,e1,e2⟩:=aAM hf
   rw [if_neg (by simpa using hf),if_neg hf,qA,e1,qA,e2];exact same rfl
 rw [if_neg (by simpa using k4),if_neg k4]
 by_cases k5:o.Kind=5
 ·rw [if_pos (by simpa using k5),if_pos k5];exact same rfl
 ·rw [if_neg (by simpa using k5),if_neg k5]
  obtain ⟨x,e1,e2,e3⟩:=aF3 h
  rw [e1,qA]
  exact ⟨_,rfl,e2,e3⟩
theorem aDX {s:M.aC} {k:M.Key} {r:M.aA} (hs:s.ok) (ht:fX s=true) (hk:k.ok) (hr:r.ok) (hR:bG r=true):(zU s k r).1.ok∧M.aC.sz (zU s k r).1≤10000:=by
 have hz:=aCl ht
 refine ⟨aKB hs (by simp only [M.aC.sz] at hz;omega) hk hr,?_⟩
 cases e:(zU s k r).2 with
 | true=>exact aCl (aHp hR e)
 | false=>rw [aIH e];exact hz
theorem aGw {s:M.aC} {o:M.Op} (h:aII s o):(nOn s o).1.ok∧M.aC.sz (nOn s o).1≤10000:=by
 have hz:=h.z
 have hR:=(rA h.n).2.2.2.2
 obtain ⟨i1,i2,i3,i4⟩:=aDA h
 have hd : ∀g,(aCA s g).1.ok∧M.aC.sz (aCA s g).1≤10000:=fun g=>⟨(aHH h.s).1,Nat.le_trans (aHH h.s).2 hz⟩
 unfold nOn aLl aGJ
 split
 ·exact aDX h.s h.t h.o.2.2.1 h.o.2.2.2.1 hR
 split
 ·split
  ·exact aDX h.s h.t h.o.2.2.1 h.o.2.2.2.1 hR
  ·exact ⟨h.s,hz⟩
 split
 ·exact hd _
 split
 ·split<;>exact ⟨h.s,hz⟩
 split
 ·exact hd _
 split
 ·exact aDX h.s h.t h.o.2.2.1 i3 i4
 ·exact ⟨h.s,hz⟩
end Go.Proofs.YtidhkhdnjonjfaaGreat.gen
