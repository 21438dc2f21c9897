/-
  Helper text. No conditions.
-/
import Derived.Test.YtipmihbgjolaaaaGreatLoadedFilesPd3
set_option linter.unusedVariables false
set_option linter.unusedSimpArgs false
namespace Go.Proofs.YtipmihbgjolaaaaGreat.gen
open Go Go.Sh
open Go.IntKind (i64)
theorem Xs {b:List Int} {p:Int} (hb:okB b) (hl:b.length<=1048576):inI (nUv b p).2.1:=by
 cases h:(nUv b p).2.2 with
 | false=>rw [Yw h];exact vZ
 | true =>
  obtain ⟨a,m,e,u1,u2,u3,u4,_⟩:=Db hb h
  rw [u1]
  exact IS u4 hl
theorem MJ {b:List Int} {p c:Int} (hb:okB b) (hl:b.length<=1048576):inI (nRb b p c).2.1:=by
 cases h:(nRb b p c).2.2 with
 | false=>rw [YH h];exact vZ
 | true =>
  obtain ⟨s,a,e,r1,r2,r3,r4,_⟩:=H3 hb h
  rw [r1]
  exact IS r4 hl
theorem C1 {b:List Int} {p c:Int} (hb:okB b) (hl:b.length<=1048576) (h:(nRb b p c).2.2=true):okB (nRb b p c).1/\(nRb b p c).1.length<=b.length:=by obtain ⟨s,a,e,r1,r2,r3,r4,r5,r6,r7,r8⟩:=H3 hb h;rw [r1];exact ⟨r8,qg⟩
theorem Wv {c n:Int} {t:List Int} (h:M.Key.ok (⟨c,n,dD t⟩:M.Key)):(mkK c n t).1.ok:=by unfold mkK;split;(exact h);·exact ⟨vZ,vZ,sz0⟩
theorem VL {b:List Int} (hb:okB b):(Ss b).1.ok:=by
 have z:Th.ok:=⟨vZ,vZ,sz0⟩
 unfold Ss
 split
 ·exact z
 ·rename_i c t
  have hc:=hb.2 c qd
  have ht : ∀x∈t,0<=x/\x<=255:=λx hx=>hb.2 x (by simp [hx])
  have hlt:t.length<=maxLen:=by have:=hb.1;rw [qJ] at this;omega
  split
  ·rename_i h2;exact Wv (PV hc qb hlt)
  ·split
   ·exact z
   ·obtain ⟨w,e,hw⟩:=ZL (t:=t.take 6) (λx hx=>ht x (List.mem_of_mem_take hx)) 0 0 qe
    have h6:0+8*(List.take 6 t).length<=48:=by rw [qT];omega
    have h7:(2:Int)^(0+8*(List.take 6 t).length)<=2^48:=by have:=Nat.pow_le_pow_right (n:=2) qe h6;exact_mod_cast this
    have e':(List.take 6 t).foldl Yd 0=(w:Int):=e
    rw [e']
    refine Wv (PV hc qb (Nat.le_trans (by rw [qU];omega) hlt))
theorem Wm {b:List Int} {p c1 c2 c3 c4 q:Int} {o:M.Op} (hb:okB b) (hl:b.length<=1048576) (h:op9 b p c1 c2 c3 c4=some (o,q)):K6 o/\inI q:=by unfold op9 at h;split at h;(rename_i h1;split at h;(rename_i h2;split at h;(rename_i h3;split at h;(rename_i h4;split at h;(rename_i h5;simp only [qa,qZ] at h;obtain ⟨a,m,e,u1,u2,u3,_⟩:=Db hb h1;have p2:=C1 hb hl h2;have p3:=C1 hb hl h3;have p4:=C1 hb hl h4;have p5:=C1 hb hl h5;rw [<-h.1,<-h.2];refine ⟨⟨?_,?_,VL p3.1,(U7 p4.1).1,?_⟩,MJ hb hl⟩;(show inI (nUv b p).1;rw [u1];unfold inI;dsimp only;omega);(show (dD _).size<=_;rw [Cp];exact p2.1.1);·show (dD _).size<=_;rw [Cp];exact p5.1.1);·cases h);·cases h);·cases h);·cases h);·cases h
theorem M4 {b:List Int} {p:Int} (hb:okB b) (hl:b.length<=1048576) (hp:inI p):AW b p=some (match op9 b p 100 100 200 100 with
  | none=>((⟨0,(⟨#[]⟩:ByteArray),(⟨0,0,(⟨#[]⟩:ByteArray)⟩:M.Key),(⟨([]:List M.Field)⟩:M.aD),(⟨#[]⟩:ByteArray)⟩:M.Op),0,false)
  | some (o,q)=>(o,q,true)):=by
 unfold AW op9
 rw [pM hb hl hp,qA,tO hb hl (Xs hb hl),qA]
 show (dU b (gS9 b p 100).2.1 100).bind _=_
 rw [tO hb hl (show inI (gS9 b p 100).2.1 from MJ hb hl),qA]
 show (dU b (gK9 b p 100 100).2.1 200).bind _=_
 rw [tO hb hl (show inI (gK9 b p 100 100).2.1 from MJ hb hl),qA]
 show (dU b (gR9 b p 100 100 200).2.1 100).bind _=_
 rw [tO hb hl (show inI (gR9 b p 100 100 200).2.1 from MJ hb hl),qA]
 change (if (!(nUv b p).2.2)=true then _ else if (!(gS9 b p 100).2.2)=true then _ else if (!(gK9 b p 100 100).2.2)=true then _ else if (!(gR9 b p 100 100 200).2.2)=true then _ else if (!(gF9 b p 100 100 200 100).2.2)=true then _ else (toStr (gS9 b p 100).1).bind λaf=>((toStr (gF9 b p 100 100 200 100).1).bind λah=>((tQ (gK9 b p 100 100).1).bind λaa=>((oD (gR9 b p 100 100 200).1).bind λae=>some ((⟨(nUv b p).1,dD (gS9 b p 100).1,aa.1,ae.1,dD (gF9 b p 100 100 200 100).1⟩:M.Op),(gF9 b p 100 100 200 100).2.1,true)))))=_
 cases h1:(nUv b p).2.2 with
 | false=>rfl
 | true =>
  cases h2:(gS9 b p 100).2.2 with
  | false=>rfl
  | true =>
   cases h3:(gK9 b p 100 100).2.2 with
   | false=>rfl
   | true =>
    cases h4:(gR9 b p 100 100 200).2.2 with
    | false=>rfl
    | true =>
     cases h5:(gF9 b p 100 100 200 100).2.2 with
     | false=>rfl
     | true =>
      have p2:okB (gS9 b p 100).1/\(gS9 b p 100).1.length<=b.length:=C1 hb hl h2
      have p3:okB (gK9 b p 100 100).1/\(gK9 b p 100 100).1.length<=b.length:=C1 hb hl h3
      have p4:okB (gR9 b p 100 100 200).1/\(gR9 b p 100 100 200).1.length<=b.length:=C1 hb hl h4
      have p5:okB (gF9 b p 100 100 200 100).1/\(gF9 b p 100 100 200 100).1.length<=b.length:=C1 hb hl h5
      simp only [qB,qD,if_false,if_true]
      rw [Eb p2.1.2,qA,Eb p5.1.2,qA,Jt p3.1 qb,qA,Gw p4.1 qb,qA]
theorem doS {b:List Int} {x1:Int×Int×Bool} {N:Nat} (hb:okB b) (hl:b.length<=1048576) (hN:N<=6) (hx:x1.1=(N:Int)) : ∀(j k m:Nat) (p:Int) (acc:List M.Op),k+j=N->j<m->inI p->acc.length=k->(∀x∈acc,K6 x)->kS b x1 m p (k:Int) acc=some (Y8 b (MG b 100 100 200 100 j p acc))
 | _,_,0,_,_,_,h,_,_,_=>by omega
 | 0,k,m+1,p,acc,hk,_,hp,ha,ho=>by simp only [kS,MG,Y8];rw [hx,if_neg qc,Ew qb ho,qA,HT (Qx _) hb,qA];cases eqL A0 (EV acc) b<;>rfl
 | j+1,k,m+1,p,acc,hk,hm,hp,ha,ho=>by
  simp only [kS,MG]
  rw [hx,if_pos qc,M4 hb hl hp,qA]
  cases h:op9 b p 100 100 200 100 with
  | none=>rfl
  | some x =>
   obtain ⟨o,q⟩:=x
   obtain ⟨k1,k2⟩:=Wm hb hl h
   simp only [qB,qD,if_false]
   rw [dH qc,qA,bE qb]
   refine doS hb hl hN hx j (k+1) m q _ qb qb k2 (by simp [ha]) (λy hy => ?_)
   rcases List.mem_append.1 hy with hy | hy
   ·exact ho y hy
   ·rw [List.mem_singleton.1 hy];exact k1
theorem IK {b:List Int} (hb:okB b) (hl:b.length<=1048576):tP b=some (VF b 100 100 200 100):=by
 unfold tP VF
 rw [pM hb hl vZ,qA]
 cases h:(nUv b 0).2.2 with
 | false=>rfl
 | true =>
  obtain ⟨a,m,e,u1,u2,u3,u4,u5,u6⟩:=Db hb h
  rw [u1]
  simp only [qB,qD,if_false,if_true]
  by_cases h6:(m:Int)>6
  ·rw [if_pos (by simpa using h6),if_pos h6]
  ·rw [if_neg (by simpa using h6),if_neg h6,qH];exact doS (x1:=((m:Int),(e:Int),true)) hb hl (N:=m) qb rfl m 0 fuel (e:Int) [] qb qi (IS u4 hl) rfl (λ_ h=>absurd h qd)
theorem Uy {l:List M.Op} {b:List Int} (h:EV l=b) (hb:b≠[]):b=uv l.length++Nc enO l/\(∀o∈l,nOp o=true)/\l.length<=6:=by unfold EV at h;split at h;(rename_i h1;rw [qM,qL,qQ] at h1;exact ⟨h.symm,h1.1,h1.2⟩);·exact absurd h.symm hb
def EY (b:List Int):List M.Op×Bool:=VF b 100 100 200 100
theorem JH {b:List Int} (hb:okB b) (hl:b.length<=1048576):tP b=some (EY b):=IK hb hl
theorem Qj {b:List Int} {c1 c2 c3 c4:Int} (hb:okB b) (hl:b.length<=1048576) : ∀(j:Nat) (p:Int) (acc l:List M.Op),MG b c1 c2 c3 c4 j p acc=some l->(∀x∈acc,K6 x)->(∀x∈l,K6 x)
 | 0,_,_,_,h,ho=>by simp only [MG,qa] at h;rw [<-h];exact ho
 | j+1,p,acc,l,h,ho=>by
  simp only [MG] at h
  cases e:op9 b p c1 c2 c3 c4 with
  | none=>rw [e] at h;cases h
  | some x =>
   obtain ⟨o,q⟩:=x
   rw [e] at h
   refine Qj hb hl j q _ l h (λy hy => ?_)
   rcases List.mem_append.1 hy with hy | hy
   ·exact ho y hy
   ·rw [List.mem_singleton.1 hy];exact (Wm hb hl e).1
theorem Mf {b:List Int} (hb:okB b) (hl:b.length<=1048576):(EY b).1.length<=6 /\ ∀o∈(EY b).1,K6 o/\nOp o=true:=by
 have z:([]:List M.Op).length<=6 /\ ∀o∈([]:List M.Op),K6 o/\nOp o=true:=⟨qd,λ_ h=>absurd h qd⟩
 unfold EY VF
 split
 ·rename_i h
  obtain ⟨a,m,e,u1,u2,u3,u4,u5,u6⟩:=Db hb h
  obtain rfl:a=0:=by omega
  rw [List.drop_zero] at u6
  have hne:b≠[]:=λh0=>by have:=congrArg List.length u6;have h2:=QI m;rw [h0] at this;simp at this;omega
  rw [u1]
  dsimp only
  split
  ·exact z
  ·cases hr:MG b 100 100 200 100 (m:Int).toNat (e:Int) [] with
   | none=>exact z
   | some l =>
    simp only [Y8]
    split
    ·rename_i he;rw [TW] at he;obtain ⟨b1,b2,b3⟩:=Uy he hne;exact ⟨b3,λo ho=>⟨Qj hb hl _ _ _ l hr (λ_ h=>absurd h qd) o ho,b2 o ho⟩⟩
    ·exact z
 ·exact z
theorem Fg {i:Int} {l:List Int} (hl:l.length<=1048576):wF i l=some (GA ([101,i]++([(List.length l:Int)]++l.map i64.wrap))):=by unfold wF;rw [CY hl,qA,dH qc,qA,Ku (by simp [maxLen];omega),qA]
def Ws (i:Int) (l:List Int):Int:=GA ([101,i]++([(List.length l:Int)]++l.map i64.wrap))
def N8 (b:List Int):Nat->Int->List (List Int)->List (List Int)×Int
 | 0,p,acc=>(acc,p)
 | j+1,p,acc=>if (nRb b p 4000).2.2=true then (if (nUv b (nRb b p 4000).2.1).2.2=true then (if ((nUv b (nRb b p 4000).2.1).1 != Ws (acc.length:Int) (nRb b p 4000).1)=true then (acc,p) else N8 b j (nUv b (nRb b p 4000).2.1).2.1 (acc++[(nRb b p 4000).1])) else (acc,p)) else (acc,p)
def Yc (b:List Int):List (List Int)×Int:=N8 b (b.length+1) 0 []
theorem Xc {b:List Int}:nUv b (b.length:Int)=(0,0,false):=by unfold nUv;rw [if_neg qb,qH];unfold TO;rw [qX qb]
theorem R8 {b:List Int} (hb:okB b) (hl:b.length<=1048576) : ∀(j m a:Nat) (acc:List (List Int)),b.length-a<j->j<=m->a<=b.length->acc.length<=a->sK b m (a:Int) acc=some (N8 b j (a:Int) acc)
 | 0,_,_,_,h,_,_,_=>by omega
 | _+1,0,_,_,_,h,_,_=>by omega
 | j+1,m+1,a,acc,hj,hm,ha,hc=>by
  simp only [sK,N8]
  by_cases hlt:a<b.length
  case neg =>
   obtain rfl:a=b.length:=by omega
   rw [if_neg qd]
   have:(nRb b (b.length:Int) 4000).2.2=false:=by unfold nRb;rw [Xc];rfl
   rw [this]
   rfl
  rw [if_pos qc,tO hb hl (IS ha hl),qA]
  cases h1:(nRb b (a:Int) 4000).2.2 with
  | false=>rfl
  | true =>
   obtain ⟨s,a1,e1,r1,r2,r3,r4,r5,r6,r7,r8⟩:=H3 hb h1
   obtain rfl:a=a1:=by omega
   rw [r1]
   simp only [qB,qD,if_false,if_true]
   rw [pM hb hl (IS r4 hl),qA]
   cases h2:(nUv b (e1:Int)).2.2 with
   | false=>rfl
   | true =>
    obtain ⟨a2,v,e2,u1,u2,u3,u4,u5,u6⟩:=Db hb h2
    obtain rfl:e1=a2:=by omega
    have g1:=QI s.length
    have g2:=QI v
    rw [u1]
    simp only [qB,qD,if_false,if_true]
    rw [Fg qb,qA]
    show (if ((v:Int) != Ws (acc.length:Int) s)=true then _ else _)=_
    split
    ·rfl
    ·rw [dH qc,qA];exact R8 hb hl j m e2 _ qb qb u4 qc
theorem Lc {b:List Int} (hb:okB b) (hl:b.length<=1048576):As b=some (Yc b):=by unfold As Yc;exact R8 hb hl (b.length+1) fuel 0 [] qb qi qb qd
theorem QS {b:List Int} (hb:okB b) : ∀(j a:Nat) (acc:List (List Int)),a<=b.length->acc.length<=a->(∀l∈acc,okB l/\l.length<=4000)->(N8 b j (a:Int) acc).1.length<=b.length /\ ∀l∈(N8 b j (a:Int) acc).1,okB l/\l.length<=4000
 | 0,a,acc,ha,hc,h=>⟨by simp only [N8];omega,h⟩
 | j+1,a,acc,ha,hc,h=>by
  simp only [N8]
  split
  ·rename_i h1
   obtain ⟨s,a1,e1,r1,r2,r3,r4,r5,r6,r7,r8⟩:=H3 hb h1
   obtain rfl:a=a1:=by omega
   rw [r1]
   dsimp only
   split
   ·rename_i h2
    obtain ⟨a2,v,e2,u1,u2,u3,u4,u5,u6⟩:=Db hb h2
    obtain rfl:e1=a2:=by omega
    have g1:=QI s.length
    rw [u1]
    dsimp only
    split
    ·exact ⟨qg,h⟩
    ·refine QS hb j e2 _ u4 qc (λl hl => ?_);rcases List.mem_append.1 hl with hl | hl;(exact h l hl);·rw [List.mem_singleton.1 hl];exact ⟨r8,qb⟩
   ·exact ⟨qg,h⟩
  ·exact ⟨qg,h⟩
theorem TG {b:List Int} (hb:okB b):(Yc b).1.length<=b.length /\ ∀l∈(Yc b).1,okB l/\l.length<=4000:=QS hb (b.length+1) 0 [] qb qd (λ_ h=>absurd h qd)
theorem LO {α:Type} {f:α->Nat} (q:α->Bool) : ∀(l:List α),dG f (l.filter q)<=dG f l
 | []=>Nat.le_refl _
 | x::l=>by have h:=LO (f:=f) q l;rw [List.filter_cons];split;(simp only [dG];omega);·simp only [dG];omega
def BO (k:M.Key) (g:M.gE):Bool:=Cj k&&((!g.aF2||Cj g.Low)&&((!g.aFr||Cj g.aFx)&&((!g.aF2||decide (cV g.Low k<=0))&&(!g.aFr||decide (cV k g.aFx<=0)))))
theorem Jg {k:M.Key} {g:M.gE} (hk:k.ok) (hl:g.Low.ok) (hh:g.aFx.ok):xY k g=some (BO k g):=by unfold xY BO;simp only [lR hk,lR hl,lR hh,vE hl hk,vE hk hh,qA];generalize decide (cV g.Low k<=0)=a1;generalize decide (cV k g.aFx<=0)=a2;generalize g.aF2=a3;generalize g.aFr=a4;generalize Cj k=a5;generalize Cj g.Low=a6;generalize Cj g.aFx=a7;cases a1<;>cases a2<;>cases a3<;>cases a4<;>cases a5<;>cases a6<;>cases a7<;>rfl
def Kx (s:M.aC) (g:M.gE):M.aC×Int:=if hJ s=true then ((⟨s.Name,s.aE7.filter (λx => !BO x.Key g),s.aFZ⟩:M.aC),i64.wrap ((List.length s.aE7:Int)-(List.length (s.aE7.filter (λx => !BO x.Key g)):Int))) else (s,0)
theorem NJ {α:Type} {f:α->Bool} {l:List α} {k:Nat} (h:k<l.length):(l.take (k+1)).filter f=(l.take k).filter f++(if f l[k]=true then [l[k]] else []):=by rw [<-List.take_append_getElem h,List.filter_append];congr 1;rw [List.filter_cons,List.filter_nil]
theorem Vp {s:M.aC} (hz:M.aC.sz s<=1048576) {x:M.aFP} (hx:x∈s.aE7):M.aFP.sz x<=1048576:=by have:=dV (f:=M.aFP.sz) hx;simp only [M.aC.sz] at hz;omega
theorem C0 {s:M.aC} {g:M.gE} (hs:s.ok) (hl:g.Low.ok) (hh:g.aFx.ok) (hz:M.aC.sz s<=1048576):pP s g=some (Kx s g):=by
 have hn:s.aE7.length<=1048576:=by simp only [M.aC.sz] at hz;omega
 have key : ∀(n k:Nat) (r:List M.aFP),s.aE7.length-k<n->k<=s.aE7.length->r=(s.aE7.take k).filter (λx => !BO x.Key g)->iA s g n (k:Int) r=some ((⟨s.Name,s.aE7.filter (λx => !BO x.Key g),s.aFZ⟩:M.aC),i64.wrap ((List.length s.aE7:Int)-(List.length (s.aE7.filter (λx => !BO x.Key g)):Int))):=by
  intro n
  induction n with
  | zero=>intro k r h;omega
  | succ n ih =>
   intro k r hk hle hr
   simp only [iA]
   rcases Nat.lt_or_ge k s.aE7.length with hlt | hge
   ·have hx:=hs.aE7.2 _ (qG hlt)
    have hrl:r.length<=1048576:=by rw [hr];refine Nat.le_trans (List.length_filter_le _ _) ?_;rw [qT];omega
    rw [if_pos (aY hlt),aK hlt,qA,Jg hx.Key hl hh,qA]
    cases hq:BO s.aE7[k].Key g with
    | true =>
     rw [if_neg qd,bE qb]
     refine ih (k+1) r qb hlt ?_
     rw [NJ hlt,hq,<-hr]
     simp
    | false =>
     rw [if_pos qd,Eg _ (Nat.le_trans (Vp hz (qG hlt)) qb),qA,dH qs,qA,bE qb]
     refine ih (k+1) _ qb hlt ?_
     rw [NJ hlt,hq,<-hr]
     simp
   ·have e:k=s.aE7.length:=by omega
    subst e
    rw [if_neg qk,hr,List.take_length]
 unfold pP Kx
 rw [yP hs,qA,mP s qb]
 cases hJ s with
 | false=>rfl
 | true =>
  rw [if_neg qd,if_pos rfl]
  exact key fuel 0 [] qi qb qd
theorem P1 {s:M.aC} {g:M.gE} (hs:s.ok):(Kx s g).1.ok/\M.aC.sz (Kx s g).1<=M.aC.sz s:=by unfold Kx;split;(refine ⟨⟨hs.Name,⟨Nat.le_trans (List.length_filter_le _ _) hs.aE7.1,λy hy=>hs.aE7.2 y (List.mem_filter.1 hy).1⟩,hs.aFZ⟩,?_⟩;have h4:=List.length_filter_le (λx:M.aFP => !BO x.Key g) s.aE7;have h5:=LO (f:=M.aFP.sz) (λx:M.aFP => !BO x.Key g) s.aE7;simp only [M.aC.sz];omega);·exact ⟨hs,Nat.le_refl _⟩
def OO (s:M.aC) (k:M.Key) (r:M.aD):M.aC×Bool:=if lA (yT k) s.aE7<0 then Cd s k r else (s,false)
theorem F8 {s:M.aC} {k:M.Key} {r:M.aD} (hs:s.ok) (hk:k.ok) (hr:r.ok) (hR:bW r=true) (hz:M.aC.sz s<=1073741824) (hzr:M.aD.sz r<=1073741824):yL s k r=some (OO s k r):=by unfold yL OO;rw [zV hs,qA,mP s hz,yI hs hk hr hR hz hzr];by_cases h:lA (yT k) s.aE7<0;(rw [if_neg qc,if_pos h];rfl);·rw [if_pos qc,if_neg h];rfl
def Wh:M.gE:=(⟨false,false,(⟨0,0,(⟨#[]⟩:ByteArray)⟩:M.Key),(⟨0,0,(⟨#[]⟩:ByteArray)⟩:M.Key)⟩:M.gE)
def YZ (s:M.aC) (o:M.Op):M.aC×Int×Bool:=if (IH (kI s o.Key) o.Field (i64.wrap ((jA (kI s o.Key) o.Field).1+1))).2=true then ((Cd s o.Key (IH (kI s o.Key) o.Field (i64.wrap ((jA (kI s o.Key) o.Field).1+1))).1).1,i64.wrap ((jA (kI s o.Key) o.Field).1+1),(Cd s o.Key (IH (kI s o.Key) o.Field (i64.wrap ((jA (kI s o.Key) o.Field).1+1))).1).2) else (s,0,false)
def nOn (s:M.aC) (o:M.Op):M.aC×Int×Bool:=if o.aFU=1 then ((Cd s o.Key o.aD).1,1,(Cd s o.Key o.aD).2) else if o.aFU=2 then ((OO s o.Key o.aD).1,1,(OO s o.Key o.aD).2) else if o.aFU=3 then ((Kx s (⟨true,true,o.Key,o.Key⟩:M.gE)).1,(Kx s (⟨true,true,o.Key,o.Key⟩:M.gE)).2,true) else if o.aFU=4 then (if lA (yT o.Key) s.aE7<0 then (s,-1,true) else (s,(List.length (kI s o.Key).aFA:Int),true)) else if o.aFU=5 then ((Kx s Wh).1,(Kx s Wh).2,true) else YZ s o
theorem O3:M.Key.ok (⟨0,0,(⟨#[]⟩:ByteArray)⟩:M.Key):=⟨vZ,vZ,sz0⟩
theorem M1 {s:M.aC} {k:M.Key} (h : ¬lA (yT k) s.aE7<0) : ∃x,idx s.aE7 (lA (yT k) s.aE7)=some x/\x.aD=kI s k:=by obtain ⟨j,e,hj⟩:=gD h;refine ⟨s.aE7[j],by rw [e,aK hj],?_⟩;unfold kI;rw [if_neg h,e,qH,qF hj]
theorem PT {s:M.aC} {k:M.Key} (h:lA (yT k) s.aE7<0):kI s k=(⟨([]:List M.Field)⟩:M.aD):=by unfold kI;rw [if_pos h]
theorem Ec:bW (⟨([]:List M.Field)⟩:M.aD)=true:=by rfl
theorem TJ {s:M.aC} (h:hJ s=true) (k:M.Key):bW (kI s k)=true:=by by_cases hf:lA (yT k) s.aE7<0;(rw [PT hf];exact Ec);·obtain ⟨j,e,hj⟩:=gD hf;obtain ⟨x,e1,e2⟩:=M1 hf;rw [<-e2];rw [e,aK hj] at e1;obtain rfl:=Option.some.inj e1;exact ((Hu (xG h).1).1 j _ (qF hj)).2
theorem P6 {r:M.aD} (h:bW r=true) (a:ByteArray) (n:Int):bW (IH r a n).1=true:=by
 cases e:(IH r a n).2 with
 | true=>exact E6 e
 | false =>
  unfold IH Mo at e ⊢
  rw [if_pos h] at e ⊢
  split
  ·rename_i h2;rw [if_pos h2] at e;cases e
  ·exact h
structure Uq (x:M.aC) (y:M.Op):Prop where
 s:x.ok
 o:K6 y
 n:nOp y=true
 t:hJ x=true
theorem Uq.z {s:M.aC} {o:M.Op} (h:Uq s o):M.aC.sz s<=10000:=pA h.t
theorem Uq.r {s:M.aC} {o:M.Op} (h:Uq s o):M.aD.sz o.aD<=100:=F4 (DA h.n).2.2.2.2
theorem NI {s:M.aC} {o:M.Op} (h:Uq s o):(kI s o.Key).ok/\M.aD.sz (kI s o.Key)<=100/\(IH (kI s o.Key) o.Field (i64.wrap ((jA (kI s o.Key) o.Field).1+1))).1.ok/\bW (IH (kI s o.Key) o.Field (i64.wrap ((jA (kI s o.Key) o.Field).1+1))).1=true:=by have h1:=TJ h.t o.Key;have h2:=GW (k:=o.Key) h.s;have h3:=(xK h1).1;exact ⟨h2,F4 h1,Mr h2 qb h.o.2.2.2.2 (bI _),P6 h1 _ _⟩
theorem Oq {s:M.aC} {o:M.Op} (h:Uq s o) : ∃x,BV s o.Key o.Field=some x/\x.2.2=(YZ s o).2.2/\(x.2.2=true->x=YZ s o):=by have hz:=h.z;obtain ⟨i1,i2,i3,i4⟩:=NI h;have i5:=F4 i4;unfold BV YZ;rw [zV h.s,qA];by_cases hf:lA (yT o.Key) s.aE7<0;(rw [PT hf] at i1 i2 i3 i4 i5 ⊢;rw [if_neg qc,sQ i1,qA,A7 i1 qb h.o.2.2.2.2 (bI _),qA,yI h.s h.o.2.2.1 i3 i4 qb qb,qA];cases (IH (⟨([]:List M.Field)⟩:M.aD) o.Field (i64.wrap ((jA (⟨([]:List M.Field)⟩:M.aD) o.Field).1+1))).2;(exact ⟨_,rfl,rfl,λe=>by cases e⟩);·exact ⟨_,rfl,rfl,λ_=>rfl⟩);·obtain ⟨x,e1,e2⟩:=M1 hf;rw [if_pos qc,e1,qA,e2,sQ i1,qA,A7 i1 qb h.o.2.2.2.2 (bI _),qA,yI h.s h.o.2.2.1 i3 i4 qb qb,qA];cases (IH (kI s o.Key) o.Field (i64.wrap ((jA (kI s o.Key) o.Field).1+1))).2;(exact ⟨_,rfl,rfl,λe=>by cases e⟩);·exact ⟨_,rfl,rfl,λ_=>rfl⟩
theorem La {s:M.aC} {o:M.Op} (h:Uq s o) : ∃x,AD s o=some x/\x.2.2=(nOn s o).2.2/\(x.2.2=true->x=nOn s o):=by
 have hz:=h.z
 have hr:=h.r
 have same : ∀ {m:Option (M.aC×Int×Bool)} {y:M.aC×Int×Bool},m=some y -> ∃x,m=some x/\x.2.2=y.2.2/\(x.2.2=true->x=y):=λe=>⟨_,e,rfl,λ_=>rfl⟩
 unfold AD nOn
 rw [zV h.s,qA,mP s qb,yI h.s h.o.2.2.1 h.o.2.2.2.1 (DA h.n).2.2.2.2 qb qb,F8 h.s h.o.2.2.1 h.o.2.2.2.1 (DA h.n).2.2.2.2 qb qb,C0 h.s h.o.2.2.1 h.o.2.2.1 qb,C0 (g:=(⟨false,false,(⟨0,0,(⟨#[]⟩:ByteArray)⟩:M.Key),(⟨0,0,(⟨#[]⟩:ByteArray)⟩:M.Key)⟩:M.gE)) h.s O3 O3 qb]
 by_cases k1:o.aFU=1
 ·rw [if_pos (by simpa using k1),if_pos k1];exact same rfl
 rw [if_neg (by simpa using k1),if_neg k1]
 by_cases k2:o.aFU=2
 ·rw [if_pos (by simpa using k2),if_pos k2];exact same rfl
 rw [if_neg (by simpa using k2),if_neg k2]
 by_cases k3:o.aFU=3
 ·rw [if_pos (by simpa using k3),if_pos k3];exact same rfl
 rw [if_neg (by simpa using k3),if_neg k3]
 by_cases k4:o.aFU=4
 ·rw [if_pos (by simpa using k4),if_pos k4];by_cases hf:lA (yT o.Key) s.aE7<0;(rw [if_pos (by simpa using hf),if_pos hf];exact same rfl);·obtain ⟨x,e1,e2⟩:=M1 hf;rw [if_neg (by simpa using hf),if_neg hf,qA,e1,qA,e2];exact same rfl
 rw [if_neg (by simpa using k4),if_neg k4]
 by_cases k5:o.aFU=5
 ·rw [if_pos (by simpa using k5),if_pos k5];exact same rfl
 ·rw [if_neg (by simpa using k5),if_neg k5];obtain ⟨x,e1,e2,e3⟩:=Oq h;rw [e1,qA];exact ⟨_,rfl,e2,e3⟩
theorem KU {s:M.aC} {k:M.Key} {r:M.aD} (hs:s.ok) (ht:hJ s=true) (hk:k.ok) (hr:r.ok) (hR:bW r=true):(Cd s k r).1.ok/\M.aC.sz (Cd s k r).1<=10000:=by
 have hz:=pA ht
 refine ⟨MC hs (by simp only [M.aC.sz] at hz;omega) hk hr,?_⟩
 cases e:(Cd s k r).2 with
 | true=>exact pA (Dk hR e)
 | false=>rw [IJ e];exact hz
theorem Uc {s:M.aC} {o:M.Op} (h:Uq s o):(nOn s o).1.ok/\M.aC.sz (nOn s o).1<=10000:=by
 have hz:=h.z
 have hR:=(DA h.n).2.2.2.2
 obtain ⟨i1,i2,i3,i4⟩:=NI h
 have hd : ∀g,(Kx s g).1.ok/\M.aC.sz (Kx s g).1<=10000:=λg=>⟨(P1 h.s).1,Nat.le_trans (P1 h.s).2 hz⟩
 unfold nOn YZ OO
 split
 ·exact KU h.s h.t h.o.2.2.1 h.o.2.2.2.1 hR
 split
 ·split;(exact KU h.s h.t h.o.2.2.1 h.o.2.2.2.1 hR);·exact ⟨h.s,hz⟩
 split
 ·exact hd _
 split
 ·split<;>exact ⟨h.s,hz⟩
 split
 ·exact hd _
 split
 ·exact KU h.s h.t h.o.2.2.1 i3 i4
 ·exact ⟨h.s,hz⟩
theorem JR {d:M.aE5} (h:nDb d=true):(∀(k:Nat) (hk:k<d.aFH.length),hJ d.aFH[k]=true)/\d.Name.size<=8/\d.aFH.length<=4/\d.aFQ.length<=4 /\ ∀u∈d.aFQ,u.Field.size<=8:=by unfold nDb at h;simp only [qM,qL,qQ,qR] at h;obtain ⟨h1,h2,h3,_,h5,h6⟩:=h;refine ⟨λk hk => ?_,?_,h5,h6,λu hu => ?_⟩;(have:=h1 k hk;unfold Ef at this;rw [qF hk,qM,Option.any_some] at this;exact this.1);(unfold mH inR at h3;simp only [qM,qL] at h3;omega);·obtain ⟨k,hk,rfl⟩:=List.getElem_of_mem hu;have:=h2 k hk;unfold EK mH inR at this;rw [qF hk] at this;simp only [Option.any_some,qM,qL] at this;omega
def OT (d:M.aE5) (j:Nat) (s:M.aC):M.aE5:=(⟨d.Name,d.aE3,d.aFH.set j s,d.aFQ⟩:M.aE5)
def P0 (d:M.aE5) (o:M.Op) (j:Nat) (s:M.aC):M.aE5×Int×Bool:=if (nOn s o).2.2=true then (if nDb (OT d j (nOn s o).1)=true then (OT d j (nOn s o).1,(nOn s o).2.1,true) else (d,0,false)) else (d,0,false)
def RM (d:M.aE5) (o:M.Op):M.aE5×Int×Bool:=if (nDb d&&nOp o)=true then (match d.aFH[(lA (B4 o.aC) d.aFH).toNat]? with
 | some s=>if lA (B4 o.aC) d.aFH<0 then (d,0,false) else P0 d o (lA (B4 o.aC) d.aFH).toNat s
 | none=>(d,0,false)) else (d,0,false)
theorem Qb {d:M.aE5} {s:M.aC} {j:Nat} (hd:d.ok) (hs:s.ok):(OT d j s).ok:=⟨hd.Name,hd.aE3,⟨by show (d.aFH.set j s).length<=_;rw [qN];exact hd.aFH.1,λy hy=>by rcases List.mem_or_eq_of_mem_set hy with h | rfl;(exact hd.aFH.2 y h);·exact hs⟩,hd.aFQ⟩
theorem VU {d:M.aE5} {s:M.aC} {j:Nat} (hz:M.aE5.sz d<=1000000) (hs:M.aC.sz s<=10000):M.aE5.sz (OT d j s)<=1048576:=by have:=Ft (f:=M.aC.sz) (x:=s) (l:=d.aFH) (i:=j);simp only [OT,M.aE5.sz,qN] at hz ⊢;omega
theorem NL {d:M.aE5} {o:M.Op} (hd:d.ok) (ho:K6 o) (hz:M.aE5.sz d<=1000000):AS d o=some (RM d o):=by
 unfold AS RM
 rw [Ah d qb,qA,Ca hd,qA,sG hd qb,qA,JY ho,qA]
 cases hD:nDb d with
 | false=>rfl
 | true =>
  cases hO:nOp o with
  | false=>rfl
  | true =>
   rw [if_neg qd,if_neg qd,if_pos (show (true&&true)=true from rfl)]
   by_cases hf:lA (B4 o.aC) d.aFH<0
   ·rw [if_pos (by simpa using hf)];split;(rw [if_pos hf]);·rfl
   ·obtain ⟨j,e,hj⟩:=gD hf
    have ht:=(JR hD).1 j hj
    have hs:=hd.aFH.2 _ (qG hj)
    have hon:Uq d.aFH[j] o:=⟨hs,ho,hO,ht⟩
    obtain ⟨v1,v2⟩:=Uc hon
    rw [if_neg (by simpa using hf),e,qH,qF hj]
    simp only [show ¬((j:Nat):Int)<0 from by omega,if_false]
    rw [aK hj,qA]
    unfold P0
    obtain ⟨x,e1,e2,e3⟩:=La hon
    rw [e1,qA,qA,<-e2]
    cases hx:x.2.2 with
    | false=>rfl
    | true =>
     obtain rfl:=e3 hx
     rw [if_neg qd,if_pos rfl]
     have:=sG (Qb (j:=j) hd v1) (VU hz v2)
     unfold OT at this ⊢
     rw [this,qA]
     cases nDb (⟨d.Name,d.aE3,d.aFH.set j (nOn d.aFH[j] o).1,d.aFQ⟩:M.aE5)<;>rfl
theorem Qu {d:M.aE5} {o:M.Op} (hd:d.ok) (ho:K6 o) (hz:M.aE5.sz d<=1000000):(RM d o).1.ok/\M.aE5.sz (RM d o).1<=M.aE5.sz d+10000:=by unfold RM;split;(rename_i h;rw [qM] at h;by_cases hf:lA (B4 o.aC) d.aFH<0;(split;(rw [if_pos hf];exact ⟨hd,qg⟩);·exact ⟨hd,qg⟩);·obtain ⟨j,e,hj⟩:=gD hf;have hon:Uq d.aFH[j] o:=⟨hd.aFH.2 _ (qG hj),ho,h.2,(JR h.1).1 j hj⟩;obtain ⟨v1,v2⟩:=Uc hon;rw [e,qH,qF hj];simp only [show ¬((j:Nat):Int)<0 from by omega,if_false];unfold P0;split;(split;(refine ⟨Qb hd v1,?_⟩;have:=Ft (f:=M.aC.sz) (x:=(nOn d.aFH[j] o).1) (l:=d.aFH) (i:=j);simp only [OT,M.aE5.sz,qN];omega);·exact ⟨hd,qg⟩);·exact ⟨hd,qg⟩);·exact ⟨hd,qg⟩
theorem WS {d:M.aE5} (h:nDb d=true) (hu : ∀u∈d.aFQ,u.aC.size<=8):M.aE5.sz d<=100000:=by obtain ⟨h1,h2,h3,h4,h5⟩:=JR h;have a1:=dP (w:=M.aC.sz) (b:=10000) (xs:=d.aFH) (λx hx=>by obtain ⟨k,hk,rfl⟩:=List.getElem_of_mem hx;exact pA (h1 k hk));have a2:=dP (w:=M.aN.sz) (b:=16) (xs:=d.aFQ) (λx hx=>by have b1:=h5 x hx;have b2:=hu x hx;simp only [M.aN.sz];omega);simp only [M.aE5.sz];omega
theorem QV {l:List M.aC} {a:ByteArray} (h:0<=lA (B4 a) l) : ∃x∈l,x.Name.toList=a.toList:=by obtain ⟨k,e,hk⟩:=gD (show ¬lA (B4 a) l<0 by omega);obtain ⟨_,hf⟩:=BG e;exact ⟨_,qG hk,by unfold B4 at hf;exact eq_of_beq hf⟩
theorem Pg {d:M.aE5} (h:nDb d=true) : ∀u∈d.aFQ,u.aC.size<=8:=by intro u hu;obtain ⟨h1,_⟩:=JR h;unfold nDb at h;simp only [qM,qL,qQ,qR] at h;obtain ⟨k,hk,rfl⟩:=List.getElem_of_mem hu;have:=h.2.1 k hk;unfold EK at this;rw [qF hk] at this;simp only [Option.any_some,qM,qL] at this;obtain ⟨x,hx,e⟩:=QV this.1;obtain ⟨j,hj,rfl⟩:=List.getElem_of_mem hx;have hn:=(xG (h1 j hj)).2.1;unfold mH inR at hn;simp only [qM,qL] at hn;have:=bsize e;omega
def NX (d0:M.aE5):M.aE5->List Int->List M.Op->M.aE5×List Int×Bool
 | x,ns,[]=>(x,ns,true)
 | x,ns,o::l=>if (RM x o).2.2=true then NX d0 (RM x o).1 (ns++[(RM x o).2.1]) l else (d0,([]:List Int),false)
def D6 (d:M.aE5) (l:List M.Op):M.aE5×List Int×Bool:=if nDb d=true then (if l.length>6 then (d,([]:List Int),false) else NX d d [] l) else (d,([]:List Int),false)
theorem Sj {d0:M.aE5} {l:List M.Op} (h6:l.length<=6) (ho : ∀o∈l,K6 o) (hz0:M.aE5.sz d0<=1000000) : ∀(n k:Nat) (x:M.aE5) (ns:List Int),l.length-k<n->k<=l.length->x.ok->M.aE5.sz x<=900000+10000*k->ns.length=k->tU d0 l n (k:Int) x.Name x.aE3 ns x.aFH x.aFQ=some (NX d0 x ns (l.drop k))
 | 0,_,_,_,h,_,_,_,_=>by omega
 | n+1,k,x,ns,hn,hk,hx,hz,hs=>by
  simp only [tU]
  rcases Nat.lt_or_ge k l.length with hlt | hge
  ·rw [if_pos (aY hlt),aK hlt,qA]
   show ((AS x l[k]).bind _)=_
   have hok:=ho _ (qG hlt)
   obtain ⟨v1,v2⟩:=Qu hx hok qb
   rw [NL hx hok qb,qA,qV hlt]
   simp only [NX]
   cases (RM x l[k]).2.2 with
   | false =>
    rw [if_pos qd,if_neg qd,Ah d0 qb,qA]
   | true =>
    rw [if_neg qd,if_pos rfl,dH qc,qA,bE qb]
    exact Sj h6 ho hz0 n (k+1) _ _ qb hlt v1 (Nat.le_trans v2 qb) (by simp [hs])
  ·have e:k=l.length:=by omega
   subst e
   rw [if_neg qk,qY]
   rfl
theorem Hq {d:M.aE5} {l:List M.Op} (hd:d.ok) (hl:l.length<=1000) (ho : ∀o∈l,K6 o) (hz:M.aE5.sz d<=1048576):xN d l=some (D6 d l):=by
 unfold xN D6
 rw [Ah d qb,qA,sG hd qb,qA]
 cases hD:nDb d with
 | false=>rfl
 | true =>
  have hs:=WS hD (Pg hD)
  rw [if_neg qd,if_pos rfl]
  by_cases h6:l.length>6
  ·rw [if_pos qc,if_pos h6]
  ·rw [if_neg qc,if_neg h6];exact Sj qb ho qb fuel 0 d [] qi qb hd qb rfl
theorem WL {d:M.aE5} {o:M.Op} (h:(RM d o).2.2=true):nDb (RM d o).1=true:=by unfold RM at h ⊢;split at h;(rename_i h1;rw [if_pos h1];split at h;(rename_i s hs;split at h;(cases h);·rename_i h2;rw [if_neg h2];unfold P0 at h ⊢;split at h;(rename_i h3;rw [if_pos h3];split at h;(rename_i h4;rw [if_pos h4];exact h4);·cases h);·cases h);·cases h);·cases h
theorem Oc {d0:M.aE5} (h0:d0.ok) : ∀ {l:List M.Op} {x:M.aE5} {ns:List Int},(∀o∈l,K6 o)->x.ok->nDb x=true->(NX d0 x ns l).1=d0\/((NX d0 x ns l).1.ok/\nDb (NX d0 x ns l).1=true)
 | [],x,ns,_,hx,hb=>.inr ⟨hx,hb⟩
 | o::l,x,ns,ho,hx,hb=>by have hz:=WS hb (Pg hb);simp only [NX];split;(rename_i h;exact Oc h0 (λy hy=>ho y (by simp [hy])) (Qu hx (ho o qd) qb).1 (WL h));·exact .inl rfl
theorem K2 {d:M.aE5} {l:List M.Op} (hd:d.ok) (ho : ∀o∈l,K6 o):(D6 d l).1=d\/((D6 d l).1.ok/\M.aE5.sz (D6 d l).1<=100000):=by unfold D6;split;(rename_i h;split;(exact .inl rfl);·rcases Oc hd ho hd h (ns:=[]) with e | ⟨h1,h2⟩;(exact .inl e);·exact .inr ⟨h1,WS h2 (Pg h2)⟩);·exact .inl rfl
def KJ:M.aE5->Nat->List (List Int)->M.aE5×Int
 | d,i,[]=>(d,(i:Int))
 | d,i,e::l=>if (EY e).2=true then KJ (D6 d (EY e).1).1 (i+1) l else (d,(i:Int))
def Nd (d:M.bV):M.aE5×Int:=KJ d.aFT 0 (Yc d.Log).1
theorem PD {x3:List (List Int)×Int} (hl:x3.1.length<=1048576) (ho : ∀l∈x3.1,okB l/\l.length<=4000) : ∀(n k:Nat) (d:M.aE5),x3.1.length-k<n->k<=x3.1.length->d.ok->M.aE5.sz d<=1048576->pK x3 n (k:Int) d.Name d.aE3 d.aFH d.aFQ=some (KJ d k (x3.1.drop k))
 | 0,_,_,h,_,_,_=>by omega
 | n+1,k,d,hn,hk,hd,hz=>by
  simp only [pK]
  rcases Nat.lt_or_ge k x3.1.length with hlt | hge
  ·obtain ⟨b1,b2⟩:=ho _ (qG hlt)
   obtain ⟨o1,o2⟩:=Mf b1 qb
   rw [if_pos (aY hlt),aK hlt,qA,JH b1 qb,qA,qV hlt]
   simp only [KJ]
   cases (EY x3.1[k]).2 with
   | false=>rfl
   | true =>
    rw [if_neg qd,if_pos rfl]
    show ((xN d (EY x3.1[k]).1).bind _)=_
    rw [Hq hd qb (λo h=>(o2 o h).1) hz,qA,bE qb]
    rcases K2 hd (λo h=>(o2 o h).1) with e | ⟨v1,v2⟩
    ·rw [e];exact PD hl ho n (k+1) d qb hlt hd hz
    ·exact PD hl ho n (k+1) _ qb hlt v1 qb
  ·have e:k=x3.1.length:=by omega
   subst e
   rw [if_neg qk,qY]
   rfl
theorem KY {d:M.bV} (hd:d.ok) (hz:M.bV.sz d<=1048576):zJ d=some (Nd d):=by
 have hz1:M.aE5.sz d.aFT<=1048576:=by simp only [M.bV.sz] at hz;omega
 have hz2:d.Log.length<=1048576:=by simp only [M.bV.sz] at hz;omega
 obtain ⟨g1,g2⟩:=TG hd.Log
 unfold zJ Nd
 rw [Ah d.aFT qb,qA,Lc hd.Log qb,qA]
 exact PD (x3:=Yc d.Log) qb g2 fuel 0 d.aFT qi qb hd.aFT hz1
theorem Ib : ∀ {l:List (List Int)} {d:M.aE5} {i:Nat},(∀e∈l,okB e/\e.length<=4000)->d.ok->M.aE5.sz d<=1048576->(KJ d i l).1.ok/\M.aE5.sz (KJ d i l).1<=1048576
 | [],d,i,_,hd,hz=>⟨hd,hz⟩
 | e::l,d,i,ho,hd,hz=>by obtain ⟨b1,b2⟩:=ho e qd;obtain ⟨o1,o2⟩:=Mf b1 qb;simp only [KJ];split;(rcases K2 hd (λo h=>(o2 o h).1) with e' | ⟨v1,v2⟩;(rw [e'];exact Ib (λx hx=>ho x (by simp [hx])) hd hz);·exact Ib (λx hx=>ho x (by simp [hx])) v1 qb);·exact ⟨hd,hz⟩
theorem Sk {d:M.bV} (hd:d.ok) (hz:M.bV.sz d<=1048576):(Nd d).1.ok/\M.aE5.sz (Nd d).1<=1048576:=Ib (TG hd.Log).2 hd.aFT (by simp only [M.bV.sz] at hz;omega)
def Ur (l:List Int) (i:Int) (b:List Int):List Int:=l++(Lk b++uv (Ws i b).toNat)
def Vd (l:List Int) (i:Int) (b:List Int):List Int×Bool:=if i<0 then (l,false) else if (Ur l i b).length>4000 then (l,false) else (Ur l i b,true)
theorem Xd {l b:List Int} {i:Int}:Ur l i b=(l++Lk b)++uv (Ws i b).toNat:=by unfold Ur;rw [qS]
theorem W2 (i:Int) (b:List Int):0<=Ws i b/\Ws i b<2147483647:=O4 _
theorem En {l b:List Int} {i:Int} (hl:l.length<=1048576) (hb:b.length<=100000):tZ l i b=some (Vd l i b):=by have hs:=W2 i b;have hu:=HX (n:=b.length) qb;have e0:=mS (r:=l++Lk b) (n:=(Ws i b).toNat) (by unfold Lk;simp only [qE];omega) qb;rw [Int.toNat_of_nonneg hs.1,<-Xd] at e0;unfold tZ Vd;rw [EC qb qb,qA,pL qb qb,qA,Fg qb,qA];show ((bP (l++Lk b) (Ws i b)).bind _)=_;rw [e0,qA];by_cases hi:i<0;(rw [if_pos (by simpa using hi),if_pos hi]);·rw [if_neg (by simpa using hi),if_neg hi];by_cases h4:(Ur l i b).length>4000;(rw [if_pos qc,if_pos h4]);·rw [if_neg qc,if_neg h4]
def Zq (d:M.bV) (l:List M.Op):Bool:=(D6 (Nd d).1 l).2.2&&((List.length (EV l):Int) != 0&&(((Nd d).2==d.aFk)&&(Vd d.Log d.aFk (EV l)).2))
def Iz (d:M.bV) (l:List M.Op):M.bV×Bool:=if Zq d l=true then ((⟨d.aFT,(Vd d.Log d.aFk (EV l)).1,i64.wrap (d.aFk+1)⟩:M.bV),true) else (d,false)
theorem TF (l:List M.Op):(EV l).length<=2000:=by unfold EV;split;(rename_i h;rw [qM,qL,qQ] at h;have h1:=MX (f:=enO) (λo hx=>Ps (h.1 o hx));have h9:=HX (n:=l.length) qb;rw [qE];omega);·simp
theorem Iu {d:M.bV} {l:List M.Op} (hd:d.ok) (hz:M.bV.sz d<=1048576) (hl:l.length<=1000) (ho : ∀o∈l,K6 o):nK d l=some (Iz d l):=by
 have hz2:d.Log.length<=1048576:=by simp only [M.bV.sz] at hz;omega
 have he:=TF l
 obtain ⟨v1,v2⟩:=Sk hd hz
 unfold nK Iz Zq
 rw [FX d qb,qA,KY hd hz,qA,Hq v1 hl ho v2,qA,Ew hl ho,qA,En hz2 qb,qA]
 unfold bne
 generalize (D6 (Nd d).1 l).2.2=a1
 generalize ((List.length (EV l):Int)==0)=a2
 generalize ((Nd d).2==d.aFk)=a3
 cases a1<;>cases a2<;>cases a3<;>cases (Vd d.Log d.aFk (EV l)).2<;>rfl
theorem LP {d:M.bV} {l:List M.Op} (hd:d.ok):(Iz d l).1.ok/\M.bV.sz (Iz d l).1<=M.bV.sz d+4000/\(Iz d l).1.aFT=d.aFT:=by unfold Iz;split;(rename_i h;unfold Zq at h;simp only [qM] at h;have h4:=h.2.2.2;unfold Vd at h4 ⊢;split at h4;(cases h4);·rename_i hi;rw [if_neg hi];split at h4;(cases h4);·rename_i hl;rw [if_neg hl];refine ⟨⟨hd.aFT,⟨Nat.le_trans (by omega:(Ur d.Log d.aFk (EV l)).length<=4000) qj,λy hy => ?_⟩,bI _⟩,?_,rfl⟩;(have hy':y∈Ur d.Log d.aFk (EV l):=hy;unfold Ur at hy';simp only [qP] at hy';rcases hy' with h | h | h;(exact hd.Log.2 y h);(exact DX (Qx l).2 y h);·exact Ge _ y h);·simp only [M.bV.sz];omega);·exact ⟨hd,qg,rfl⟩
theorem Er {s:M.aE} {v:Int} (hs:s.ok):uJ s v=some (lA (λc:M.aFE=>c.aE3==v) s.aE6):=by have hm:=le_max hs.aE6.1;unfold uJ;rw [findAll (L:=kO s v) (f:=λc:M.aFE=>c.aE3==v) (A:=λi=>some (i:Int)) (E:=some (-1)) hs.aE6.1 (λm k hk => ?_) (λm => ?_),rN];(simp only [kO];rw [if_pos (aY hk),aK hk,qA,bE qb]);·simp only [kO];rw [if_neg qk]
theorem Jv {s:M.aE} {v:Int} (hs:s.ok):yE s v=some (lA (λc:M.aFE=>c.aE3==v) s.aE6):=by unfold yE;rw [Iq (f:=λc:M.aFE=>c.aE3==v) hs.aE6.1 (λx _=>by simp only [uR]),qA]
def E2 (a b:ByteArray) (x:M.aFL):Bool:=(x.aFD.toList==a.toList)&&(x.aFo.toList==b.toList)
theorem Gd {c:M.aFE} {a b:ByteArray} (hc:c.ok):yH c a b=some (lA (E2 a b) c.aFK):=by have hm:=le_max hc.aFK.1;unfold yH;rw [findAll (L:=lP c a b) (f:=E2 a b) (A:=λi=>some (i:Int)) (E:=some (-1)) hc.aFK.1 (λm k hk => ?_) (λm => ?_),rN];(simp only [lP];rw [if_pos (aY hk),aK hk,qA,bE qb,Vq];rfl);·simp only [lP];rw [if_neg qk]
theorem LD {c:M.aFE} {a b:ByteArray} (hc:c.ok):oK c a b=some (lA (E2 a b) c.aFK):=by unfold oK;rw [CZ (f:=E2 a b) hc.aFK.1 (λx _=>by simp only [tV,aZ];rfl),qA]
def JI (s:M.aE) (v:Int):Nat:=(s.aE6.takeWhile λc=>decide (c.aE3<v)).length
def CQ (s:M.aE) (v:Int) (k:Nat):List M.aFE:=s.aE6.take k++((⟨v,([]:List M.aFL)⟩:M.aFE)::s.aE6.drop k)
def F5 (s:M.aE) (v:Int):M.aE×Bool:=if (kC s&&kC (⟨CQ s v (JI s v)⟩:M.aE))=true then ((⟨CQ s v (JI s v)⟩:M.aE),true) else (s,false)
theorem Nk {s:M.aE} {v:Int} (hs:s.ok) (hv:inI v) (hl:s.aE6.length<=1073741824) (k:Nat):M.aE.ok (⟨CQ s v k⟩:M.aE):=by refine ⟨⟨?_,λx hx => ?_⟩⟩;(show (CQ s v k).length<=maxLen;unfold CQ maxLen;simp only [qE,qJ,qT,qU];omega);·have hx:x∈CQ s v k:=hx;unfold CQ at hx;rcases List.mem_append.1 hx with hx | hx;(exact hs.aE6.2 x (List.mem_of_mem_take hx));·rcases List.mem_cons.1 hx with rfl | hx;(exact ⟨hv,⟨by simp [maxLen],qd⟩⟩);·exact hs.aE6.2 x (List.mem_of_mem_drop hx)
def L5 (s:M.aE) (v:Int) (k:Nat):Option (M.aE×Bool):=(cE s).bind λa=>if (!a)=true then ((dC s).bind λy=>some (y,false)) else ((cE (⟨CQ s v k⟩:M.aE)).bind λb=>if (!b)=true then ((dC s).bind λy=>some (y,false)) else some ((⟨CQ s v k⟩:M.aE),true))
theorem JG {s:M.aE} {v:Int} (hs:s.ok) (hv:inI v) (hz:M.aE.sz s<=1073741824):nC s v=some (F5 s v):=by
 have hl:s.aE6.length<=1073741824:=by simp only [M.aE.sz] at hz;omega
 have hm:=le_max hs.aE6.1
 unfold nC
 rw [BT s hz,qA,MZ (l:=s.aE6) (f:=λc:M.aFE=>decide (c.aE3<v)) (L:=kZ s v s) (S:=L5 s v) hs.aE6.1 (λn k hk => ?_) (λn => ?_)]
 ·unfold L5 F5;rw [oF hs,qA,oF (Nk hs hv hl _),qA,BT s hz,qA];show _=some (if (kC s&&kC (⟨CQ s v (JI s v)⟩:M.aE))=true then _ else _);unfold JI;generalize kC (⟨CQ s v (List.takeWhile (λc:M.aFE=>decide (c.aE3<v)) s.aE6).length⟩:M.aE)=b;cases kC s<;>cases b<;>rfl
 ·simp only [kZ];rw [if_pos (aY hk),aK hk,qA,bE qb];by_cases h:s.aE6[k].aE3<v;(rw [if_pos (by simpa using h),if_pos (by simpa using h)]);·rw [if_neg (by simpa using h),if_neg (by simpa using h)];rw [Cb qb,qA,qH,dH qt,qA,dH qq,qA,dH qm,qA,qS];rfl
 ·simp only [kZ];rw [if_neg qk];rw [Cb (Nat.le_refl _),qA,qH,dH qt,qA,dH qq,qA,dH qm,qA,qS];rfl
theorem Tq {s:M.aE} {v:Int} (hs:s.ok) (hv:inI v) (hz:M.aE.sz s<=1073741824):M.aE.ok (F5 s v).1:=by
 have hl:s.aE6.length<=1073741824:=by simp only [M.aE.sz] at hz;omega
 unfold F5
 split
 ·exact Nk hs hv hl _
 ·exact hs
theorem Rf {s:M.aE} {v:Int} (h:(F5 s v).2=true):kC (F5 s v).1=true:=by unfold F5 at h ⊢;split at h;(rename_i h1;rw [if_pos h1];exact (Bool.and_eq_true_iff.1 h1).2);·cases h
def I7 (c:M.aFE) (a p:ByteArray) (x:M.aE9):M.aFE:=(⟨c.aE3,if lA (E2 a p) c.aFK>=0 then c.aFK.set (lA (E2 a p) c.aFK).toNat (⟨a,p,x⟩:M.aFL) else c.aFK++[(⟨a,p,x⟩:M.aFL)]⟩:M.aFE)
def L4 (s:M.aE) (v:Int) (a p:ByteArray) (x:M.aE9):List M.aFE:=match s.aE6[(lA (λc:M.aFE=>c.aE3==v) s.aE6).toNat]? with
 | some c=>s.aE6.set (lA (λc:M.aFE=>c.aE3==v) s.aE6).toNat (I7 c a p x)
 | none=>s.aE6
def Lf (s:M.aE) (v:Int) (a p:ByteArray) (x:M.aE9):M.aE×Bool:=if lA (λc:M.aFE=>c.aE3==v) s.aE6<0 then (s,false) else (if (kC s&&kC (⟨L4 s v a p x⟩:M.aE))=true then ((⟨L4 s v a p x⟩:M.aE),true) else (s,false))
theorem RV {c:M.aFE} {a p:ByteArray} {x:M.aE9} (hc:c.ok) (hl:c.aFK.length<=1073741824) (ha:a.size<=maxLen) (hp:p.size<=maxLen) (hx:x.ok):M.aFE.ok (I7 c a p x):=by unfold I7;refine ⟨hc.aE3,?_⟩;dsimp only;split;(refine ⟨by rw [qN];exact hc.aFK.1,λy hy => ?_⟩;rcases List.mem_or_eq_of_mem_set hy with hy | rfl;(exact hc.aFK.2 y hy);·exact ⟨ha,hp,hx⟩);·refine ⟨by simp only [qE,qJ,qK];unfold maxLen;omega,λy hy => ?_⟩;rcases List.mem_append.1 hy with hy | hy;(exact hc.aFK.2 y hy);·rw [List.mem_singleton.1 hy];exact ⟨ha,hp,hx⟩
theorem Nw {s:M.aE} {v:Int} {a p:ByteArray} {x:M.aE9} (hs:s.ok) (hz:M.aE.sz s<=1073741824) (ha:a.size<=maxLen) (hp:p.size<=maxLen) (hx:x.ok):M.aE.ok (⟨L4 s v a p x⟩:M.aE):=by unfold L4;split;(rename_i c hc;refine ⟨⟨by show List.length (List.set _ _ _)<=_;rw [qN];exact hs.aE6.1,λy hy => ?_⟩⟩;have hcm:=List.mem_of_getElem? hc;have z:=dV (f:=M.aFE.sz) hcm;rcases List.mem_or_eq_of_mem_set hy with hy | rfl;(exact hs.aE6.2 y hy);·exact RV (hs.aE6.2 c hcm) (by simp only [M.aE.sz] at hz;simp only [M.aFE.sz] at z;omega) ha hp hx);·exact hs
theorem Ty {s:M.aE} {v:Int} {a p:ByteArray} {x:M.aE9} {j:Nat} (ej:lA (λc:M.aFE=>c.aE3==v) s.aE6=(j:Int)) (hj:j<s.aE6.length):L4 s v a p x=s.aE6.set j (I7 s.aE6[j] a p x):=by unfold L4;rw [ej,qH,qF hj]
theorem SM {c:M.aFE} {a p:ByteArray} {x:M.aE9} {i:Nat} (ei:lA (E2 a p) c.aFK=(i:Int)):I7 c a p x=(⟨c.aE3,c.aFK.set i (⟨a,p,x⟩:M.aFL)⟩:M.aFE):=by unfold I7;rw [ei,if_pos qb,qH]
theorem RK {c:M.aFE} {a p:ByteArray} {x:M.aE9} (h : ¬lA (E2 a p) c.aFK>=0):I7 c a p x=(⟨c.aE3,c.aFK++[(⟨a,p,x⟩:M.aFL)]⟩:M.aFE):=by unfold I7;rw [if_neg h]
theorem FN {s:M.aE} {v:Int} {a p:ByteArray} {x:M.aE9} (hs:s.ok) (hz:M.aE.sz s<=1073741824) (ha:a.size<=maxLen) (hp:p.size<=maxLen) (hx:x.ok) (zx:M.aE9.sz x<=1073741824):mT s v a p x=some (Lf s v a p x):=by
 have hout:=Nw (v:=v) (a:=a) (p:=p) (x:=x) hs hz ha hp hx
 unfold mT Lf
 rw [BT s hz,qA,Er hs,qA]
 by_cases h:lA (λc:M.aFE=>c.aE3==v) s.aE6<0
 ·rw [if_pos (by simpa using h),if_pos h]
 ·rw [if_neg (by simpa using h),if_neg h]
  obtain ⟨j,ej,hj⟩:=gD h
  rw [Ty ej hj] at hout ⊢
  have hc:=hs.aE6.2 _ (qG hj)
  have z1:=dV (f:=M.aFE.sz) (qG hj)
  have hl:s.aE6[j].aFK.length<=1073741824:=by simp only [M.aE.sz] at hz;simp only [M.aFE.sz] at z1;omega
  rw [Gb x zx,qA,ej,aK hj,qA,Gd hc,qA,qH]
  by_cases h2:lA (E2 a p) s.aE6[j].aFK>=0
  ·obtain ⟨i,ei,hi⟩:=gD (f:=E2 a p) (xs:=s.aE6[j].aFK) qb;rw [SM ei] at hout ⊢;rw [if_pos (by simpa using h2),ei,aK hi,qA,qH,oF hs,qA,oF hout,qA];generalize kC (⟨s.aE6.set j _⟩:M.aE)=b;cases kC s<;>cases b<;>rfl
  ·rw [RK h2] at hout ⊢;rw [if_neg (by simpa using h2),dH qs,qA,oF hs,qA,oF hout,qA];generalize kC (⟨s.aE6.set j _⟩:M.aE)=b;cases kC s<;>cases b<;>rfl
theorem R7 {s:M.aE} {v:Int} {a p:ByteArray} {x:M.aE9} (h:(Lf s v a p x).2=true):kC (Lf s v a p x).1=true:=by unfold Lf at h ⊢;split at h;(cases h);·rename_i h0;rw [if_neg h0];split at h;(rename_i h1;rw [if_pos h1];exact (Bool.and_eq_true_iff.1 h1).2);·cases h
theorem Vv {s:M.aE} {v:Int} {a p:ByteArray} {x:M.aE9} (hs:s.ok) (hz:M.aE.sz s<=1073741824) (ha:a.size<=maxLen) (hp:p.size<=maxLen) (hx:x.ok):M.aE.ok (Lf s v a p x).1:=by unfold Lf;split;(exact hs);·split;(exact Nw hs hz ha hp hx);·exact hs
theorem Wy {x a b:Int} (h:inR x a b=true):a<=x/\x<=b:=by unfold inR at h;simpa using h
end Go.Proofs.YtipmihbgjolaaaaGreat.gen
