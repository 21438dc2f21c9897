/-
  Helper text. No conditions.
-/
import Derived.Test.YtipmihbgjolaaaaGreatCompleteCachesPd3
set_option linter.unusedVariables false
set_option linter.unusedSimpArgs false
namespace Go.Proofs.YtipmihbgjolaaaaGreat.gen
open Go Go.Sh
open Go.IntKind (i64)
def gR9 (b:List Int) (p c1 c2 c3:Int):=nRb b (gK9 b p c1 c2).2.1 c3
def gF9 (b:List Int) (p c1 c2 c3 c4:Int):=nRb b (gR9 b p c1 c2 c3).2.1 c4
def op9 (b:List Int) (p c1 c2 c3 c4:Int):Option (M.Op×Int):=if (nUv b p).2.2=true then (if (gS9 b p c1).2.2=true then (if (gK9 b p c1 c2).2.2=true then (if (gR9 b p c1 c2 c3).2.2=true then (if (gF9 b p c1 c2 c3 c4).2.2=true then some ((⟨(nUv b p).1,dH (gS9 b p c1).1,(Tv (gK9 b p c1 c2).1).1,(SA (gR9 b p c1 c2 c3).1).1,dH (gF9 b p c1 c2 c3 c4).1⟩:M.Op),(gF9 b p c1 c2 c3 c4).2.1) else none) else none) else none) else none) else none
def Nq (b:List Int) (c1 c2 c3 c4:Int):Nat->Int->List M.Op->Option (List M.Op)
 | 0,_,acc=>some acc
 | j+1,p,acc=>match op9 b p c1 c2 c3 c4 with
  | none=>none
  | some (o,q)=>Nq b c1 c2 c3 c4 j q (acc++[o])
def aAY (b:List Int) (o:Option (List M.Op)):List M.Op×Bool:=match o with
 | none=>(([]:List M.Op),false)
 | some l=>if eqL xA (FC l) b=true then (l,true) else (([]:List M.Op),false)
def WT (b:List Int) (c1 c2 c3 c4:Int):List M.Op×Bool:=if (nUv b 0).2.2=true then (if (nUv b 0).1>6 then (([]:List M.Op),false) else aAY b (Nq b c1 c2 c3 c4 (nUv b 0).1.toNat (nUv b 0).2.1 [])) else (([]:List M.Op),false)
theorem YT {b:List Int} {p:Int} (hb:okB b) (hl:b.length<=1048576):inI (nUv b p).2.1:=by
 cases h:(nUv b p).2.2 with
 | false=>rw [ZV h];exact wU
 | true =>
  obtain ⟨a,m,e,u1,u2,u3,u4,_⟩:=DL hb h
  rw [u1]
  exact Jw u4 hl
theorem Nu {b:List Int} {p c:Int} (hb:okB b) (hl:b.length<=1048576):inI (nRb b p c).2.1:=by
 cases h:(nRb b p c).2.2 with
 | false=>rw [Z7 h];exact wU
 | true =>
  obtain ⟨s,a,e,r1,r2,r3,r4,_⟩:=II hb h
  rw [r1]
  exact Jw r4 hl
theorem DB {b:List Int} {p c:Int} (hb:okB b) (hl:b.length<=1048576) (h:(nRb b p c).2.2=true):okB (nRb b p c).1/\(nRb b p c).1.length<=b.length:=by obtain ⟨s,a,e,r1,r2,r3,r4,r5,r6,r7,r8⟩:=II hb h;rw [r1];exact ⟨r8,qg⟩
theorem XR {c n:Int} {t:List Int} (h:M.Key.ok (⟨c,n,dH t⟩:M.Key)):(mkK c n t).1.ok:=by unfold mkK;split;(exact h);·exact ⟨wU,wU,sz0⟩
theorem WZ {b:List Int} (hb:okB b):(Tv b).1.ok:=by
 have z:Uk.ok:=⟨wU,wU,sz0⟩
 unfold Tv
 split
 ·exact z
 ·rename_i c t
  have hc:=hb.2 c qd
  have ht : ∀x∈t,0<=x/\x<=255:=λx hx=>hb.2 x (by simp [hx])
  have hlt:t.length<=maxLen:=by have:=hb.1;rw [qJ] at this;omega
  split
  ·rename_i h2;exact XR (QP hc qb hlt)
  ·split
   ·exact z
   ·obtain ⟨w,e,hw⟩:=aBA (t:=t.take 6) (λx hx=>ht x (List.mem_of_mem_take hx)) 0 0 qe
    have h6:0+8*(List.take 6 t).length<=48:=by rw [qT];omega
    have h7:(2:Int)^(0+8*(List.take 6 t).length)<=2^48:=by have:=Nat.pow_le_pow_right (n:=2) qe h6;exact_mod_cast this
    have e':(List.take 6 t).foldl Zy 0=(w:Int):=e
    rw [e']
    refine XR (QP hc qb (Nat.le_trans (by rw [qU];omega) hlt))
theorem XG {b:List Int} {p c1 c2 c3 c4 q:Int} {o:M.Op} (hb:okB b) (hl:b.length<=1048576) (h:op9 b p c1 c2 c3 c4=some (o,q)):LG o/\inI q:=by unfold op9 at h;split at h;(rename_i h1;split at h;(rename_i h2;split at h;(rename_i h3;split at h;(rename_i h4;split at h;(rename_i h5;simp only [qa,qZ] at h;obtain ⟨a,m,e,u1,u2,u3,_⟩:=DL hb h1;have p2:=DB hb hl h2;have p3:=DB hb hl h3;have p4:=DB hb hl h4;have p5:=DB hb hl h5;rw [<-h.1,<-h.2];refine ⟨⟨?_,?_,WZ p3.1,(Wf p4.1).1,?_⟩,Nu hb hl⟩;(show inI (nUv b p).1;rw [u1];unfold inI;dsimp only;omega);(show (dH _).size<=_;rw [CW];exact p2.1.1);·show (dH _).size<=_;rw [CW];exact p5.1.1);·cases h);·cases h);·cases h);·cases h);·cases h
theorem NS {b:List Int} {p:Int} (hb:okB b) (hl:b.length<=1048576) (hp:inI p):Bu b p=some (match op9 b p 100 100 200 100 with
  | none=>((⟨0,(⟨#[]⟩:ByteArray),(⟨0,0,(⟨#[]⟩:ByteArray)⟩:M.Key),(⟨([]:List M.Field)⟩:M.aE),(⟨#[]⟩:ByteArray)⟩:M.Op),0,false)
  | some (o,q)=>(o,q,true)):=by
 unfold Bu op9
 rw [rJ hb hl hp,qA,uO hb hl (YT hb hl),qA]
 show (dX b (gS9 b p 100).2.1 100).bind _=_
 rw [uO hb hl (show inI (gS9 b p 100).2.1 from Nu hb hl),qA]
 show (dX b (gK9 b p 100 100).2.1 200).bind _=_
 rw [uO hb hl (show inI (gK9 b p 100 100).2.1 from Nu hb hl),qA]
 show (dX b (gR9 b p 100 100 200).2.1 100).bind _=_
 rw [uO hb hl (show inI (gR9 b p 100 100 200).2.1 from Nu hb hl),qA]
 change (if (!(nUv b p).2.2)=true then _ else if (!(gS9 b p 100).2.2)=true then _ else if (!(gK9 b p 100 100).2.2)=true then _ else if (!(gR9 b p 100 100 200).2.2)=true then _ else if (!(gF9 b p 100 100 200 100).2.2)=true then _ else (toStr (gS9 b p 100).1).bind λaf=>((toStr (gF9 b p 100 100 200 100).1).bind λah=>((uQ (gK9 b p 100 100).1).bind λaa=>((oZ (gR9 b p 100 100 200).1).bind λae=>some ((⟨(nUv b p).1,dH (gS9 b p 100).1,aa.1,ae.1,dH (gF9 b p 100 100 200 100).1⟩:M.Op),(gF9 b p 100 100 200 100).2.1,true)))))=_
 cases h1:(nUv b p).2.2 with
 | false=>rfl
 | true =>
  cases h2:(gS9 b p 100).2.2 with
  | false=>rfl
  | true =>
   cases h3:(gK9 b p 100 100).2.2 with
   | false=>rfl
   | true =>
    cases h4:(gR9 b p 100 100 200).2.2 with
    | false=>rfl
    | true =>
     cases h5:(gF9 b p 100 100 200 100).2.2 with
     | false=>rfl
     | true =>
      have p2:okB (gS9 b p 100).1/\(gS9 b p 100).1.length<=b.length:=DB hb hl h2
      have p3:okB (gK9 b p 100 100).1/\(gK9 b p 100 100).1.length<=b.length:=DB hb hl h3
      have p4:okB (gR9 b p 100 100 200).1/\(gR9 b p 100 100 200).1.length<=b.length:=DB hb hl h4
      have p5:okB (gF9 b p 100 100 200 100).1/\(gF9 b p 100 100 200 100).1.length<=b.length:=DB hb hl h5
      simp only [qB,qD,if_false,if_true]
      rw [EI p2.1.2,qA,EI p5.1.2,qA,J5 p3.1 qb,qA,G7 p4.1 qb,qA]
theorem doS {b:List Int} {x1:Int×Int×Bool} {N:Nat} (hb:okB b) (hl:b.length<=1048576) (hN:N<=6) (hx:x1.1=(N:Int)) : ∀(j k m:Nat) (p:Int) (acc:List M.Op),k+j=N->j<m->inI p->acc.length=k->(∀x∈acc,LG x)->lK b x1 m p (k:Int) acc=some (aAY b (Nq b 100 100 200 100 j p acc))
 | _,_,0,_,_,_,h,_,_,_=>by omega
 | 0,k,m+1,p,acc,hk,_,hp,ha,ho=>by simp only [lK,Nq,aAY];rw [hx,if_neg qc,E3 qb ho,qA,D0 (Rs _) hb,qA];cases eqL xA (FC acc) b<;>rfl
 | j+1,k,m+1,p,acc,hk,hm,hp,ha,ho=>by
  simp only [lK,Nq]
  rw [hx,if_pos qc,NS hb hl hp,qA]
  cases h:op9 b p 100 100 200 100 with
  | none=>rfl
  | some x =>
   obtain ⟨o,q⟩:=x
   obtain ⟨k1,k2⟩:=XG hb hl h
   simp only [qB,qD,if_false]
   rw [dN qc,qA,bD qb]
   refine doS hb hl hN hx j (k+1) m q _ qb qb k2 (by simp [ha]) (λy hy => ?_)
   rcases List.mem_append.1 hy with hy | hy
   ·exact ho y hy
   ·rw [List.mem_singleton.1 hy];exact k1
theorem Jq {b:List Int} (hb:okB b) (hl:b.length<=1048576):uP b=some (WT b 100 100 200 100):=by
 unfold uP WT
 rw [rJ hb hl wU,qA]
 cases h:(nUv b 0).2.2 with
 | false=>rfl
 | true =>
  obtain ⟨a,m,e,u1,u2,u3,u4,u5,u6⟩:=DL hb h
  rw [u1]
  simp only [qB,qD,if_false,if_true]
  by_cases h6:(m:Int)>6
  ·rw [if_pos (by simpa using h6),if_pos h6]
  ·rw [if_neg (by simpa using h6),if_neg h6,qH];exact doS (x1:=((m:Int),(e:Int),true)) hb hl (N:=m) qb rfl m 0 fuel (e:Int) [] qb qi (Jw u4 hl) rfl (λ_ h=>absurd h qd)
theorem VI {l:List M.Op} {b:List Int} (h:FC l=b) (hb:b≠[]):b=uv l.length++N2 enO l/\(∀o∈l,nOp o=true)/\l.length<=6:=by unfold FC at h;split at h;(rename_i h1;rw [qM,qL,qQ] at h1;exact ⟨h.symm,h1.1,h1.2⟩);·exact absurd h.symm hb
def FE (b:List Int):List M.Op×Bool:=WT b 100 100 200 100
theorem Kh {b:List Int} (hb:okB b) (hl:b.length<=1048576):uP b=some (FE b):=Jq hb hl
theorem Re {b:List Int} {c1 c2 c3 c4:Int} (hb:okB b) (hl:b.length<=1048576) : ∀(j:Nat) (p:Int) (acc l:List M.Op),Nq b c1 c2 c3 c4 j p acc=some l->(∀x∈acc,LG x)->(∀x∈l,LG x)
 | 0,_,_,_,h,ho=>by simp only [Nq,qa] at h;rw [<-h];exact ho
 | j+1,p,acc,l,h,ho=>by
  simp only [Nq] at h
  cases e:op9 b p c1 c2 c3 c4 with
  | none=>rw [e] at h;cases h
  | some x =>
   obtain ⟨o,q⟩:=x
   rw [e] at h
   refine Re hb hl j q _ l h (λy hy => ?_)
   rcases List.mem_append.1 hy with hy | hy
   ·exact ho y hy
   ·rw [List.mem_singleton.1 hy];exact (XG hb hl e).1
theorem MR {b:List Int} (hb:okB b) (hl:b.length<=1048576):(FE b).1.length<=6 /\ ∀o∈(FE b).1,LG o/\nOp o=true:=by
 have z:([]:List M.Op).length<=6 /\ ∀o∈([]:List M.Op),LG o/\nOp o=true:=⟨qd,λ_ h=>absurd h qd⟩
 unfold FE WT
 split
 ·rename_i h
  obtain ⟨a,m,e,u1,u2,u3,u4,u5,u6⟩:=DL hb h
  obtain rfl:a=0:=by omega
  rw [List.drop_zero] at u6
  have hne:b≠[]:=λh0=>by have:=congrArg List.length u6;have h2:=RD m;rw [h0] at this;simp at this;omega
  rw [u1]
  dsimp only
  split
  ·exact z
  ·cases hr:Nq b 100 100 200 100 (m:Int).toNat (e:Int) [] with
   | none=>exact z
   | some l =>
    simp only [aAY]
    split
    ·rename_i he;rw [UX] at he;obtain ⟨b1,b2,b3⟩:=VI he hne;exact ⟨b3,λo ho=>⟨Re hb hl _ _ _ l hr (λ_ h=>absurd h qd) o ho,b2 o ho⟩⟩
    ·exact z
 ·exact z
theorem FU {i:Int} {l:List Int} (hl:l.length<=1048576):xB i l=some (Gs ([101,i]++([(List.length l:Int)]++l.map i64.wrap))):=by unfold xB;rw [Dy hl,qA,dN qc,qA,KZ (by simp [maxLen];omega),qA]
def XO (i:Int) (l:List Int):Int:=Gs ([101,i]++([(List.length l:Int)]++l.map i64.wrap))
def O1 (b:List Int):Nat->Int->List (List Int)->List (List Int)×Int
 | 0,p,acc=>(acc,p)
 | j+1,p,acc=>if (nRb b p 4000).2.2=true then (if (nUv b (nRb b p 4000).2.1).2.2=true then (if ((nUv b (nRb b p 4000).2.1).1 != XO (acc.length:Int) (nRb b p 4000).1)=true then (acc,p) else O1 b j (nUv b (nRb b p 4000).2.1).2.1 (acc++[(nRb b p 4000).1])) else (acc,p)) else (acc,p)
def Zx (b:List Int):List (List Int)×Int:=O1 b (b.length+1) 0 []
theorem YC {b:List Int}:nUv b (b.length:Int)=(0,0,false):=by unfold nUv;rw [if_neg qb,qH];unfold UO;rw [qX qb]
theorem Tc {b:List Int} (hb:okB b) (hl:b.length<=1048576) : ∀(j m a:Nat) (acc:List (List Int)),b.length-a<j->j<=m->a<=b.length->acc.length<=a->tK b m (a:Int) acc=some (O1 b j (a:Int) acc)
 | 0,_,_,_,h,_,_,_=>by omega
 | _+1,0,_,_,_,h,_,_=>by omega
 | j+1,m+1,a,acc,hj,hm,ha,hc=>by
  simp only [tK,O1]
  by_cases hlt:a<b.length
  case neg =>
   obtain rfl:a=b.length:=by omega
   rw [if_neg qd]
   have:(nRb b (b.length:Int) 4000).2.2=false:=by unfold nRb;rw [YC];rfl
   rw [this]
   rfl
  rw [if_pos qc,uO hb hl (Jw ha hl),qA]
  cases h1:(nRb b (a:Int) 4000).2.2 with
  | false=>rfl
  | true =>
   obtain ⟨s,a1,e1,r1,r2,r3,r4,r5,r6,r7,r8⟩:=II hb h1
   obtain rfl:a=a1:=by omega
   rw [r1]
   simp only [qB,qD,if_false,if_true]
   rw [rJ hb hl (Jw r4 hl),qA]
   cases h2:(nUv b (e1:Int)).2.2 with
   | false=>rfl
   | true =>
    obtain ⟨a2,v,e2,u1,u2,u3,u4,u5,u6⟩:=DL hb h2
    obtain rfl:e1=a2:=by omega
    have g1:=RD s.length
    have g2:=RD v
    rw [u1]
    simp only [qB,qD,if_false,if_true]
    rw [FU qb,qA]
    show (if ((v:Int) != XO (acc.length:Int) s)=true then _ else _)=_
    split
    ·rfl
    ·rw [dN qc,qA];exact Tc hb hl j m e2 _ qb qb u4 qc
theorem LO {b:List Int} (hb:okB b) (hl:b.length<=1048576):AT b=some (Zx b):=by unfold AT Zx;exact Tc hb hl (b.length+1) fuel 0 [] qb qi qb qd
theorem RN {b:List Int} (hb:okB b) : ∀(j a:Nat) (acc:List (List Int)),a<=b.length->acc.length<=a->(∀l∈acc,okB l/\l.length<=4000)->(O1 b j (a:Int) acc).1.length<=b.length /\ ∀l∈(O1 b j (a:Int) acc).1,okB l/\l.length<=4000
 | 0,a,acc,ha,hc,h=>⟨by simp only [O1];omega,h⟩
 | j+1,a,acc,ha,hc,h=>by
  simp only [O1]
  split
  ·rename_i h1
   obtain ⟨s,a1,e1,r1,r2,r3,r4,r5,r6,r7,r8⟩:=II hb h1
   obtain rfl:a=a1:=by omega
   rw [r1]
   dsimp only
   split
   ·rename_i h2
    obtain ⟨a2,v,e2,u1,u2,u3,u4,u5,u6⟩:=DL hb h2
    obtain rfl:e1=a2:=by omega
    have g1:=RD s.length
    rw [u1]
    dsimp only
    split
    ·exact ⟨qg,h⟩
    ·refine RN hb j e2 _ u4 qc (λl hl => ?_);rcases List.mem_append.1 hl with hl | hl;(exact h l hl);·rw [List.mem_singleton.1 hl];exact ⟨r8,qb⟩
   ·exact ⟨qg,h⟩
  ·exact ⟨qg,h⟩
theorem UI {b:List Int} (hb:okB b):(Zx b).1.length<=b.length /\ ∀l∈(Zx b).1,okB l/\l.length<=4000:=RN hb (b.length+1) 0 [] qb qd (λ_ h=>absurd h qd)
theorem Mn {α:Type} {f:α->Nat} (q:α->Bool) : ∀(l:List α),cX f (l.filter q)<=cX f l
 | []=>Nat.le_refl _
 | x::l=>by have h:=Mn (f:=f) q l;rw [List.filter_cons];split;(simp only [cX];omega);·simp only [cX];omega
def Cj (k:M.Key) (g:M.gK):Bool:=CN k&&((!g.aHe||CN g.Low)&&((!g.aHU||CN g.aHZ)&&((!g.aHe||decide (dC g.Low k<=0))&&(!g.aHU||decide (dC k g.aHZ<=0)))))
theorem JQ {k:M.Key} {g:M.gK} (hk:k.ok) (hl:g.Low.ok) (hh:g.aHZ.ok):yT k g=some (Cj k g):=by unfold yT Cj;simp only [mI hk,mI hl,mI hh,wG hl hk,wG hk hh,qA];generalize decide (dC g.Low k<=0)=a1;generalize decide (dC k g.aHZ<=0)=a2;generalize g.aHe=a3;generalize g.aHU=a4;generalize CN k=a5;generalize CN g.Low=a6;generalize CN g.aHZ=a7;cases a1<;>cases a2<;>cases a3<;>cases a4<;>cases a5<;>cases a6<;>cases a7<;>rfl
def K3 (s:M.aD) (g:M.gK):M.aD×Int:=if iI s=true then ((⟨s.Name,s.aGk.filter (λx => !Cj x.Key g),s.aHD⟩:M.aD),i64.wrap ((List.length s.aGk:Int)-(List.length (s.aGk.filter (λx => !Cj x.Key g)):Int))) else (s,0)
theorem OC {α:Type} {f:α->Bool} {l:List α} {k:Nat} (h:k<l.length):(l.take (k+1)).filter f=(l.take k).filter f++(if f l[k]=true then [l[k]] else []):=by rw [<-List.take_append_getElem h,List.filter_append];congr 1;rw [List.filter_cons,List.filter_nil]
theorem Wz {s:M.aD} (hz:M.aD.sz s<=1048576) {x:M.aG1} (hx:x∈s.aGk):M.aG1.sz x<=1048576:=by have:=cO (f:=M.aG1.sz) hx;simp only [M.aD.sz] at hz;omega
theorem DA {s:M.aD} {g:M.gK} (hs:s.ok) (hl:g.Low.ok) (hh:g.aHZ.ok) (hz:M.aD.sz s<=1048576):rM s g=some (K3 s g):=by
 have hn:s.aGk.length<=1048576:=by simp only [M.aD.sz] at hz;omega
 have key : ∀(n k:Nat) (r:List M.aG1),s.aGk.length-k<n->k<=s.aGk.length->r=(s.aGk.take k).filter (λx => !Cj x.Key g)->iK s g n (k:Int) r=some ((⟨s.Name,s.aGk.filter (λx => !Cj x.Key g),s.aHD⟩:M.aD),i64.wrap ((List.length s.aGk:Int)-(List.length (s.aGk.filter (λx => !Cj x.Key g)):Int))):=by
  intro n
  induction n with
  | zero=>intro k r h;omega
  | succ n ih =>
   intro k r hk hle hr
   simp only [iK]
   rcases Nat.lt_or_ge k s.aGk.length with hlt | hge
   ·have hx:=hs.aGk.2 _ (qG hlt)
    have hrl:r.length<=1048576:=by rw [hr];refine Nat.le_trans (List.length_filter_le _ _) ?_;rw [qT];omega
    rw [if_pos (aY hlt),aK hlt,qA,JQ hx.Key hl hh,qA]
    cases hq:Cj s.aGk[k].Key g with
    | true =>
     rw [if_neg qd,bD qb]
     refine ih (k+1) r qb hlt ?_
     rw [OC hlt,hq,<-hr]
     simp
    | false =>
     rw [if_pos qd,EO _ (Nat.le_trans (Wz hz (qG hlt)) qb),qA,dN qs,qA,bD qb]
     refine ih (k+1) _ qb hlt ?_
     rw [OC hlt,hq,<-hr]
     simp
   ·have e:k=s.aGk.length:=by omega
    subst e
    rw [if_neg qk,hr,List.take_length]
 unfold rM K3
 rw [zN hs,qA,nG s qb]
 cases iI s with
 | false=>rfl
 | true =>
  rw [if_neg qd,if_pos rfl]
  exact key fuel 0 [] qi qb qd
theorem QV {s:M.aD} {g:M.gK} (hs:s.ok):(K3 s g).1.ok/\M.aD.sz (K3 s g).1<=M.aD.sz s:=by unfold K3;split;(refine ⟨⟨hs.Name,⟨Nat.le_trans (List.length_filter_le _ _) hs.aGk.1,λy hy=>hs.aGk.2 y (List.mem_filter.1 hy).1⟩,hs.aHD⟩,?_⟩;have h4:=List.length_filter_le (λx:M.aG1 => !Cj x.Key g) s.aGk;have h5:=Mn (f:=M.aG1.sz) (λx:M.aG1 => !Cj x.Key g) s.aGk;simp only [M.aD.sz];omega);·exact ⟨hs,Nat.le_refl _⟩
def PG (s:M.aD) (k:M.Key) (r:M.aE):M.aD×Bool:=if kG (zQ k) s.aGk<0 then CE s k r else (s,false)
theorem GH {s:M.aD} {k:M.Key} {r:M.aE} (hs:s.ok) (hk:k.ok) (hr:r.ok) (hR:cG r=true) (hz:M.aD.sz s<=1073741824) (hzr:M.aE.sz r<=1073741824):zH s k r=some (PG s k r):=by unfold zH PG;rw [Aq hs,qA,nG s hz,zE hs hk hr hR hz hzr];by_cases h:kG (zQ k) s.aGk<0;(rw [if_neg qc,if_pos h];rfl);·rw [if_pos qc,if_neg h];rfl
def XA:M.gK:=(⟨false,false,(⟨0,0,(⟨#[]⟩:ByteArray)⟩:M.Key),(⟨0,0,(⟨#[]⟩:ByteArray)⟩:M.Key)⟩:M.gK)
def aAO (s:M.aD) (o:M.Op):M.aD×Int×Bool:=if (Jn (kZ s o.Key) o.Field (i64.wrap ((jI (kZ s o.Key) o.Field).1+1))).2=true then ((CE s o.Key (Jn (kZ s o.Key) o.Field (i64.wrap ((jI (kZ s o.Key) o.Field).1+1))).1).1,i64.wrap ((jI (kZ s o.Key) o.Field).1+1),(CE s o.Key (Jn (kZ s o.Key) o.Field (i64.wrap ((jI (kZ s o.Key) o.Field).1+1))).1).2) else (s,0,false)
def nOn (s:M.aD) (o:M.Op):M.aD×Int×Bool:=if o.aG7=1 then ((CE s o.Key o.aE).1,1,(CE s o.Key o.aE).2) else if o.aG7=2 then ((PG s o.Key o.aE).1,1,(PG s o.Key o.aE).2) else if o.aG7=3 then ((K3 s (⟨true,true,o.Key,o.Key⟩:M.gK)).1,(K3 s (⟨true,true,o.Key,o.Key⟩:M.gK)).2,true) else if o.aG7=4 then (if kG (zQ o.Key) s.aGk<0 then (s,-1,true) else (s,(List.length (kZ s o.Key).aGn:Int),true)) else if o.aG7=5 then ((K3 s XA).1,(K3 s XA).2,true) else aAO s o
theorem PZ:M.Key.ok (⟨0,0,(⟨#[]⟩:ByteArray)⟩:M.Key):=⟨wU,wU,sz0⟩
theorem NP {s:M.aD} {k:M.Key} (h : ¬kG (zQ k) s.aGk<0) : ∃x,idx s.aGk (kG (zQ k) s.aGk)=some x/\x.aE=kZ s k:=by obtain ⟨j,e,hj⟩:=fI h;refine ⟨s.aGk[j],by rw [e,aK hj],?_⟩;unfold kZ;rw [if_neg h,e,qH,qF hj]
theorem QN {s:M.aD} {k:M.Key} (h:kG (zQ k) s.aGk<0):kZ s k=(⟨([]:List M.Field)⟩:M.aE):=by unfold kZ;rw [if_pos h]
theorem EK:cG (⟨([]:List M.Field)⟩:M.aE)=true:=by rfl
theorem UJ {s:M.aD} (h:iI s=true) (k:M.Key):cG (kZ s k)=true:=by by_cases hf:kG (zQ k) s.aGk<0;(rw [QN hf];exact EK);·obtain ⟨j,e,hj⟩:=fI hf;obtain ⟨x,e1,e2⟩:=NP hf;rw [<-e2];rw [e,aK hj] at e1;obtain rfl:=Option.some.inj e1;exact ((H0 (yA h).1).1 j _ (qF hj)).2
theorem Q0 {r:M.aE} (h:cG r=true) (a:ByteArray) (n:Int):cG (Jn r a n).1=true:=by
 cases e:(Jn r a n).2 with
 | true=>exact FN e
 | false =>
  unfold Jn M4 at e ⊢
  rw [if_pos h] at e ⊢
  split
  ·rename_i h2;rw [if_pos h2] at e;cases e
  ·exact h
structure Vz (x:M.aD) (y:M.Op):Prop where
 s:x.ok
 o:LG y
 n:nOp y=true
 t:iI x=true
theorem Vz.z {s:M.aD} {o:M.Op} (h:Vz s o):M.aD.sz s<=10000:=pU h.t
theorem Vz.r {s:M.aD} {o:M.Op} (h:Vz s o):M.aE.sz o.aE<=100:=GF (D8 h.n).2.2.2.2
theorem OB {s:M.aD} {o:M.Op} (h:Vz s o):(kZ s o.Key).ok/\M.aE.sz (kZ s o.Key)<=100/\(Jn (kZ s o.Key) o.Field (i64.wrap ((jI (kZ s o.Key) o.Field).1+1))).1.ok/\cG (Jn (kZ s o.Key) o.Field (i64.wrap ((jI (kZ s o.Key) o.Field).1+1))).1=true:=by have h1:=UJ h.t o.Key;have h2:=Hy (k:=o.Key) h.s;have h3:=(yF h1).1;exact ⟨h2,GF h1,M7 h2 qb h.o.2.2.2.2 (bH _),Q0 h1 _ _⟩
theorem Pj {s:M.aD} {o:M.Op} (h:Vz s o) : ∃x,Co s o.Key o.Field=some x/\x.2.2=(aAO s o).2.2/\(x.2.2=true->x=aAO s o):=by have hz:=h.z;obtain ⟨i1,i2,i3,i4⟩:=OB h;have i5:=GF i4;unfold Co aAO;rw [Aq h.s,qA];by_cases hf:kG (zQ o.Key) s.aGk<0;(rw [QN hf] at i1 i2 i3 i4 i5 ⊢;rw [if_neg qc,tQ i1,qA,BD i1 qb h.o.2.2.2.2 (bH _),qA,zE h.s h.o.2.2.1 i3 i4 qb qb,qA];cases (Jn (⟨([]:List M.Field)⟩:M.aE) o.Field (i64.wrap ((jI (⟨([]:List M.Field)⟩:M.aE) o.Field).1+1))).2;(exact ⟨_,rfl,rfl,λe=>by cases e⟩);·exact ⟨_,rfl,rfl,λ_=>rfl⟩);·obtain ⟨x,e1,e2⟩:=NP hf;rw [if_pos qc,e1,qA,e2,tQ i1,qA,BD i1 qb h.o.2.2.2.2 (bH _),qA,zE h.s h.o.2.2.1 i3 i4 qb qb,qA];cases (Jn (kZ s o.Key) o.Field (i64.wrap ((jI (kZ s o.Key) o.Field).1+1))).2;(exact ⟨_,rfl,rfl,λe=>by cases e⟩);·exact ⟨_,rfl,rfl,λ_=>rfl⟩
theorem LM {s:M.aD} {o:M.Op} (h:Vz s o) : ∃x,A0 s o=some x/\x.2.2=(nOn s o).2.2/\(x.2.2=true->x=nOn s o):=by
 have hz:=h.z
 have hr:=h.r
 have same : ∀ {m:Option (M.aD×Int×Bool)} {y:M.aD×Int×Bool},m=some y -> ∃x,m=some x/\x.2.2=y.2.2/\(x.2.2=true->x=y):=λe=>⟨_,e,rfl,λ_=>rfl⟩
 unfold A0 nOn
 rw [Aq h.s,qA,nG s qb,zE h.s h.o.2.2.1 h.o.2.2.2.1 (D8 h.n).2.2.2.2 qb qb,GH h.s h.o.2.2.1 h.o.2.2.2.1 (D8 h.n).2.2.2.2 qb qb,DA h.s h.o.2.2.1 h.o.2.2.1 qb,DA (g:=(⟨false,false,(⟨0,0,(⟨#[]⟩:ByteArray)⟩:M.Key),(⟨0,0,(⟨#[]⟩:ByteArray)⟩:M.Key)⟩:M.gK)) h.s PZ PZ qb]
 by_cases k1:o.aG7=1
 ·rw [if_pos (by simpa using k1),if_pos k1];exact same rfl
 rw [if_neg (by simpa using k1),if_neg k1]
 by_cases k2:o.aG7=2
 ·rw [if_pos (by simpa using k2),if_pos k2];exact same rfl
 rw [if_neg (by simpa using k2),if_neg k2]
 by_cases k3:o.aG7=3
 ·rw [if_pos (by simpa using k3),if_pos k3];exact same rfl
 rw [if_neg (by simpa using k3),if_neg k3]
 by_cases k4:o.aG7=4
 ·rw [if_pos (by simpa using k4),if_pos k4];by_cases hf:kG (zQ o.Key) s.aGk<0;(rw [if_pos (by simpa using hf),if_pos hf];exact same rfl);·obtain ⟨x,e1,e2⟩:=NP hf;rw [if_neg (by simpa using hf),if_neg hf,qA,e1,qA,e2];exact same rfl
 rw [if_neg (by simpa using k4),if_neg k4]
 by_cases k5:o.aG7=5
 ·rw [if_pos (by simpa using k5),if_pos k5];exact same rfl
 ·rw [if_neg (by simpa using k5),if_neg k5];obtain ⟨x,e1,e2,e3⟩:=Pj h;rw [e1,qA];exact ⟨_,rfl,e2,e3⟩
theorem Lq {s:M.aD} {k:M.Key} {r:M.aE} (hs:s.ok) (ht:iI s=true) (hk:k.ok) (hr:r.ok) (hR:cG r=true):(CE s k r).1.ok/\M.aD.sz (CE s k r).1<=10000:=by
 have hz:=pU ht
 refine ⟨Nj hs (by simp only [M.aD.sz] at hz;omega) hk hr,?_⟩
 cases e:(CE s k r).2 with
 | true=>exact pU (DW hR e)
 | false=>rw [Jp e];exact hz
theorem Ve {s:M.aD} {o:M.Op} (h:Vz s o):(nOn s o).1.ok/\M.aD.sz (nOn s o).1<=10000:=by
 have hz:=h.z
 have hR:=(D8 h.n).2.2.2.2
 obtain ⟨i1,i2,i3,i4⟩:=OB h
 have hd : ∀g,(K3 s g).1.ok/\M.aD.sz (K3 s g).1<=10000:=λg=>⟨(QV h.s).1,Nat.le_trans (QV h.s).2 hz⟩
 unfold nOn aAO PG
 split
 ·exact Lq h.s h.t h.o.2.2.1 h.o.2.2.2.1 hR
 split
 ·split;(exact Lq h.s h.t h.o.2.2.1 h.o.2.2.2.1 hR);·exact ⟨h.s,hz⟩
 split
 ·exact hd _
 split
 ·split<;>exact ⟨h.s,hz⟩
 split
 ·exact hd _
 split
 ·exact Lq h.s h.t h.o.2.2.1 i3 i4
 ·exact ⟨h.s,hz⟩
theorem Kq {d:M.aGh} (h:nDb d=true):(∀(k:Nat) (hk:k<d.aGq.length),iI d.aGq[k]=true)/\d.Name.size<=8/\d.aGq.length<=4/\d.aG3.length<=4 /\ ∀u∈d.aG3,u.Field.size<=8:=by unfold nDb at h;simp only [qM,qL,qQ,qR] at h;obtain ⟨h1,h2,h3,_,h5,h6⟩:=h;refine ⟨λk hk => ?_,?_,h5,h6,λu hu => ?_⟩;(have:=h1 k hk;unfold EM at this;rw [qF hk,qM,Option.any_some] at this;exact this.1);(unfold mT inR at h3;simp only [qM,qL] at h3;omega);·obtain ⟨k,hk,rfl⟩:=List.getElem_of_mem hu;have:=h2 k hk;unfold Fs mT inR at this;rw [qF hk] at this;simp only [Option.any_some,qM,qL] at this;omega
def PL (d:M.aGh) (j:Nat) (s:M.aD):M.aGh:=(⟨d.Name,d.aGg,d.aGq.set j s,d.aG3⟩:M.aGh)
def QU (d:M.aGh) (o:M.Op) (j:Nat) (s:M.aD):M.aGh×Int×Bool:=if (nOn s o).2.2=true then (if nDb (PL d j (nOn s o).1)=true then (PL d j (nOn s o).1,(nOn s o).2.1,true) else (d,0,false)) else (d,0,false)
def SX (d:M.aGh) (o:M.Op):M.aGh×Int×Bool:=if (nDb d&&nOp o)=true then (match d.aGq[(kG (Cu o.aD) d.aGq).toNat]? with
 | some s=>if kG (Cu o.aD) d.aGq<0 then (d,0,false) else QU d o (kG (Cu o.aD) d.aGq).toNat s
 | none=>(d,0,false)) else (d,0,false)
theorem Q6 {d:M.aGh} {s:M.aD} {j:Nat} (hd:d.ok) (hs:s.ok):(PL d j s).ok:=⟨hd.Name,hd.aGg,⟨by show (d.aGq.set j s).length<=_;rw [qN];exact hd.aGq.1,λy hy=>by rcases List.mem_or_eq_of_mem_set hy with h | rfl;(exact hd.aGq.2 y h);·exact hs⟩,hd.aG3⟩
theorem W9 {d:M.aGh} {s:M.aD} {j:Nat} (hz:M.aGh.sz d<=1000000) (hs:M.aD.sz s<=10000):M.aGh.sz (PL d j s)<=1048576:=by have:=F5 (f:=M.aD.sz) (x:=s) (l:=d.aGq) (i:=j);simp only [PL,M.aGh.sz,qN] at hz ⊢;omega
theorem OF {d:M.aGh} {o:M.Op} (hd:d.ok) (ho:LG o) (hz:M.aGh.sz d<=1000000):Bm d o=some (SX d o):=by
 unfold Bm SX
 rw [AF d qb,qA,CA hd,qA,tG hd qb,qA,Ku ho,qA]
 cases hD:nDb d with
 | false=>rfl
 | true =>
  cases hO:nOp o with
  | false=>rfl
  | true =>
   rw [if_neg qd,if_neg qd,if_pos (show (true&&true)=true from rfl)]
   by_cases hf:kG (Cu o.aD) d.aGq<0
   ·rw [if_pos (by simpa using hf)];split;(rw [if_pos hf]);·rfl
   ·obtain ⟨j,e,hj⟩:=fI hf
    have ht:=(Kq hD).1 j hj
    have hs:=hd.aGq.2 _ (qG hj)
    have hon:Vz d.aGq[j] o:=⟨hs,ho,hO,ht⟩
    obtain ⟨v1,v2⟩:=Ve hon
    rw [if_neg (by simpa using hf),e,qH,qF hj]
    simp only [show ¬((j:Nat):Int)<0 from by omega,if_false]
    rw [aK hj,qA]
    unfold QU
    obtain ⟨x,e1,e2,e3⟩:=LM hon
    rw [e1,qA,qA,<-e2]
    cases hx:x.2.2 with
    | false=>rfl
    | true =>
     obtain rfl:=e3 hx
     rw [if_neg qd,if_pos rfl]
     have:=tG (Q6 (j:=j) hd v1) (W9 hz v2)
     unfold PL at this ⊢
     rw [this,qA]
     cases nDb (⟨d.Name,d.aGg,d.aGq.set j (nOn d.aGq[j] o).1,d.aG3⟩:M.aGh)<;>rfl
theorem Rn {d:M.aGh} {o:M.Op} (hd:d.ok) (ho:LG o) (hz:M.aGh.sz d<=1000000):(SX d o).1.ok/\M.aGh.sz (SX d o).1<=M.aGh.sz d+10000:=by unfold SX;split;(rename_i h;rw [qM] at h;by_cases hf:kG (Cu o.aD) d.aGq<0;(split;(rw [if_pos hf];exact ⟨hd,qg⟩);·exact ⟨hd,qg⟩);·obtain ⟨j,e,hj⟩:=fI hf;have hon:Vz d.aGq[j] o:=⟨hd.aGq.2 _ (qG hj),ho,h.2,(Kq h.1).1 j hj⟩;obtain ⟨v1,v2⟩:=Ve hon;rw [e,qH,qF hj];simp only [show ¬((j:Nat):Int)<0 from by omega,if_false];unfold QU;split;(split;(refine ⟨Q6 hd v1,?_⟩;have:=F5 (f:=M.aD.sz) (x:=(nOn d.aGq[j] o).1) (l:=d.aGq) (i:=j);simp only [PL,M.aGh.sz,qN];omega);·exact ⟨hd,qg⟩);·exact ⟨hd,qg⟩);·exact ⟨hd,qg⟩
theorem Yi {d:M.aGh} (h:nDb d=true) (hu : ∀u∈d.aG3,u.aD.size<=8):M.aGh.sz d<=100000:=by obtain ⟨h1,h2,h3,h4,h5⟩:=Kq h;have a1:=dI (w:=M.aD.sz) (b:=10000) (xs:=d.aGq) (λx hx=>by obtain ⟨k,hk,rfl⟩:=List.getElem_of_mem hx;exact pU (h1 k hk));have a2:=dI (w:=M.aO.sz) (b:=16) (xs:=d.aG3) (λx hx=>by have b1:=h5 x hx;have b2:=hu x hx;simp only [M.aO.sz];omega);simp only [M.aGh.sz];omega
theorem RT {l:List M.aD} {a:ByteArray} (h:0<=kG (Cu a) l) : ∃x∈l,x.Name.toList=a.toList:=by obtain ⟨k,e,hk⟩:=fI (show ¬kG (Cu a) l<0 by omega);obtain ⟨_,hf⟩:=AA e;exact ⟨_,qG hk,by unfold Cu at hf;exact eq_of_beq hf⟩
theorem Qa {d:M.aGh} (h:nDb d=true) : ∀u∈d.aG3,u.aD.size<=8:=by intro u hu;obtain ⟨h1,_⟩:=Kq h;unfold nDb at h;simp only [qM,qL,qQ,qR] at h;obtain ⟨k,hk,rfl⟩:=List.getElem_of_mem hu;have:=h.2.1 k hk;unfold Fs at this;rw [qF hk] at this;simp only [Option.any_some,qM,qL] at this;obtain ⟨x,hx,e⟩:=RT this.1;obtain ⟨j,hj,rfl⟩:=List.getElem_of_mem hx;have hn:=(yA (h1 j hj)).2.1;unfold mT inR at hn;simp only [qM,qL] at hn;have:=bsize e;omega
def OR (d0:M.aGh):M.aGh->List Int->List M.Op->M.aGh×List Int×Bool
 | x,ns,[]=>(x,ns,true)
 | x,ns,o::l=>if (SX x o).2.2=true then OR d0 (SX x o).1 (ns++[(SX x o).2.1]) l else (d0,([]:List Int),false)
def EC (d:M.aGh) (l:List M.Op):M.aGh×List Int×Bool:=if nDb d=true then (if l.length>6 then (d,([]:List Int),false) else OR d d [] l) else (d,([]:List Int),false)
theorem Tm {d0:M.aGh} {l:List M.Op} (h6:l.length<=6) (ho : ∀o∈l,LG o) (hz0:M.aGh.sz d0<=1000000) : ∀(n k:Nat) (x:M.aGh) (ns:List Int),l.length-k<n->k<=l.length->x.ok->M.aGh.sz x<=900000+10000*k->ns.length=k->uS d0 l n (k:Int) x.Name x.aGg ns x.aGq x.aG3=some (OR d0 x ns (l.drop k))
 | 0,_,_,_,h,_,_,_,_=>by omega
 | n+1,k,x,ns,hn,hk,hx,hz,hs=>by
  simp only [uS]
  rcases Nat.lt_or_ge k l.length with hlt | hge
  ·rw [if_pos (aY hlt),aK hlt,qA]
   show ((Bm x l[k]).bind _)=_
   have hok:=ho _ (qG hlt)
   obtain ⟨v1,v2⟩:=Rn hx hok qb
   rw [OF hx hok qb,qA,qV hlt]
   simp only [OR]
   cases (SX x l[k]).2.2 with
   | false =>
    rw [if_pos qd,if_neg qd,AF d0 qb,qA]
   | true =>
    rw [if_neg qd,if_pos rfl,dN qc,qA,bD qb]
    exact Tm h6 ho hz0 n (k+1) _ _ qb hlt v1 (Nat.le_trans v2 qb) (by simp [hs])
  ·have e:k=l.length:=by omega
   subst e
   rw [if_neg qk,qY]
   rfl
theorem HW {d:M.aGh} {l:List M.Op} (hd:d.ok) (hl:l.length<=1000) (ho : ∀o∈l,LG o) (hz:M.aGh.sz d<=1048576):yG d l=some (EC d l):=by
 unfold yG EC
 rw [AF d qb,qA,tG hd qb,qA]
 cases hD:nDb d with
 | false=>rfl
 | true =>
  have hs:=Yi hD (Qa hD)
  rw [if_neg qd,if_pos rfl]
  by_cases h6:l.length>6
  ·rw [if_pos qc,if_pos h6]
  ·rw [if_neg qc,if_neg h6];exact Tm qb ho qb fuel 0 d [] qi qb hd qb rfl
theorem Yc {d:M.aGh} {o:M.Op} (h:(SX d o).2.2=true):nDb (SX d o).1=true:=by unfold SX at h ⊢;split at h;(rename_i h1;rw [if_pos h1];split at h;(rename_i s hs;split at h;(cases h);·rename_i h2;rw [if_neg h2];unfold QU at h ⊢;split at h;(rename_i h3;rw [if_pos h3];split at h;(rename_i h4;rw [if_pos h4];exact h4);·cases h);·cases h);·cases h);·cases h
theorem O5 {d0:M.aGh} (h0:d0.ok) : ∀ {l:List M.Op} {x:M.aGh} {ns:List Int},(∀o∈l,LG o)->x.ok->nDb x=true->(OR d0 x ns l).1=d0\/((OR d0 x ns l).1.ok/\nDb (OR d0 x ns l).1=true)
 | [],x,ns,_,hx,hb=>.inr ⟨hx,hb⟩
 | o::l,x,ns,ho,hx,hb=>by have hz:=Yi hb (Qa hb);simp only [OR];split;(rename_i h;exact O5 h0 (λy hy=>ho y (by simp [hy])) (Rn hx (ho o qd) qb).1 (Yc h));·exact .inl rfl
theorem LB {d:M.aGh} {l:List M.Op} (hd:d.ok) (ho : ∀o∈l,LG o):(EC d l).1=d\/((EC d l).1.ok/\M.aGh.sz (EC d l).1<=100000):=by unfold EC;split;(rename_i h;split;(exact .inl rfl);·rcases O5 hd ho hd h (ns:=[]) with e | ⟨h1,h2⟩;(exact .inl e);·exact .inr ⟨h1,Yi h2 (Qa h2)⟩);·exact .inl rfl
def Lg:M.aGh->Nat->List (List Int)->M.aGh×Int
 | d,i,[]=>(d,(i:Int))
 | d,i,e::l=>if (FE e).2=true then Lg (EC d (FE e).1).1 (i+1) l else (d,(i:Int))
def N4 (d:M.bW):M.aGh×Int:=Lg d.aG4 0 (Zx d.Log).1
theorem Qy {x3:List (List Int)×Int} (hl:x3.1.length<=1048576) (ho : ∀l∈x3.1,okB l/\l.length<=4000) : ∀(n k:Nat) (d:M.aGh),x3.1.length-k<n->k<=x3.1.length->d.ok->M.aGh.sz d<=1048576->rG x3 n (k:Int) d.Name d.aGg d.aGq d.aG3=some (Lg d k (x3.1.drop k))
 | 0,_,_,h,_,_,_=>by omega
 | n+1,k,d,hn,hk,hd,hz=>by
  simp only [rG]
  rcases Nat.lt_or_ge k x3.1.length with hlt | hge
  ·obtain ⟨b1,b2⟩:=ho _ (qG hlt)
   obtain ⟨o1,o2⟩:=MR b1 qb
   rw [if_pos (aY hlt),aK hlt,qA,Kh b1 qb,qA,qV hlt]
   simp only [Lg]
   cases (FE x3.1[k]).2 with
   | false=>rfl
   | true =>
    rw [if_neg qd,if_pos rfl]
    show ((yG d (FE x3.1[k]).1).bind _)=_
    rw [HW hd qb (λo h=>(o2 o h).1) hz,qA,bD qb]
    rcases LB hd (λo h=>(o2 o h).1) with e | ⟨v1,v2⟩
    ·rw [e];exact Qy hl ho n (k+1) d qb hlt hd hz
    ·exact Qy hl ho n (k+1) _ qb hlt v1 qb
  ·have e:k=x3.1.length:=by omega
   subst e
   rw [if_neg qk,qY]
   rfl
theorem Lw {d:M.bW} (hd:d.ok) (hz:M.bW.sz d<=1048576):Ab d=some (N4 d):=by
 have hz1:M.aGh.sz d.aG4<=1048576:=by simp only [M.bW.sz] at hz;omega
 have hz2:d.Log.length<=1048576:=by simp only [M.bW.sz] at hz;omega
 obtain ⟨g1,g2⟩:=UI hd.Log
 unfold Ab N4
 rw [AF d.aG4 qb,qA,LO hd.Log qb,qA]
 exact Qy (x3:=Zx d.Log) qb g2 fuel 0 d.aG4 qi qb hd.aG4 hz1
theorem IS : ∀ {l:List (List Int)} {d:M.aGh} {i:Nat},(∀e∈l,okB e/\e.length<=4000)->d.ok->M.aGh.sz d<=1048576->(Lg d i l).1.ok/\M.aGh.sz (Lg d i l).1<=1048576
 | [],d,i,_,hd,hz=>⟨hd,hz⟩
 | e::l,d,i,ho,hd,hz=>by obtain ⟨b1,b2⟩:=ho e qd;obtain ⟨o1,o2⟩:=MR b1 qb;simp only [Lg];split;(rcases LB hd (λo h=>(o2 o h).1) with e' | ⟨v1,v2⟩;(rw [e'];exact IS (λx hx=>ho x (by simp [hx])) hd hz);·exact IS (λx hx=>ho x (by simp [hx])) v1 qb);·exact ⟨hd,hz⟩
theorem Tn {d:M.bW} (hd:d.ok) (hz:M.bW.sz d<=1048576):(N4 d).1.ok/\M.aGh.sz (N4 d).1<=1048576:=IS (UI hd.Log).2 hd.aG4 (by simp only [M.bW.sz] at hz;omega)
def VA (l:List Int) (i:Int) (b:List Int):List Int:=l++(LX b++uv (XO i b).toNat)
def Wk (l:List Int) (i:Int) (b:List Int):List Int×Bool:=if i<0 then (l,false) else if (VA l i b).length>4000 then (l,false) else (VA l i b,true)
theorem YD {l b:List Int} {i:Int}:VA l i b=(l++LX b)++uv (XO i b).toNat:=by unfold VA;rw [qS]
theorem Ys (i:Int) (b:List Int):0<=XO i b/\XO i b<2147483647:=Nk _
theorem EW {l b:List Int} {i:Int} (hl:l.length<=1048576) (hb:b.length<=100000):uX l i b=some (Wk l i b):=by have hs:=Ys i b;have hu:=IC (n:=b.length) qb;have e0:=nJ (r:=l++LX b) (n:=(XO i b).toNat) (by unfold LX;simp only [qE];omega) qb;rw [Int.toNat_of_nonneg hs.1,<-YD] at e0;unfold uX Wk;rw [Fe qb qb,qA,rH qb qb,qA,FU qb,qA];show ((bS (l++LX b) (XO i b)).bind _)=_;rw [e0,qA];by_cases hi:i<0;(rw [if_pos (by simpa using hi),if_pos hi]);·rw [if_neg (by simpa using hi),if_neg hi];by_cases h4:(VA l i b).length>4000;(rw [if_pos qc,if_pos h4]);·rw [if_neg qc,if_neg h4]
def aAp (d:M.bW) (l:List M.Op):Bool:=(EC (N4 d).1 l).2.2&&((List.length (FC l):Int) != 0&&(((N4 d).2==d.aHM)&&(Wk d.Log d.aHM (FC l)).2))
def Jg (d:M.bW) (l:List M.Op):M.bW×Bool:=if aAp d l=true then ((⟨d.aG4,(Wk d.Log d.aHM (FC l)).1,i64.wrap (d.aHM+1)⟩:M.bW),true) else (d,false)
theorem UH (l:List M.Op):(FC l).length<=2000:=by unfold FC;split;(rename_i h;rw [qM,qL,qQ] at h;have h1:=NL (f:=enO) (λo hx=>Qm (h.1 o hx));have h9:=IC (n:=l.length) qb;rw [qE];omega);·simp
theorem Jb {d:M.bW} {l:List M.Op} (hd:d.ok) (hz:M.bW.sz d<=1048576) (hl:l.length<=1000) (ho : ∀o∈l,LG o):oD d l=some (Jg d l):=by
 have hz2:d.Log.length<=1048576:=by simp only [M.bW.sz] at hz;omega
 have he:=UH l
 obtain ⟨v1,v2⟩:=Tn hd hz
 unfold oD Jg aAp
 rw [GC d qb,qA,Lw hd hz,qA,HW v1 hl ho v2,qA,E3 hl ho,qA,EW hz2 qb,qA]
 unfold bne
 generalize (EC (N4 d).1 l).2.2=a1
 generalize ((List.length (FC l):Int)==0)=a2
 generalize ((N4 d).2==d.aHM)=a3
 cases a1<;>cases a2<;>cases a3<;>cases (Wk d.Log d.aHM (FC l)).2<;>rfl
theorem Mo {d:M.bW} {l:List M.Op} (hd:d.ok):(Jg d l).1.ok/\M.bW.sz (Jg d l).1<=M.bW.sz d+4000/\(Jg d l).1.aG4=d.aG4:=by unfold Jg;split;(rename_i h;unfold aAp at h;simp only [qM] at h;have h4:=h.2.2.2;unfold Wk at h4 ⊢;split at h4;(cases h4);·rename_i hi;rw [if_neg hi];split at h4;(cases h4);·rename_i hl;rw [if_neg hl];refine ⟨⟨hd.aG4,⟨Nat.le_trans (by omega:(VA d.Log d.aHM (FC l)).length<=4000) qj,λy hy => ?_⟩,bH _⟩,?_,rfl⟩;(have hy':y∈VA d.Log d.aHM (FC l):=hy;unfold VA at hy';simp only [qP] at hy';rcases hy' with h | h | h;(exact hd.Log.2 y h);(exact Et (Rs l).2 y h);·exact GN _ y h);·simp only [M.bW.sz];omega);·exact ⟨hd,qg,rfl⟩
theorem yS {s:M.aC} {v:Int} (hs:s.ok):nU s v=some (kG (λc:M.aGo=>c.aGg==v) s.aGi):=by have hm:=le_max hs.aGi.1;unfold nU;rw [findAll (L:=lF s v) (f:=λc:M.aGo=>c.aGg==v) (A:=λi=>some (i:Int)) (E:=some (-1)) hs.aGi.1 (λm k hk => ?_) (λm => ?_),uB];(simp only [lF];rw [if_pos (aY hk),aK hk,qA,bD qb]);·simp only [lF];rw [if_neg qk]
theorem EZ {s:M.aC} {v:Int} (hs:s.ok):vH s v=some (kG (λc:M.aGo=>c.aGg==v) s.aGi):=by unfold vH;rw [I8 (f:=λc:M.aGo=>c.aGg==v) hs.aGi.1 (λx _=>by simp only [vW]),qA]
def EY (a b:ByteArray) (x:M.aGw):Bool:=(x.aGl.toList==a.toList)&&(x.aHQ.toList==b.toList)
theorem DU {c:M.aGo} {a b:ByteArray} (hc:c.ok):zA c a b=some (kG (EY a b) c.aGs):=by have hm:=le_max hc.aGs.1;unfold zA;rw [findAll (L:=mG c a b) (f:=EY a b) (A:=λi=>some (i:Int)) (E:=some (-1)) hc.aGs.1 (λm k hk => ?_) (λm => ?_),uB];(simp only [mG];rw [if_pos (aY hk),aK hk,qA,bD qb,WA];rfl);·simp only [mG];rw [if_neg qk]
theorem Me {c:M.aGo} {a b:ByteArray} (hc:c.ok):pG c a b=some (kG (EY a b) c.aGs):=by unfold pG;rw [Dz (f:=EY a b) hc.aGs.1 (λx _=>by simp only [uT,aZ];rfl),qA]
theorem JF {s:M.aC} {v:Int} {a b:ByteArray} (hs:s.ok) (hz:s.sz<=1048576) : ∃r,gO s v a b=some r/\xW s v a b=some r/\okB r.1.aHT:=by
 unfold gO xW cC jN
 rw [yS hs,EZ hs]
 simp only [qA]
 have hnil:okB ([]:List Int):=⟨by simp [maxLen],qd⟩
 by_cases h:kG (λc:M.aGo=>c.aGg==v) s.aGi<0
 ·simp only [h,decide_true,if_true];exact ⟨_,rfl,rfl,hnil⟩
 ·obtain ⟨k,e,hk⟩:=fI h
  simp only [h,decide_false,qD,if_false]
  rw [e,aK hk]
  have hc:=hs.aGi.2 _ (qG hk)
  simp only [qA]
  rw [DU hc,Me hc]
  simp only [qA]
  by_cases h2:kG (EY a b) s.aGi[k].aGs<0
  ·simp only [h2,decide_true,if_true];exact ⟨_,rfl,rfl,hnil⟩
  ·obtain ⟨j,e2,hj⟩:=fI h2
   simp only [h2,decide_false,qD,if_false]
   rw [e2,aK hj]
   have hx:=hc.aGs.2 _ (qG hj)
   have z1:=cO (f:=M.aGo.sz) (qG hk)
   have z2:=cO (f:=M.aGw.sz) (qG hj)
   unfold M.aC.sz at hz
   have q1:M.aGo.sz s.aGi[k]=s.aGi[k].aGs.length+cX M.aGw.sz s.aGi[k].aGs:=rfl
   have q2:M.aGw.sz s.aGi[k].aGs[j]=s.aGi[k].aGs[j].aGl.size+(s.aGi[k].aGs[j].aHQ.size+s.aGi[k].aGs[j].aGm.aHT.length):=rfl
   have hb:(s.aGi[k].aGs[j].aGm.aHT).length<=1048576:=by omega
   simp only [qA,pH,lL,kW]
   rw [dN qc]
   exact ⟨_,rfl,rfl,hx.aGm.aHT⟩
def Wr (s:M.aC) (t:M.aGl) (v:Int) (f:ByteArray):Bool:=
 match gO s v t.Name f,mZ t f v with
 | some x,some b=>x.2&&((x.1.aHO==200)&&((x.1.aGg==v)&&eqL xA x.1.aHT b))
 | _,_=>false
def DF (s:M.aC) (t:M.aGl) (v:Int) (k:Nat):Bool:=(t.aG8[k]?).any (Wr s t v)
def Dh (s:M.aC) (t:M.aGl) (v:Int):Bool:=(List.range t.aG8.length).all (DF s t v)&&decide (kG (λc:M.aGo=>c.aGg==v) s.aGi>=0)
theorem Gl {s:M.aC} {t:M.aGl} {v:Int} (hs:s.ok) (ht:t.ok) (zs:s.sz<=1048576) (zt:t.sz<=1048576):sI s t v=some (Dh s t v):=by
 have hm:=le_max ht.aG8.1
 unfold sI Dh
 rw [mU (L:=dZ s t v) (g:=DF s t v) (F:=some false) (E:=some (decide (kG (λc:M.aGo=>c.aGg==v) s.aGi>=0))) ht.aG8.1 (λn k hk => ?_) (λn => ?_),aZ]
 ·simp only [dZ]
  unfold M.aGl.sz at zt
  have z1:=cO (f:=ByteArray.size) (qG hk)
  obtain ⟨x,e1,e2,hb⟩:=JF (v:=v) (a:=t.Name) (b:=t.aG8[k]) hs zs
  obtain ⟨l,e3,e4,hl⟩:=M8 (t:=t) (f:=t.aG8[k]) (v:=v) qb qb
  have eg:DF s t v k=(x.2&&((x.1.aHO==200)&&((x.1.aGg==v)&&eqL xA x.1.aHT l))):=by unfold DF Wr;rw [qF hk,Option.any_some,e1,e3]
  rw [if_pos (aY hk),aK hk,qA,e1,qA,e3,qA,D0 hb hl,qA,bD qb,eg]
  generalize dZ s t v n ((k+1:Nat):Int)=Z
  unfold bne
  generalize eqL xA x.1.aHT l=d
  cases x.2<;>cases (x.1.aHO==200)<;>cases (x.1.aGg==v)<;>cases d<;>rfl
 ·simp only [dZ];rw [if_neg qk,yS hs,qA]
theorem Gv {s:M.aC} {t:M.aGl} {v:Int} (hs:s.ok) (ht:t.ok) (zs:s.sz<=1048576) (zt:t.sz<=1048576):sK s t v=some (Dh s t v):=by
 have hm:=le_max ht.aG8.1
 unfold sK Dh
 rw [mU (L:=dY s t v) (g:=DF s t v) (F:=some false) (E:=some (decide (kG (λc:M.aGo=>c.aGg==v) s.aGi>=0))) ht.aG8.1 (λn k hk => ?_) (λn => ?_),aZ]
 ·simp only [dY]
  unfold M.aGl.sz at zt
  have z1:=cO (f:=ByteArray.size) (qG hk)
  obtain ⟨x,e1,e2,hb⟩:=JF (v:=v) (a:=t.Name) (b:=t.aG8[k]) hs zs
  obtain ⟨l,e3,e4,hl⟩:=M8 (t:=t) (f:=t.aG8[k]) (v:=v) qb qb
  have eg:DF s t v k=(x.2&&((x.1.aHO==200)&&((x.1.aGg==v)&&eqL xA x.1.aHT l))):=by unfold DF Wr;rw [qF hk,Option.any_some,e1,e3]
  rw [if_pos (aY hk),aK hk,qA,e2,qA,e4,qA,B4 hb,qA,bD qb,eg]
  generalize dY s t v n ((k+1:Nat):Int)=Z
  unfold bne
  generalize eqL xA x.1.aHT l=d
  cases x.2<;>cases (x.1.aHO==200)<;>cases (x.1.aGg==v)<;>cases d<;>rfl
 ·simp only [dY];rw [if_neg qk,EZ hs,qA]
def Ki (s:M.aC) (v:Int):Nat:=(s.aGi.takeWhile λc=>decide (c.aGg<v)).length
def Dq (s:M.aC) (v:Int) (k:Nat):List M.aGo:=s.aGi.take k++((⟨v,([]:List M.aGw)⟩:M.aGo)::s.aGi.drop k)
def DE (s:M.aC) (v:Int):M.aC×Bool:=if (fU s&&fU (⟨Dq s v (Ki s v)⟩:M.aC))=true then ((⟨Dq s v (Ki s v)⟩:M.aC),true) else (s,false)
theorem Oa {s:M.aC} {v:Int} (hs:s.ok) (hv:inI v) (hl:s.aGi.length<=1073741824) (k:Nat):M.aC.ok (⟨Dq s v k⟩:M.aC):=by refine ⟨⟨?_,λx hx => ?_⟩⟩;(show (Dq s v k).length<=maxLen;unfold Dq maxLen;simp only [qE,qJ,qT,qU];omega);·have hx:x∈Dq s v k:=hx;unfold Dq at hx;rcases List.mem_append.1 hx with hx | hx;(exact hs.aGi.2 x (List.mem_of_mem_take hx));·rcases List.mem_cons.1 hx with rfl | hx;(exact ⟨hv,⟨by simp [maxLen],qd⟩⟩);·exact hs.aGi.2 x (List.mem_of_mem_drop hx)
def ME (s:M.aC) (v:Int) (k:Nat):Option (M.aC×Bool):=(cM s).bind λa=>if (!a)=true then ((bO s).bind λy=>some (y,false)) else ((cM (⟨Dq s v k⟩:M.aC)).bind λb=>if (!b)=true then ((bO s).bind λy=>some (y,false)) else some ((⟨Dq s v k⟩:M.aC),true))
theorem E4 {s:M.aC} {v:Int} (hs:s.ok) (hv:inI v) (hz:M.aC.sz s<=1073741824):kY s v=some (DE s v):=by
 have hl:s.aGi.length<=1073741824:=by simp only [M.aC.sz] at hz;omega
 have hm:=le_max hs.aGi.1
 unfold kY
 rw [sY s hz,qA,NN (l:=s.aGi) (f:=λc:M.aGo=>decide (c.aGg<v)) (L:=lR s v s) (S:=ME s v) hs.aGi.1 (λn k hk => ?_) (λn => ?_)]
 ·unfold ME DE;rw [pB hs,qA,pB (Oa hs hv hl _),qA,sY s hz,qA];show _=some (if (fU s&&fU (⟨Dq s v (Ki s v)⟩:M.aC))=true then _ else _);unfold Ki;generalize fU (⟨Dq s v (List.takeWhile (λc:M.aGo=>decide (c.aGg<v)) s.aGi).length⟩:M.aC)=b;cases fU s<;>cases b<;>rfl
 ·simp only [lR];rw [if_pos (aY hk),aK hk,qA,bD qb];by_cases h:s.aGi[k].aGg<v;(rw [if_pos (by simpa using h),if_pos (by simpa using h)]);·rw [if_neg (by simpa using h),if_neg (by simpa using h)];rw [BG qb,qA,qH,dN qt,qA,dN qq,qA,dN qm,qA,qS];rfl
 ·simp only [lR];rw [if_neg qk];rw [BG (Nat.le_refl _),qA,qH,dN qt,qA,dN qq,qA,dN qm,qA,qS];rfl
theorem KW {s:M.aC} {v:Int} (hs:s.ok) (hv:inI v) (hz:M.aC.sz s<=1073741824):M.aC.ok (DE s v).1:=by
 have hl:s.aGi.length<=1073741824:=by simp only [M.aC.sz] at hz;omega
 unfold DE
 split
 ·exact Oa hs hv hl _
 ·exact hs
theorem IT {s:M.aC} {v:Int} (h:(DE s v).2=true):fU (DE s v).1=true:=by unfold DE at h ⊢;split at h;(rename_i h1;rw [if_pos h1];exact (Bool.and_eq_true_iff.1 h1).2);·cases h
end Go.Proofs.YtipmihbgjolaaaaGreat.gen
