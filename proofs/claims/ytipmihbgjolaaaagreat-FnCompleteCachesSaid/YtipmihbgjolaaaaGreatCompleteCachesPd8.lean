/-
  Helper text. No conditions.
-/
import Derived.Test.YtipmihbgjolaaaaGreatCompleteCachesPd7
set_option linter.unusedVariables false
set_option linter.unusedSimpArgs false
namespace Go.Proofs.YtipmihbgjolaaaaGreat.gen
open Go Go.Sh
open Go.IntKind (i64)
theorem W2 {b:List Int} {i h:Int} (c0:okC b i h):Dr b S7 (AG (⟨b,i,h⟩:M.aN)):=by
 unfold AG
 refine .bnd (LA c0) λi1 v1 r1 c1 q1=>.bnd (aU c1) λi2 v2 r2 c2 q2 => ?_
 dsimp only
 have hs:MP r1.aD:=⟨q1.1,by have:=pU q1.2.1;omega⟩
 have ha:r1.aP.length<=60:=q1.2.2.1.1
 have hc:r1.aG9.length<=5:=q1.2.2.2.1
 have ha2:=q1.2.2.1.2
 have hc2:=q1.2.2.2.2
 have ha':r1.aP.length<=100 /\ ∀x∈r1.aP,M.aP.ok x:=⟨qb,ha2⟩
 have hc':r1.aG9.length<=100 /\ ∀x∈r1.aG9,wsm x:=⟨qb,hc2⟩
 split
 ·exact .bnd (Ur c2) λi3 v3 r3 c3 q3=>.ret c3 (Zr q3 ha' hc')
 split
 ·refine .bnd (rU (λx => -1000000000000000<=x/\x<=1000000000000000) qe qe c2) λi3 v3 r3 c3 q3=>.bnd (rU (λx => -1000000000000000<=x/\x<=1000000000000000) qe qe c3) λi4 v4 r4 c4 q4 => ?_
  dsimp only
  rw [AK qs qb,qA]
  refine .ret c4 (Zr hs ⟨qn,λx hx => ?_⟩ hc')
  rcases List.mem_append.1 hx with hx | hx
  ·exact ha2 x hx
  ·rw [List.mem_singleton.1 hx];exact ⟨bgI q3,bgI q4⟩
 split
 ·refine .bnd (SL c2) λi3 v3 r3 c3 q3 => ?_
  dsimp only
  rw [AK qs qb,qA]
  refine .ret c3 (Zr hs ha' ⟨qn,λx hx => ?_⟩)
  rcases List.mem_append.1 hx with hx | hx
  ·exact hc2 x hx
  ·rw [List.mem_singleton.1 hx];exact q3
 split
 ·have key : ∀(n k:Nat) (l:List M.aP),64-k<n->k<=64->l.length<=k->(∀x∈l,M.aP.ok x)->Dr b S7 (vJ (i1,v1,r1) (i2,v2,r2) n (k:Int) l):=by
   intro n
   induction n with
   | zero=>intro k l h _ _ _;omega
   | succ n ih =>
    intro k l hn hk hl hx
    simp only [vJ]
    rcases Nat.lt_or_ge k 64 with h6 | h6
    ·rw [if_pos qc,AK qs qb,qA,bD qb]
     refine ih (k+1) (l++[_]) qb qb qn λx hx' => ?_
     rcases List.mem_append.1 hx' with hx' | hx'
     ·exact hx x hx'
     ·rw [List.mem_singleton.1 hx'];exact ⟨bgI qh,wU⟩
    ·rw [if_neg qc];exact .ret c2 (Zr hs ⟨qb,hx⟩ hc')
  exact key fuel 4 [] (kE qb) qb qd qd
 ·exact .ret c2 (Zr hs ha' hc')
def Uo (p:M.bJ):Prop:=M.bJ.ok p/\M.bJ.sz p<=2000
theorem WW {b:List Int} {i h:Int} (c0:okC b i h):Dr b Uo (Aw (⟨b,i,h⟩:M.aN)):=by
 unfold Aw
 refine .bnd (T4 c0) λi1 v1 r1 c1 q1=>.bnd (aU c1) λi2 v2 r2 c2 q2 => ?_
 dsimp only
 obtain ⟨ho,hl,hz⟩:=q1
 have hz':=hz
 simp only [M.bJ.sz] at hz'
 split
 ·exact .bnd (rU (λx => -1000000000000000<=x/\x<=1000000000000000) qe qe c2) λi3 v3 r3 c3 q3=>.ret c3 ⟨⟨bgI q3,ho.aGl,ho.Top,ho.aGg,ho.aW,ho.aGu⟩,by show M.bJ.sz r1<=2000;omega⟩
 split
 ·refine .bnd (Bl (λs=>s.size<=16) qe qe c2) λi3 v3 r3 c3 q3=>.bnd (aU c3) λi4 v4 r4 c4 q4 => ?_
  dsimp only
  rw [AK qs qb,qA]
  have q3':r3.size<=16:=q3
  refine .ret c4 ⟨⟨ho.Id,ho.aGl,ho.Top,ho.aGg,⟨ml qn,λx hx => ?_⟩,ho.aGu⟩,?_⟩
  ·rcases List.mem_append.1 hx with hx | hx;(exact ho.aW.2 x hx);·rw [List.mem_singleton.1 hx];exact ⟨s16 q3,bH _⟩
  ·simp only [M.bJ.sz,tP,cX,M.aW.sz,qE,qJ,qK];omega
 split
 ·exact .bnd (rU (λx => -1000000000000000<=x/\x<=1000000000000000) qe qe c2) λi3 v3 r3 c3 q3=>.ret c3 ⟨⟨ho.Id,ho.aGl,ho.Top,bgI q3,ho.aW,ho.aGu⟩,by show M.bJ.sz r1<=2000;omega⟩
 split
 ·have e5:(⟨#[105,110,100,101,120]⟩:ByteArray).size=5:=rfl
  have key : ∀(n:Nat) (l:List M.aW),8-l.length<n->l.length<=8->(∀x∈l,M.aW.ok x)->cX M.aW.sz l+6*(8-l.length)<=cX M.aW.sz r1.aW+48->Dr b Uo (uU (i1,v1,r1) (i2,v2,r2) n l):=by
   intro n
   induction n with
   | zero=>intro l h _ _ _;omega
   | succ n ih =>
    intro l hn hk hx hs
    simp only [uU]
    rcases Nat.lt_or_ge l.length 8 with h6 | h6
    ·rw [if_pos qc,AK qs qb,qA];refine ih (l++[_]) qn qn (λx hx' => ?_) ?_;(rcases List.mem_append.1 hx' with hx' | hx';(exact hx x hx');·rw [List.mem_singleton.1 hx'];exact ⟨s16 (show (⟨#[105,110,100,101,120]⟩:ByteArray).size<=16 by decide),ho.aGg⟩);·simp only [tP,cX,M.aW.sz,e5,qE,qJ,qK];omega
    ·rw [if_neg qc];refine .ret c2 ⟨⟨ho.Id,ho.aGl,ho.Top,ho.aGg,⟨ml (by show l.length<=_;omega),hx⟩,ho.aGu⟩,?_⟩;simp only [M.bJ.sz];omega
  exact key fuel r1.aW (kE qb) qb ho.aW.2 qb
 ·exact .ret c2 ⟨ho,qb⟩
def wdI (n:Nat) (w:M.World):Prop:=inI w.Now/\inI w.aGp/\stN 4 w.aA/\(w.aGx.length<=n /\ ∀p∈w.aGx,Uo p)/\inI w.aGv/\(w.aGy.aGy=[])/\(w.aGt.aHN=[])/\(w.aG2.length<=3/\(∀s∈w.aG2,M.aGl.ok s/\M.aGl.sz s<=100))/\(w.aGz.length<=3 /\ ∀s∈w.aGz,S7 s)
theorem wdI.ok {n:Nat} {w:M.World} (h:wdI n w) (hn:n<=20):M.World.ok w:=by obtain ⟨h1,h2,h3,h4,h5,h6,h7,h8,h9⟩:=h;exact ⟨h1,h2,h3.ok qb,⟨ml qb,λp hp=>(h4.2 p hp).1⟩,h5,⟨by rw [h6];simp [maxLen],by rw [h6];simp⟩,⟨by rw [h7];simp [maxLen],by rw [h7];simp⟩,⟨ml qb,λp hp=>(h8.2 p hp).1⟩,⟨ml qb,λp hp=>(h9.2 p hp).1⟩⟩
theorem wdI.sz {n:Nat} {w:M.World} (h:wdI n w) (hn:n<=20):M.World.sz w<=900000:=by
 obtain ⟨h1,h2,h3,h4,h5,h6,h7,h8,h9⟩:=h
 have a1:=dI (w:=M.aG.sz) (b:=180000) (xs:=w.aA.aGj) λb hb=>(h3.2 b hb).sz
 have a2:=dI (w:=M.bJ.sz) (b:=2000) (xs:=w.aGx) λb hb=>(h4.2 b hb).2
 have a3:=dI (w:=M.aGl.sz) (b:=100) (xs:=w.aG2) λb hb=>(h8.2 b hb).2
 have a4:=dI (w:=M.aGr.sz) (b:=30000) (xs:=w.aGz) λb hb=>(h9.2 b hb).2
 have b1:=h3.1
 have b2:=h4.1
 have b3:=h8.1
 have b4:=h9.1
 simp only [M.World.sz,M.aA.sz,M.aR.sz,M.aGt.sz,h6,h7,cX,qK]
 omega
theorem ZU {d:Int}:wdI 0 (S0 d):=by unfold S0;split;(rename_i h;refine ⟨wU,bgI qh,⟨qd,qd⟩,⟨qd,qd⟩,R8,rfl,rfl,⟨by simp [pV],λs hs => ?_⟩,⟨by simp [pV],λs hs => ?_⟩⟩;(simp only [pV,List.map_cons,List.map_nil,List.mem_cons,qO,or_false] at hs;rcases hs with rfl | rfl | rfl<;>exact ⟨⟨s16 qe,R8,⟨ml qd,λy hy=>by simp only [List.mem_cons,qO,or_false] at hy;rcases hy with rfl | rfl | rfl | rfl<;>exact s16 qe⟩⟩,qe⟩);·simp only [pV,List.map_cons,List.map_nil,List.mem_cons,qO,or_false] at hs;rcases hs with rfl | rfl | rfl<;>exact Zr Na.any ⟨qd,qd⟩ ⟨qd,qd⟩);·exact ⟨wU,wU,⟨qd,qd⟩,⟨qd,qd⟩,wU,rfl,rfl,⟨qd,qd⟩,⟨qd,qd⟩⟩
theorem MV (x:M.aA):Kn x x=true:=nX OQ _
theorem SH (x:M.bJ):PI x x=true:=by simp [PI,Kj,nX (f:=Fk) (λy=>by simp [Fk]),nX (f:=Ip) (λy=>by simp [Ip]),nX (f:=N5) (λy=>by simp [N5])]
theorem Oo (x:M.aGr):Hh x x=true:=by simp [Hh,Hf,nX (f:=D7) (λy=>by simp [D7]),nX (f:=DC) (λy=>by simp [DC])]
theorem SN (x:M.aGl):Qs x x=true:=by simp [Qs,nX (f:=FT) (λy=>by simp [FT])]
theorem PY (x:M.World):Rz x x=true:=by simp [Rz,MV,nX (f:=PI) SH,nX (f:=Ly) (λy=>by simp [Ly]),nX (f:=KS) (λy=>by simp [KS]),nX (f:=Qs) SN,nX (f:=Hh) Oo]
theorem J9 (x:List M.bJ) (hs:x.length+cX M.bJ.sz x<=1073741824):yI x=some x:=by
 unfold yI
 exact AM (xs:=x) (b:=144) (L:=lN x) (E:=some) qb qb (λn r k hk=>by
  have hy:=cO (f:=M.bJ.sz) (qG hk)
  simp only [lN]
  rw [if_pos (aY hk),aK hk,qA,K8 _ qb,qA,bD qb]) (λn r=>by
  simp only [lN]
  rw [if_neg qk])
theorem zI (w:M.World) (hs:M.World.sz w<=1073741824):bP w=some w:=by
 simp only [M.World.sz] at hs
 have e3:iZ w w.aA w.aGx w.aGy w.aGt w.aG2 fuel 0 ([]:List M.aGr)=some w:=AM (xs:=w.aGz) (b:=96) (L:=iZ w w.aA w.aGx w.aGy w.aGt w.aG2) (E:=λr=>some { w with aGz:=r }) qb qb (λn r k hk=>by
   have hy:=cO (f:=M.aGr.sz) (qG hk)
   simp only [iZ]
   rw [if_pos (aY hk),aK hk,qA,LR _ qb,qA,bD qb]) (λn r=>by
   simp only [iZ]
   rw [if_neg qk])
 have e2:jC w w.aA w.aGx w.aGy w.aGt fuel 0 ([]:List M.aGl)=some w:=(AM (xs:=w.aG2) (b:=56) (L:=jC w w.aA w.aGx w.aGy w.aGt) (E:=λr=>iZ w w.aA w.aGx w.aGy w.aGt r fuel 0 ([]:List M.aGr)) qb qb (λn r k hk=>by
   have hy:=cO (f:=M.aGl.sz) (qG hk)
   simp only [jC]
   rw [if_pos (aY hk),aK hk,qA,Gz _ qb,qA,bD qb]) (λn r=>by
   simp only [jC]
   rw [if_neg qk])).trans e3
 have e1:mB w w.aA fuel 0 ([]:List M.bJ)=some w:=(AM (xs:=w.aGx) (b:=144) (L:=mB w w.aA) (E:=λr=>(wR w.aGy).bind λx=>(zJ w.aGt).bind λy=>jC w w.aA r x y fuel 0 ([]:List M.aGl)) qb qb (λn r k hk=>by
   have hy:=cO (f:=M.bJ.sz) (qG hk)
   simp only [mB]
   rw [if_pos (aY hk),aK hk,qA,DQ _ qb,qA,bD qb]) (λn r=>by
   simp only [mB]
   rw [if_neg qk])).trans (by rw [GD _ qb,qA,L3 _ qb,qA];exact e2)
 unfold bP
 rw [DR _ qb,qA]
 exact e1
theorem Kb (w:M.World) (hs:M.World.sz w<=1073741824):yP w=some w:=by
 simp only [M.World.sz] at hs
 have e3:gA w w.aA w.aGx w.aGy w.aGt w.aG2 fuel 0 ([]:List M.aGr)=some w:=AM (xs:=w.aGz) (b:=96) (L:=gA w w.aA w.aGx w.aGy w.aGt w.aG2) (E:=λr=>some { w with aGz:=r }) qb qb (λn r k hk=>by
   have hy:=cO (f:=M.aGr.sz) (qG hk)
   simp only [gA]
   rw [if_pos (aY hk),aK hk,qA,Jr _ qb,qA,bD qb]) (λn r=>by
   simp only [gA]
   rw [if_neg qk])
 have e2:iO w w.aA w.aGx w.aGy w.aGt fuel 0 ([]:List M.aGl)=some w:=(AM (xs:=w.aG2) (b:=56) (L:=iO w w.aA w.aGx w.aGy w.aGt) (E:=λr=>gA w w.aA w.aGx w.aGy w.aGt r fuel 0 ([]:List M.aGr)) qb qb (λn r k hk=>by
   have hy:=cO (f:=M.aGl.sz) (qG hk)
   simp only [iO]
   rw [if_pos (aY hk),aK hk,qA,FR _ qb,qA,bD qb]) (λn r=>by
   simp only [iO]
   rw [if_neg qk])).trans e3
 unfold yP
 rw [H8 _ qb,qA,J9 _ qb,qA,Kd _ qb,qA,HX _ qb,qA]
 exact e2
theorem Iw {a:ByteArray} (h : ¬B8 a<0) : ∃k:Nat,B8 a=(k:Int)/\k<3:=by obtain ⟨k,e,hk⟩:=fI (show ¬kG (λx:ByteArray=>x.toList==a.toList) pV<0 from h);exact ⟨k,e,hk⟩
theorem FB {w:M.World} (h:xO w=true):w.aG2.length=3:=by unfold xO at h;rw [qM] at h;simpa using h.1
theorem aFl {α:Type} (a b:Bool) (x y:α):(if a=true then (if b=true then x else y) else y)=if (a&&b)=true then x else y:=by cases a<;>cases b<;>rfl
def Ob (s:M.aGl):M.aGl:=(⟨s.Name,i64.wrap (s.aGg+1),s.aG8,s.aHJ⟩:M.aGl)
def N0 (s:M.aGl):M.aGl×Bool:=if DP s=true then (if DP (Ob s)=true then (Ob s,true) else (s,false)) else (s,false)
theorem K2 {s:M.aGl} (h:DP s=true):1<=s.aGg/\s.aGg<=1000000000000:=by simp only [DP,qM,inR,qL] at h;exact h.2.2.1
theorem Ni {s:M.aGl} (hs:s.ok):(Ob s).ok:=⟨hs.Name,bH _,hs.aG8⟩
theorem UZ {s:M.aGl} (hs:s.ok):(N0 s).1.ok:=by unfold N0;split;(split;(exact Ni hs);·exact hs);·exact hs
theorem U0 (s:M.aGl):M.aGl.sz (N0 s).1=M.aGl.sz s:=by unfold N0;split;(split<;>rfl);·rfl
theorem TU {s:M.aGl} (h:(N0 s).2=false):(N0 s).1=s:=by unfold N0 at h ⊢;by_cases h1:DP s=true;(rw [if_pos h1] at h ⊢;by_cases h2:DP (Ob s)=true;(rw [if_pos h2] at h;cases h);·rw [if_neg h2]);·rw [if_neg h1]
theorem L2 {s:M.aGl} (hs:s.ok) (hz:M.aGl.sz s<=1048576):A6 s=some (N0 s):=by
 have e : ∃v,BJ s.aGg=some v/\(DP s=true->v=i64.wrap (s.aGg+1)):=by unfold BJ;by_cases h:s.aGg>1000000000000;(exact ⟨_,if_pos (by simpa using h),λhn=>absurd (K2 hn).2 qb⟩);·exact ⟨_,if_neg (by simpa using h),λ_=>rfl⟩
 obtain ⟨v,e1,e2⟩:=e
 unfold A6 N0
 rw [Gz s qb,qA,e1,qA,Ax hs,qA]
 cases hn:DP s with
 | false=>simp
 | true =>
  rw [e2 hn,if_neg qd,if_pos rfl,show (⟨s.Name,i64.wrap (s.aGg+1),s.aG8,s.aHJ⟩:M.aGl)=Ob s from rfl,Ax (Ni hs),qA,qA]
  cases DP (Ob s)<;>simp
theorem L8 {s:M.aGl} (hs:s.ok) (hz:M.aGl.sz s<=1048576):AW s=some (N0 s):=by
 unfold AW N0
 rw [FR s qb,qA,By hs,qA]
 cases hn:DP s with
 | false=>simp
 | true =>
  rw [if_neg qd,if_pos rfl,show (⟨s.Name,i64.wrap (s.aGg+1),s.aG8,s.aHJ⟩:M.aGl)=Ob s from rfl,By (Ni hs),qA,qA]
  cases DP (Ob s)<;>simp
theorem JG {α:Type} {f:α->Nat} (g:α->Bool) : ∀xs:List α,cX f (xs.filter g)<=cX f xs
 | []=>Nat.le_refl _
 | x::xs=>by have:=JG g xs (f:=f);by_cases h:g x=true;(rw [List.filter_cons_of_pos h];simp only [cX];omega);·rw [List.filter_cons_of_neg h];simp only [cX];omega
def Yt (a b:ByteArray) (x:M.bJ):Bool:=(x.aGl.toList==a.toList)&&(x.Top.toList==b.toList)
theorem L0 {w:M.World} {a b:ByteArray} (hz:M.World.sz w<=1048576):A4 w a b=some (w.aGx.filter (Yt a b)):=by
 have hl:w.aGx.length<=1048576:=by simp only [M.World.sz] at hz;omega
 unfold A4
 refine Io (L:=jA w a b) (b:=144) (E:=some) qj qb (λn r k hk => ?_) (λn r => ?_)
 ·have hz1:=cO (f:=M.bJ.sz) (qG hk);simp only [M.World.sz] at hz;simp only [jA];rw [if_pos (aY hk),aK hk,qA,DQ _ qb,qA,bD qb,aFl];rfl
 ·simp only [jA];rw [if_neg qk]
def F8 (s:M.aGl) (v:Int):Bool:=DP s&&(decide (v>s.aGg-2)&&(decide (v<=s.aGg)&&decide (v>=1)))
theorem Ey {s:M.aGl} {v:Int} (hs:s.ok):nL s v=some (F8 s v):=by
 unfold nL F8
 rw [Ax hs,qA]
 cases hn:DP s with
 | false=>simp
 | true =>
  have hv:=K2 hn
  rw [if_pos rfl,bN (n:=s.aGg-2) qb qb,bN qb qb]
  unfold zM bA
  by_cases h:s.aGg-2+1>1
  ·rw [if_pos (by simpa using h),qA]
   by_cases h1:v>=s.aGg-2+1
   ·rw [if_pos (by simpa using h1),qA]
    have e1:decide (v>s.aGg-2)=true:=by simp;omega
    have e2:decide (v>=1)=true:=by simp;omega
    rw [e1,e2];simp
   ·rw [if_neg (by simpa using h1),qA]
    have e1:decide (v>s.aGg-2)=false:=by simp;omega
    rw [e1];simp
  ·rw [if_neg (by simpa using h),qA]
   by_cases h1:v>=1
   ·rw [if_pos (by simpa using h1),qA]
    have e1:decide (v>s.aGg-2)=true:=by simp;omega
    have e2:decide (v>=1)=true:=by simpa using h1
    rw [e1,e2];simp
   ·rw [if_neg (by simpa using h1),qA]
    have e2:decide (v>=1)=false:=by simpa using h1
    rw [e2];simp
def Zv (s:M.aGl) (f:ByteArray):Bool:=s.aG8.any λx=>x.toList==f.toList
theorem GL {s:M.aGl} {f:ByteArray} (hs:s.ok):AS s f=some (Zv s f):=by have hm:=le_max hs.aG8.1;unfold AS Zv;rw [findAll (L:=oK s f) (f:=λx:ByteArray=>x.toList==f.toList) (A:=λ_=>some true) (E:=some false) hs.aG8.1 (λm k hk => ?_) (λm => ?_),Nw];(cases s.aG8.any (λx=>x.toList==f.toList)<;>rfl);(simp only [oK];rw [if_pos (aY hk),aK hk,qA,bD qb]);·simp only [oK];rw [if_neg qk]
theorem UC:M.aGm.ok (⟨4,0,0,([]:List Int),false⟩:M.aGm):=⟨by unfold inI;simp,by unfold inI;simp,by unfold inI;simp,⟨by simp [maxLen],qd⟩⟩
theorem M1 {s:M.aGl} {f:ByteArray} {v:Int} (hs:s.ok) (hv:inI v) (zs:M.aGl.sz s<=1048576) (zf:f.size<=1048576) : ∃r,iT s f v=some r/\M.aGm.ok r:=by
 have hn:s.Name.size<=1048576:=by simp only [M.aGl.sz] at zs;omega
 obtain ⟨l,e1,_,hl⟩:=M8 (t:=s) (f:=f) (v:=v) hn zf
 unfold iT cC
 rw [Ax hs,Ey hs,GL hs,e1]
 have aa:M.aGm.ok (⟨1,404,s.aGg,([]:List Int),false⟩:M.aGm):=⟨by unfold inI;simp,by unfold inI;simp,hs.aGg,⟨by simp [maxLen],qd⟩⟩
 simp only [qA]
 cases DP s
 ·exact ⟨_,rfl,UC⟩
 ·cases F8 s v;(exact ⟨_,rfl,aa⟩);·cases Zv s f;(exact ⟨_,rfl,aa⟩);·exact ⟨_,rfl,⟨by unfold inI;simp,by unfold inI;simp,hv,hl⟩⟩
theorem Ns {s:M.aC} {v:Int} {a b:ByteArray} (hs:s.ok) (hz:s.sz<=1048576) : ∃r,gO s v a b=some r/\M.aGm.ok r.1:=by
 unfold gO cC
 rw [yS hs]
 simp only [qA]
 have hnil:M.aGm.ok (⟨4,0,0,([]:List Int),false⟩:M.aGm):=⟨by unfold inI;simp,by unfold inI;simp,by unfold inI;simp,⟨by simp [maxLen],qd⟩⟩
 by_cases h:kG (λc:M.aGo=>c.aGg==v) s.aGi<0
 ·simp only [h,decide_true,if_true];exact ⟨_,rfl,hnil⟩
 ·obtain ⟨k,e,hk⟩:=fI h
  simp only [h,decide_false,qD,if_false]
  rw [e,aK hk]
  have hc:=hs.aGi.2 _ (qG hk)
  simp only [qA]
  rw [DU hc]
  simp only [qA]
  by_cases h2:kG (EY a b) s.aGi[k].aGs<0
  ·simp only [h2,decide_true,if_true];exact ⟨_,rfl,hnil⟩
  ·obtain ⟨j,e2,hj⟩:=fI h2
   simp only [h2,decide_false,qD,if_false]
   rw [e2,aK hj]
   have hx:=hc.aGs.2 _ (qG hj)
   have z1:=cO (f:=M.aGo.sz) (qG hk)
   have z2:=cO (f:=M.aGw.sz) (qG hj)
   unfold M.aC.sz at hz
   have q1:M.aGo.sz s.aGi[k]=s.aGi[k].aGs.length+cX M.aGw.sz s.aGi[k].aGs:=rfl
   have q2:M.aGw.sz s.aGi[k].aGs[j]=s.aGi[k].aGs[j].aGl.size+(s.aGi[k].aGs[j].aHQ.size+s.aGi[k].aGs[j].aGm.aHT.length):=rfl
   have hb:(s.aGi[k].aGs[j].aGm.aHT).length<=1048576:=by omega
   simp only [qA,pH]
   rw [dN qc]
   exact ⟨_,rfl,hx.aGm⟩
theorem LY {c:M.aC} {s:M.aGl} {f:ByteArray} {v:Int} {o:Bool} (hc:c.ok) (hs:s.ok) (hv:inI v) (zc:c.sz<=1048576) (zs:M.aGl.sz s<=1048576) (zf:f.size<=1048576) : ∃r,hJ c s v f o=some r/\M.aGm.ok r:=by obtain ⟨x,e1,hx⟩:=Ns (s:=c) (v:=v) (a:=s.Name) (b:=f) hc zc;obtain ⟨y,e3,hy⟩:=M1 (f:=f) hs hv zs zf;unfold hJ cC;rw [e1,e3];simp only [qA];cases x.2;(cases o;(exact ⟨_,rfl,UC⟩);·exact ⟨_,rfl,hy⟩);·exact ⟨_,rfl,hx⟩
def aAh (x y:M.nW):Bool:=(y.Name.toList==x.Name.toList)&&(!y.aHc||(!y.aHJ || !x.aHJ))
def aAN (l:List M.nW) (x:M.nW):Bool := !(l.any (aAh x))
theorem Z8 {α:Type} (n a b c:Bool) (p q:α):(if n=true then (if (!a)=true then p else (if (!b)=true then p else (if (!c)=true then p else q))) else q)=if (n&&(!a||(!b || !c)))=true then p else q:=by cases n<;>cases a<;>cases b<;>cases c<;>rfl
theorem SQ {l:List M.nW} {n:Nat} {x:M.nW} (hl:l.length<=maxLen) (hn:n<=l.length):Bz l (n:Int) x=some (aAN (l.take n) x):=by
 have hm:=le_max hl
 have ht:(l.take n).length=n:=by simp;omega
 unfold Bz aAN
 rw [findAll (xs:=l.take n) (L:=nN l (n:Int) x) (f:=aAh x) (A:=λ_=>some false) (E:=some true) (by rw [ht];omega) (λm k hk => ?_) (λm => ?_),Nw]
 ·cases (l.take n).any (aAh x)<;>rfl
 ·have hk':k<n:=by omega
  simp only [nN]
  rw [if_pos (by simpa using hk'),aK (show k<l.length by omega),qA,bD qb,Z8,List.getElem_take]
  rfl
 ·rw [ht];simp only [nN];rw [if_neg qd]
theorem Mq {α:Type} {f:α->Nat} : ∀(n:Nat) (l:List α),cX f (l.drop n)<=cX f l
 | 0,l=>by simp
 | n+1,[]=>by simp
 | n+1,x::l=>by have:=Mq (f:=f) n l;simp only [List.drop_succ_cons,cX];omega
theorem UA {α:Type} {f:α->Nat} (k:Nat) (l:List α):cX f (l.take k++l.drop (k+1))<=cX f l:=by have h1:=tP (f:=f) (l.take k) (l.drop (k+1));have h2:=tP (f:=f) (l.take k) (l.drop k);rw [List.take_append_drop] at h2;have h3:=Mq (f:=f) 1 (l.drop k);rw [List.drop_drop] at h3;omega
def nGr (l:List M.nW) (k:Nat):List M.nW:=match l[k]? with
 | some x=>if x.aHc=true then l else if aAN (l.take k) x=true then l.set k (⟨x.Name,x.bJ,x.aHJ,true⟩:M.nW) else l
 | none=>l
theorem ZC {l:List M.nW} {k:Nat} (h:k<l.length):nGr l k=if l[k].aHc=true then l else if aAN (l.take k) l[k]=true then l.set k (⟨l[k].Name,l[k].bJ,l[k].aHJ,true⟩:M.nW) else l:=by unfold nGr;rw [qF h]
theorem YO (l:List M.nW) (k:Nat):(nGr l k).length=l.length:=by unfold nGr;split;(split;(rfl);·split<;>simp);·rfl
def Ol (l:List M.nW):List M.nW:=(List.range l.length).foldl nGr l
theorem TJ {N:Nat} {L:Nat->Int->List M.nW->Option M.aR} (hN:N<=maxLen) (h1 : ∀n (r:List M.nW) (k:Nat),k<N->r.length=N->L (n+1) (k:Int) r=L n ((k+1:Nat):Int) (nGr r k)) (h2 : ∀n (r:List M.nW),r.length=N->L (n+1) (N:Int) r=some (⟨r⟩:M.aR)) (l:List M.nW) (h0:l.length=N) :
  L fuel 0 l=some (⟨Ol l⟩:M.aR):=by
 have hx:(List.range N).length=N:=List.length_range
 have:=Mm (xs:=List.range N) (L:=λn k r=>L n k r) (step:=nGr) (I:=λk r=>r.length=N) (E:=λr=>some (⟨r⟩:M.aR)) (by rw [hx];exact hN) (λs k hk hi=>(YO s _).trans hi) (λn s k hk hi=>by rw [List.getElem_range];exact h1 n s k (by rw [hx] at hk;exact hk) hi) (λn s hi=>by rw [hx];exact h2 n s hi) l h0
 unfold Ol
 rw [h0]
 exact this.1
theorem Jt {t:M.aR} (hl:t.aGy.length<=1048576) (hz:M.aR.sz t<=1073741824):tM t=some (⟨Ol t.aGy⟩:M.aR):=by
 unfold tM
 rw [GD t hz,qA]
 refine TJ (N:=t.aGy.length) (L:=eT) qj (λn r k hk hr => ?_) (λn r hr => ?_) t.aGy rfl
 ·have hk':k<r.length:=by omega
  simp only [eT]
  rw [if_pos (aY hk'),aK hk',qA,bD qb,SQ qj qb,qA,qH,ZC hk']
  cases r[k].aHc
  ·cases aAN (r.take k) r[k]<;>rfl
  ·rfl
 ·simp only [eT];rw [<-hr,if_neg qk]
def Uw (t:M.aR) (p:Int):M.aR:=(⟨Ol (t.aGy.filter λx=>x.bJ != p)⟩:M.aR)
theorem X7 {t:M.aR} (p:Int):M.aR.sz (⟨t.aGy.filter λx=>x.bJ != p⟩:M.aR)<=M.aR.sz t:=by have h4:=List.length_filter_le (λx:M.nW=>x.bJ != p) t.aGy;have h5:=JG (f:=M.nW.sz) (λx:M.nW=>x.bJ != p) t.aGy;simp only [M.aR.sz];omega
theorem GV {t:M.aR} {p:Int} (hl:t.aGy.length<=1048576) (hz:M.aR.sz t<=1073741824):tY t p=some (Uw t p):=by have h4:=List.length_filter_le (λx:M.nW=>x.bJ != p) t.aGy;have h5:=X7 (t:=t) p;unfold tY Uw;rw [Io (xs:=t.aGy) (L:=eM t p) (b:=32) (f:=λx:M.nW=>x.bJ != p) (E:=λr=>(tM (⟨r⟩:M.aR)).bind λx=>some x) qj qb (λn r k hk => ?_) (λn r => ?_)];(rw [Jt (by simpa using Nat.le_trans h4 hl) qb,qA]);(simp only [eM];rw [if_pos (aY hk),aK hk,qA,bD qb]);·simp only [eM];rw [if_neg qk]
def OW (x:M.aGt) (p:Int):M.aGt:=(⟨x.aHN.filter λm=>m.To != p⟩:M.aGt)
theorem Kg {x:M.aGt} {p:Int} (hl:x.aHN.length<=1048576):yV x p=some (OW x p):=by unfold yV OW;refine Io (xs:=x.aHN) (L:=iJ x p) (b:=24) (f:=λm:M.Bk=>m.To != p) (E:=λr=>some (⟨r⟩:M.aGt)) qj qb (λn r k hk => ?_) (λn r => ?_);(simp only [iJ];rw [if_pos (aY hk),aK hk,qA,bD qb]);·simp only [iJ];rw [if_neg qk]
theorem V1 {α:Type} {f:α->Bool} {l:List α} {k:Nat} {x:α} (e:kG f l=(k:Int)) (hx:f x=true):kG f (l.set k x)=(k:Int)/\(l.set k x)[k]? = some x:=by
 obtain ⟨hk,hf⟩:=AA e
 have h1:=Ek hk hf
 have hk2:k<(l.set k x).length:=by rw [qN];exact hk
 have hg:(l.set k x)[k]? = some x:=by rw [qF hk2,List.getElem_set_self]
 have h2:=Ek (f:=f) (xs:=l.set k x) hk2 (by rw [List.getElem_set_self];exact hx)
 rw [e,beq_self_eq_true] at h1
 refine ⟨eq_of_beq (h2.trans ?_),hg⟩
 rw [qQ]
 intro j hj
 have h3:=(List.all_eq_true.1 h1.symm) j hj
 have hne:k≠j:=by have:=List.mem_range.1 hj;omega
 rw [List.getElem?_set_ne hne]
 exact h3
theorem WU {α:Type} {f:α->Bool} {l:List α} {p:Nat} {x:α} (hp:p<=l.length) (h : ∀y∈l,f y=false) (hx:f x=true):kG f (l.take p++([x]++l.drop p))=(p:Int)/\(l.take p++([x]++l.drop p))[p]? = some x:=by
 have ht:(l.take p).length=p:=by rw [qT];omega
 have hl:p<(l.take p++([x]++l.drop p)).length:=by simp only [qE,ht,qJ,qK];omega
 have hg:(l.take p++([x]++l.drop p))[p]? = some x:=by rw [List.getElem?_append_right qb,ht,Nat.sub_self];rfl
 have hg2:(l.take p++([x]++l.drop p))[p]=x:=by rw [qF hl] at hg;exact Option.some.inj hg
 refine ⟨eq_of_beq ((Ek hl (by rw [hg2];exact hx)).trans ?_),hg⟩
 rw [qQ]
 intro j hj
 have hj':=List.mem_range.1 hj
 rw [List.getElem?_append_left qb]
 cases e:(l.take p)[j]? with
 | none=>rfl
 | some y =>
  rw [Option.any_some,h y (List.mem_of_mem_take (List.mem_of_getElem? e))]
  rfl
theorem RG {s:M.aA} {b:M.aG} (hp:(E9 s b).2=true):(E9 s b).1=(⟨CX s b⟩:M.aA)/\rC (⟨CX s b⟩:M.aA)=true:=by unfold E9 LU at hp ⊢;by_cases h1:rC s=true;(by_cases h2:rC (⟨CX s b⟩:M.aA)=true;(rw [if_pos h1,if_pos h2];exact ⟨rfl,h2⟩);·rw [if_pos h1,if_neg h2] at hp;cases hp);·rw [if_neg h1] at hp;cases hp
theorem RH (b:M.aG):nAt b.aGl b.Top b=true:=by unfold nAt;simp
theorem O2 (s:M.aA) (b:M.aG) : ∃j:Nat,kG (nAt b.aGl b.Top) (CX s b)=(j:Int)/\(CX s b)[j]? = some b:=by unfold CX;by_cases h:kG (nAt b.aGl b.Top) s.aGj>=0;(rw [if_pos h];obtain ⟨k,e,hk⟩:=fI (show ¬kG (nAt b.aGl b.Top) s.aGj<0 by omega);rw [e,qH];exact ⟨k,V1 e (RH b)⟩);·rw [if_neg h];exact ⟨Wy s b,WU (Qj s b) (IN qb) (RH b)⟩
theorem Y9 {s:M.aA} (h:rC s=true) {x:M.aG} {j:Nat} (hx:s.aGj[j]? = some x):pL x=true:=by unfold rC at h;rw [qM,qQ] at h;obtain ⟨hj,_⟩:=List.getElem?_eq_some_iff.1 hx;have:=h.1 j (List.mem_range.2 hj);unfold C9 at this;rw [hx,Option.any_some,qM] at this;exact this.1
theorem Xm {s:M.aA} {b:M.aG} (hz:M.aA.sz s<=1048576) (zb:M.aGh.sz b.bW.aG4<=1048576) : ∀x∈(E9 s b).1.aGj,M.aGh.sz x.bW.aG4<=1048576:=by
 have h0 : ∀x∈s.aGj,M.aGh.sz x.bW.aG4<=1048576:=λx hx=>Ad (Tt hz x hx)
 unfold E9 LU
 split
 ·split;(exact Pp hz zb);·exact h0
 ·exact h0
def Nc (r:M.aGf) (s:M.aGl) (o:Bool):Int:=if (r.aHF != 0)=true then r.aHF else if o=true then s.aGg else 0
theorem IH (r:M.aGf) (s:M.aGl) (o:Bool):oL r s o=some (Nc r s o):=by unfold oL Nc;cases (r.aHF != 0)<;>cases o<;>rfl
theorem Ym {r:M.aGf} {s:M.aGl} {o:Bool} (hr:r.ok) (hs:s.ok):inI (Nc r s o):=by unfold Nc;split;(exact hr.aHF);·split;(exact hs.aGg);·exact wU
theorem Xc {p:M.bJ} (h:Ef p=true):(p.aGg==0)=false:=by unfold Ef inR at h;simp only [qM,qL] at h;have:=h.2.2.2.2.1.1;rw [beq_eq_false_iff_ne];omega
theorem V0 (p:M.bJ) (f:ByteArray) (x:M.aGm):(Hl p f x).1.Id=p.Id:=by unfold Hl;split;(rfl);·split;(rfl);·split;(split<;>rfl);·rfl
theorem Ux {w:M.World} {B:M.aG} {p:M.bJ} {f:ByteArray} {k:Nat} (hw:w.ok) (hB:B.ok) (hz:M.World.sz w<=1048576) (hk:k<w.aG2.length) (ek:B8 p.aGl=(k:Int)) (hp:(E9 w.aA B).2=true) (e:nAt p.aGl p.Top=nAt B.aGl B.Top) :
  nP (⟨w.Now,w.aHA,w.aGp,(E9 w.aA B).1,w.aGx,w.aGv,w.aGy,w.aGt,w.aG2,w.aGz⟩:M.World) p f=hJ B.aGi w.aG2[k] p.aGg f w.aHA:=by
 have ho:=PF hw.aA hB (Db hz)
 obtain ⟨j,e1,e2⟩:=O2 w.aA B
 rw [(RG hp).1] at ho ⊢
 unfold nP
 rw [sZ ho,qA,xS,qA,e,ek]
 show (if decide (kG (nAt B.aGl B.Top) (CX w.aA B)<0)=true then _ else _)=_
 rw [e1,if_neg qd,if_neg qd]
 show ((idx (CX w.aA B) (j:Int)).bind _)=_
 rw [ZT e2,qA,aK hk,qA]
 cases hJ B.aGi w.aG2[k] p.aGg f w.aHA<;>rfl
def oS (w:M.World) (B:M.aG) (k:Nat) (a b:ByteArray) (l:List M.Instr):Option (M.World×Int×Bool):=(gI w.aA B).bind λaa=>((idx w.aG2 (k:Int)).bind λai=>((oL B.aGf ai w.aHA).bind λaj=>((kV w.aGv a b aj l).bind λae=>(if (!aa.2)=true then (some (w,0,false)) else (if (!ae.2)=true then (some (w,0,false)) else ((nP (⟨w.Now,w.aHA,w.aGp,aa.1,w.aGx,w.aGv,w.aGy,w.aGt,w.aG2,w.aGz⟩:M.World) ae.1 (⟨#[105,110,100,101,120]⟩:ByteArray)).bind λak=>((kK ae.1 (⟨#[105,110,100,101,120]⟩:ByteArray) ak).bind λaf=>((app 144 w.aGx ([af.1])).bind λal=>(if (!af.2)=true then (some (w,0,false)) else ((gQ (⟨w.Now,w.aHA,w.aGp,aa.1,(w.aGx++[af.1]),(i64.wrap (w.aGv+1)),w.aGy,w.aGt,w.aG2,w.aGz⟩:M.World)).bind λah=>(if (!ah)=true then (some (w,0,false)) else (some ((⟨w.Now,w.aHA,w.aGp,aa.1,(w.aGx++[af.1]),(i64.wrap (w.aGv+1)),w.aGy,w.aGt,w.aG2,w.aGz⟩:M.World),ae.1.Id,true)))))))))))))
def PU (w:M.World) (B:M.aG) (a b:ByteArray) (l:List M.Instr) (p:M.bJ) (R:M.World×Int×Bool):Prop:=xO w=true/\xO R.1=true/\(E9 w.aA B).2=true/\nAt a b=nAt B.aGl B.Top/\R.1=(⟨w.Now,w.aHA,w.aGp,(E9 w.aA B).1,(w.aGx++[p]),(i64.wrap (w.aGv+1)),w.aGy,w.aGt,w.aG2,w.aGz⟩:M.World)/\R.2.1=w.aGv/\R.2.2=true/\M.bJ.ok p/\M.bJ.sz p<=a.size+b.size+(l.length+cX M.Instr.sz l)+10/\p.Id=w.aGv/\p.aGl=a/\p.Top=b/\p.aW=[(⟨(⟨#[105,110,100,101,120]⟩:ByteArray),p.aGg⟩:M.aW)]
def ZX (w:M.World) (q:M.aG):M.aG:=(⟨q.aGl,q.Top,q.aGf,q.aGi,q.bW,q.aH,w.Now,q.aHE⟩:M.aG)
def ZR (w:M.World) (a b:ByteArray) (d:Int):M.aG:=(⟨(CF a b d).1.aGl,(CF a b d).1.Top,(CF a b d).1.aGf,(CF a b d).1.aGi,(CF a b d).1.bW,(CF a b d).1.aH,w.Now,(CF a b d).1.aHE⟩:M.aG)
def Y3 (w:M.World) (a b:ByteArray) (B:M.aG):Prop:=(∃j:Nat,∃hj:j<w.aA.aGj.length,kG (nAt a b) w.aA.aGj=(j:Int)/\B=ZX w w.aA.aGj[j])\/(∃d,inI d/\B=ZR w a b d)
theorem Vi {p:M.bJ} {f:ByteArray} {x:M.aGm} (h:(Hl p f x).2=true):(Hl p f x).1=Fq p f x.aGg/\x.aGg=p.aGg:=by unfold Hl at h ⊢;by_cases h1:(x.aHO != 200)=true;(rw [if_pos h1] at h;cases h);·rw [if_neg h1] at h ⊢;by_cases h2:(x.aGg != p.aGg)=true;(rw [if_pos h2] at h;cases h);·rw [if_neg h2] at h ⊢;by_cases h3:Ef p=true;(rw [if_pos h3] at h ⊢;by_cases h4:Ef (Fq p f x.aGg)=true;(rw [if_pos h4];exact ⟨rfl,by simpa using h2⟩);·rw [if_neg h4] at h;cases h);·rw [if_neg h3] at h;cases h
theorem MK {w:M.World} {B:M.aG} {k:Nat} {a b:ByteArray} {l:List M.Instr} (hw:w.ok) (hn:xO w=true) (hz:M.World.sz w<=1048576) (ha:a.size<=1048576) (hb:b.size<=1048576) (hl:CR l) (zl:l.length+cX M.Instr.sz l<=1048576) (ek:B8 a=(k:Int)) (hk:k<w.aG2.length)
  (hB:B.ok) (zB:M.aG.sz B<=4194304) (zD:M.aGh.sz B.bW.aG4<=1048576) (zC:M.aC.sz B.aGi<=1048576) (H:nAt a b=nAt B.aGl B.Top\/pL B=false) : ∃R:M.World×Int×Bool,oS w B k a b l=some R/\(R=(w,0,false) \/ ∃p,PU w B a b l p R):=by
 have hz':=hz
 simp only [M.World.sz] at hz'
 have z5:(⟨#[105,110,100,101,120]⟩:ByteArray).size=5:=rfl
 have m5:(⟨#[105,110,100,101,120]⟩:ByteArray).size<=maxLen:=RM _ qb
 have z2:=cO (f:=M.aGl.sz) (qG hk)
 have ht:=hw.aG2.2 _ (qG hk)
 have hpg:=hw.aGx.1
 have hv:=Ym (r:=B.aGf) (s:=w.aG2[k]) (o:=w.aHA) hB.aGf ht
 obtain ⟨r,e1,e3⟩:=LY (c:=B.aGi) (s:=w.aG2[k]) (f:=(⟨#[105,110,100,101,120]⟩:ByteArray)) (v:=Nc B.aGf w.aG2[k] w.aHA) (o:=w.aHA) hB.aGi ht hv zC qb qb
 have pk:=O0 (i:=w.aGv) (v:=Nc B.aGf w.aG2[k] w.aHA) hw.aGv (RM _ ha) (RM _ hb) hv hl
 have pz:=N8 w.aGv a b (Nc B.aGf w.aG2[k] w.aHA) l
 have lk:=Ru (f:=(⟨#[105,110,100,101,120]⟩:ByteArray)) (x:=r) pk qb m5 e3.aGg
 have lz:=Rf (Cv w.aGv a b (Nc B.aGf w.aG2[k] w.aHA) l).1 (⟨#[105,110,100,101,120]⟩:ByteArray) r
 have lid:=V0 (Cv w.aGv a b (Nc B.aGf w.aG2[k] w.aHA) l).1 (⟨#[105,110,100,101,120]⟩:ByteArray) r
 have sw:=PF hw.aA hB (Db hz)
 have sz:=T5 w.aA B
 have sd:=Xm (b:=B) (Db hz) zD
 have no : ∃R:M.World×Int×Bool,some (w,0,false)=some R/\(R=(w,0,false) \/ ∃p,PU w B a b l p R):=⟨(w,0,false),rfl,.inl rfl⟩
 unfold oS
 rw [B5 hw.aA hB (Db hz) qb zD,aK hk]
 simp only [qA]
 rw [IH]
 simp only [qA]
 rw [ES hw.aGv (RM _ ha) (RM _ hb) hv hl qb]
 simp only [qA]
 cases hP:(Cv w.aGv a b (Nc B.aGf w.aG2[k] w.aHA) l).2 with
 | false =>
  simp only [qC,if_true,ite_self]
  exact no
 | true =>
  have hpp:Ef (Dm w.aGv a b (Nc B.aGf w.aG2[k] w.aHA) l)=true:=by unfold Cv at hP;split at hP;(assumption);·cases hP
  have hbp:(Cv w.aGv a b (Nc B.aGf w.aG2[k] w.aHA) l).1=Dm w.aGv a b (Nc B.aGf w.aG2[k] w.aHA) l:=by unfold Cv;rw [if_pos hpp]
  have hv0:(Nc B.aGf w.aG2[k] w.aHA==0)=false:=Xc hpp
  simp only [hv0,qB,qD,if_false]
  cases hp:(E9 w.aA B).2 with
  | false =>
   simp only [qC,if_true,qA,ite_self]
   exact no
  | true =>
   have e:nAt a b=nAt B.aGl B.Top:=by rcases H with H | H;(exact H);·obtain ⟨j,_,e2⟩:=O2 w.aA B;have:=Y9 (RG hp).2 e2;rw [H] at this;cases this
   have hA:nP (⟨w.Now,w.aHA,w.aGp,(E9 w.aA B).1,w.aGx,w.aGv,w.aGy,w.aGt,w.aG2,w.aGz⟩:M.World) (Cv w.aGv a b (Nc B.aGf w.aG2[k] w.aHA) l).1 (⟨#[105,110,100,101,120]⟩:ByteArray)=some r:=by rw [Ux hw hB hz hk (by rw [hbp];exact ek) hp (by rw [hbp];exact e),hbp];exact e1
   rw [hA]
   simp only [qB,qD,if_false,qA]
   rw [F6 pk qb qb m5 e3.aGg]
   simp only [qA]
   rw [dN qs]
   simp only [qA,lid]
   generalize hXe:Hl (Cv w.aGv a b (Nc B.aGf w.aG2[k] w.aHA) l).1 (⟨#[105,110,100,101,120]⟩:ByteArray) r=X at lk lz
   cases hX:X.2 with
   | false =>
    simp only [qC,if_true]
    exact no
   | true =>
    simp only [qB,qD,if_false]
    have wo:M.World.ok (⟨w.Now,w.aHA,w.aGp,(E9 w.aA B).1,(w.aGx++[X.1]),(i64.wrap (w.aGv+1)),w.aGy,w.aGt,w.aG2,w.aGz⟩:M.World):=⟨hw.Now,hw.aGp,sw,⟨by
     show (w.aGx++[X.1]).length<=maxLen
     rw [qE]
     exact RM _ qs,λy hy=>by
     have hy':y∈w.aGx++[X.1]:=hy
     rcases List.mem_append.1 hy' with h | h
     ·exact hw.aGx.2 y h
     ·rw [List.mem_singleton.1 h];exact lk⟩,bH _,hw.aGy,hw.aGt,hw.aG2,hw.aGz⟩
    rw [FP wo sd]
    simp only [qA]
    generalize hc:xO _=c
    cases c with
    | false =>
     simp only [qC,if_true]
     exact no
    | true =>
     simp only [qB,qD,if_false]
     obtain ⟨y1,y2⟩:=Vi (p:=(Cv w.aGv a b (Nc B.aGf w.aG2[k] w.aHA) l).1) (f:=(⟨#[105,110,100,101,120]⟩:ByteArray)) (x:=r) (by rw [hXe];exact hX)
     rw [hXe,hbp] at y1
     rw [hbp] at y2
     refine ⟨_,rfl,.inr ⟨X.1,hn,hc,hp,e,rfl,?_,rfl,lk,?_,?_,?_,?_,?_⟩⟩
     ·show (Cv w.aGv a b (Nc B.aGf w.aG2[k] w.aHA) l).1.Id=_;rw [hbp];rfl
     ·have:=pz.1;omega
     ·rw [y1];rfl
     ·rw [y1];rfl
     ·rw [y1];rfl
     ·rw [y1];show ([]++[(⟨(⟨#[105,110,100,101,120]⟩:ByteArray),r.aGg⟩:M.aW)])=[(⟨(⟨#[105,110,100,101,120]⟩:ByteArray),(Dm w.aGv a b (Nc B.aGf w.aG2[k] w.aHA) l).aGg⟩:M.aW)];rw [y2];rfl
theorem Xz (a b:ByteArray) (d:Int):M.aG.sz (D9 a b d)<=2*a.size+b.size+1000:=by have h3:(⟨#[97,112,112]⟩:ByteArray).size=3:=rfl;have h5:(⟨#[110,111,116,101,115]⟩:ByteArray).size=5:=rfl;simp only [D9,M.aG.sz,M.aGf.sz,M.aC.sz,M.bW.sz,M.aGh.sz,M.aD.sz,M.aH.sz,M.aG5.sz,M.aM.sz,cX,qJ,qK,h3,h5];omega
theorem Zm {w:M.World} {a b:ByteArray} {l:List M.Instr} (hw:w.ok) (hz:M.World.sz w<=1048576) (ha:a.size<=1048576) (hb:b.size<=1048576) (hl:CR l) (zl:l.length+cX M.Instr.sz l<=1048576) : ∃R:M.World×Int×Bool,kC w a b l=some R/\(R=(w,0,false) \/ ∃B p,Y3 w a b B/\PU w B a b l p R):=by
 have hz':=hz
 simp only [M.World.sz,M.aA.sz] at hz'
 have no : ∃R:M.World×Int×Bool,some (w,0,false)=some R/\(R=(w,0,false) \/ ∃B p,Y3 w a b B/\PU w B a b l p R):=⟨(w,0,false),rfl,.inl rfl⟩
 unfold kC yD
 rw [zI w qb,AZ hw hz,xS (a:=a),xS (a:=b)]
 simp only [qA]
 cases hn:xO w with
 | false =>
  simp only [qC,if_true]
  exact no
 | true =>
  simp only [qB,qD,if_false]
  by_cases h1:B8 a<0
  ·simp only [h1,decide_true,if_true];exact no
  by_cases h2:B8 b<0
  ·simp only [h1,h2,decide_true,decide_false,if_true,qD,if_false];exact no
  simp only [h1,h2,decide_false,qD,if_false]
  obtain ⟨k,ek,hk⟩:=Iw h1
  have hk':k<w.aG2.length:=by rw [FB hn];exact hk
  rw [E5 (RM _ ha) (RM _ hb) (bH _),sZ hw.aA]
  simp only [qA,ek]
  by_cases h:kG (nAt a b) w.aA.aGj<0
  ·have h' : ¬kG (nAt a b) w.aA.aGj>=0:=by omega
   simp only [h,h',decide_true,decide_false,if_true,qD,if_false,qA]
   have hd:=bH (i64.wrap (1000*w.aGp)+w.aGv)
   generalize i64.wrap (i64.wrap (1000*w.aGp)+w.aGv)=d at hd
   have ok0:=Q2 (RM _ ha) (RM _ hb) hd
   suffices H : ∃R:M.World×Int×Bool,oS w (ZR w a b d) k a b l=some R/\(R=(w,0,false) \/ ∃p,PU w (ZR w a b d) a b l p R) by obtain ⟨R,r1,r3⟩:=H;exact ⟨R,r1,r3.imp id λ⟨p,hp⟩=>⟨_,p,.inr ⟨d,hd,rfl⟩,hp⟩⟩
   refine MK (B:=ZR w a b d) hw hn hz ha hb hl zl ek hk' ⟨ok0.aGl,ok0.Top,ok0.aGf,ok0.aGi,ok0.bW,ok0.aH,hw.Now⟩ ?_ ?_ ?_ ?_
   ·have:=Xz a b d;show M.aG.sz (CF a b d).1<=_;unfold CF;split;(split;(show M.aG.sz (D9 a b d)<=_;omega);·show M.aG.sz sU<=4194304;decide);·show M.aG.sz sU<=4194304;decide
   ·show M.aGh.sz (CF a b d).1.bW.aG4<=_;unfold CF;split;(split;(exact QE a b d);·show M.aGh.sz sU.bW.aG4<=1048576;decide);·show M.aGh.sz sU.bW.aG4<=1048576;decide
   ·show M.aC.sz (CF a b d).1.aGi<=_;unfold CF;split;(split;(show M.aC.sz (⟨([]:List M.aGo)⟩:M.aC)<=1048576;decide);·show M.aC.sz sU.aGi<=1048576;decide);·show M.aC.sz sU.aGi<=1048576;decide
   ·unfold ZR
    show nAt a b=nAt (CF a b d).1.aGl (CF a b d).1.Top\/_
    have z : ∀n p,pL (⟨sU.aGl,sU.Top,sU.aGf,sU.aGi,sU.bW,sU.aH,n,p⟩:M.aG)=false:=λ_ _=>rfl
    unfold CF
    split
    ·split;(exact .inl rfl);·exact .inr (z _ _)
    ·exact .inr (z _ _)
  ·obtain ⟨j,ej,hj⟩:=fI h
   have h':kG (nAt a b) w.aA.aGj>=0:=by omega
   simp only [h,h',decide_true,decide_false,if_true,qD,if_false]
   rw [ej,aK hj]
   simp only [qA,if_true]
   have hq:=hw.aA.aGj.2 _ (qG hj)
   have z1:=cO (f:=M.aG.sz) (qG hj)
   obtain ⟨_,hf⟩:=AA ej
   generalize hqe:w.aA.aGj[j]=q at hq z1 hf
   have zq:M.aG.sz q<=1048576:=by omega
   have z3:M.aC.sz q.aGi<=M.aG.sz q:=by simp only [M.aG.sz];omega
   rw [zL q qb]
   simp only [qA]
   suffices H : ∃R:M.World×Int×Bool,oS w (ZX w q) k a b l=some R/\(R=(w,0,false) \/ ∃p,PU w (ZX w q) a b l p R) by obtain ⟨R,r1,r3⟩:=H;exact ⟨R,r1,r3.imp id λ⟨p,hp⟩=>⟨_,p,.inl ⟨j,hj,ej,by rw [hqe]⟩,hp⟩⟩
   refine MK (B:=ZX w q) hw hn hz ha hb hl zl ek hk' ⟨hq.aGl,hq.Top,hq.aGf,hq.aGi,hq.bW,hq.aH,hw.Now⟩ ?_ (Ad zq) (by show M.aC.sz q.aGi<=_;omega) (.inl ?_)
   ·show M.aG.sz q<=_;omega
   ·funext x;unfold nAt at hf ⊢;rw [qM] at hf;show (_&&_)=((x.aGl.toList==q.aGl.toList)&&(x.Top.toList==q.Top.toList));rw [eq_of_beq hf.1,eq_of_beq hf.2]
def ZM (w:M.World) (i:Int) (R:M.World×Bool):Prop:=(((xO w=false\/P0 w i<0)/\R=(w,false))\/(xO w=true /\ ∃k:Nat,k<w.aGx.length/\P0 w i=(k:Int)/\R=((⟨w.Now,w.aHA,w.aGp,w.aA,w.aGx.take k++w.aGx.drop (k+1),w.aGv,Uw w.aGy i,OW w.aGt i,w.aG2,w.aGz⟩,true):M.World×Bool)))
theorem Ws {w:M.World} {i:Int} (hw:w.ok) (hz:M.World.sz w<=1048576) : ∃R:M.World×Bool,kS w i=some R/\ZM w i R:=by
 have hz':=hz
 simp only [M.World.sz] at hz'
 have hll:w.aGy.aGy.length<=M.aR.sz w.aGy:=by simp only [M.aR.sz];omega
 have hmm:w.aGt.aHN.length<=M.aGt.sz w.aGt:=by simp only [M.aGt.sz];omega
 unfold kS
 rw [zI w qb,qA,JN hw,qA,AZ hw hz,qA]
 cases hn:xO w with
 | false=>exact ⟨(w,false),qd,.inl ⟨.inl hn,rfl⟩⟩
 | true =>
  simp only [qB,qD,if_false]
  by_cases h:P0 w i<0
  ·simp only [h,decide_true,if_true];exact ⟨(w,false),rfl,.inl ⟨.inr h,rfl⟩⟩
  ·obtain ⟨k,e,hk⟩:=fI (show ¬kG (λp:M.bJ=>p.Id==i) w.aGx<0 from h);simp only [h,decide_false,qD,if_false];rw [show P0 w i=(k:Int) from e,BG qb,qA,bD qb,Iu qb,qA,qH,qH,dN (by simp only [qT,qU];omega),qA,GV qb qb,qA,Kg qb];simp only [qA];exact ⟨(⟨w.Now,w.aHA,w.aGp,w.aA,w.aGx.take k++w.aGx.drop (k+1),w.aGv,Uw w.aGy i,OW w.aGt i,w.aG2,w.aGz⟩,true),rfl,.inr ⟨hn,k,hk,e,rfl⟩⟩
theorem Mt {α:Type} {f:α->Nat} {x:α} : ∀ {l:List α} {i:Nat} (h:i<l.length),cX f (l.set i x)+f l[i]=cX f l+f x
 | [],_,h=>absurd h qd
 | y::l,0,_=>by simp only [List.set_cons_zero,cX,List.getElem_cons_zero];omega
 | y::l,i+1,h=>by have:=Mt (f:=f) (x:=x) (l:=l) (i:=i) (by simpa using h);simp only [List.set_cons_succ,cX,List.getElem_cons_succ];omega
def bkJ (x:M.aG):Prop:=x.aGl.size<=16/\x.Top.size<=16/\M.aG.ok x
def stG (m Z:Nat) (s:M.aA):Prop:=s.aGj.length<=m/\(∀b∈s.aGj,bkJ b)/\cX M.aG.sz s.aGj<=Z
theorem stG.mono {m n Y Z:Nat} {s:M.aA} (h:stG m Y s) (h1:m<=n) (h2:Y<=Z):stG n Z s:=⟨Nat.le_trans h.1 h1,h.2.1,Nat.le_trans h.2.2 h2⟩
theorem stN.G {s:M.aA} (h:stN 4 s):stG 4 720000 s:=by
 have h1:=dI (w:=M.aG.sz) (b:=180000) (xs:=s.aGj) λb hb=>(h.2 b hb).sz
 have h2:=h.1
 exact ⟨h2,λb hb=>⟨(h.2 b hb).1,(h.2 b hb).2.1,(h.2 b hb).ok⟩,qb⟩
theorem stG.ok {m Z:Nat} {s:M.aA} (h:stG m Z s) (hm:m<=1000):s.ok:=⟨⟨ml (by have:=h.1;omega),λb hb=>(h.2.1 b hb).2.2⟩⟩
theorem YR {m Z c:Nat} {s:M.aA} {b:M.aG} (h:stG m Z s) (hb:bkJ b) (hc:M.aG.sz b<=c):stG (m+1) (Z+c) (E9 s b).1:=by have hl:=Hs s b;have hz:=RK s b;obtain ⟨h1,h2,h3⟩:=h;unfold E9 LU;split;(split;(refine ⟨qg,λx hx => ?_,qg⟩;rcases Ii hx with rfl | hx;(exact hb);·exact h2 x hx);·exact ⟨by show s.aGj.length<=_;omega,h2,by show cX M.aG.sz s.aGj<=_;omega⟩);·exact ⟨by show s.aGj.length<=_;omega,h2,by show cX M.aG.sz s.aGj<=_;omega⟩
theorem Qg {m Z c j:Nat} {s:M.aA} {b:M.aG} (h:stG m Z s) (hb:bkJ b) (hj:j<s.aGj.length) (e:kG (nAt b.aGl b.Top) s.aGj=(j:Int)) (hc:M.aG.sz b<=M.aG.sz s.aGj[j]+c):stG m (Z+c) (E9 s b).1:=by
 have eL:CX s b=s.aGj.set j b:=by unfold CX;rw [e,if_pos qb,qH]
 have hz:=Mt (f:=M.aG.sz) (x:=b) hj
 obtain ⟨h1,h2,h3⟩:=h
 unfold E9 LU
 rw [eL]
 split
 ·split;(refine ⟨by show (s.aGj.set j b).length<=m;rw [qN];exact h1,λx hx => ?_,qg⟩;rcases List.mem_or_eq_of_mem_set hx with hx | rfl;(exact h2 x hx);·exact hb);·exact ⟨h1,h2,by show cX M.aG.sz s.aGj<=_;omega⟩
 ·exact ⟨h1,h2,by show cX M.aG.sz s.aGj<=_;omega⟩
def wdG (m n Z:Nat) (w:M.World):Prop:=inI w.Now/\inI w.aGp/\stG m Z w.aA/\(w.aGx.length<=n /\ ∀p∈w.aGx,Uo p)/\inI w.aGv/\(w.aGy.aGy=[])/\(w.aGt.aHN=[])/\(w.aG2.length<=3/\(∀s∈w.aG2,M.aGl.ok s/\M.aGl.sz s<=100))/\(w.aGz.length<=3 /\ ∀s∈w.aGz,S7 s)
theorem wdG.mono {m n Z m' n' Z':Nat} {w:M.World} (h:wdG m n Z w) (h1:m<=m') (h2:n<=n') (h3:Z<=Z'):wdG m' n' Z' w:=by obtain ⟨a1,a2,a3,a4,a5⟩:=h;exact ⟨a1,a2,a3.mono h1 h3,⟨Nat.le_trans a4.1 h2,a4.2⟩,a5⟩
theorem wdG.ok {m n Z:Nat} {w:M.World} (h:wdG m n Z w) (hm:m<=1000) (hn:n<=1000):M.World.ok w:=by obtain ⟨h1,h2,h3,h4,h5,h6,h7,h8,h9⟩:=h;exact ⟨h1,h2,h3.ok hm,⟨ml qb,λp hp=>(h4.2 p hp).1⟩,h5,⟨by rw [h6];simp [maxLen],by rw [h6];simp⟩,⟨by rw [h7];simp [maxLen],by rw [h7];simp⟩,⟨ml qb,λp hp=>(h8.2 p hp).1⟩,⟨ml qb,λp hp=>(h9.2 p hp).1⟩⟩
theorem wdG.sz {m n Z:Nat} {w:M.World} (h:wdG m n Z w):M.World.sz w<=m+Z+2001*n+90400:=by
 obtain ⟨h1,h2,h3,h4,h5,h6,h7,h8,h9⟩:=h
 have a2:=dI (w:=M.bJ.sz) (b:=2000) (xs:=w.aGx) λb hb=>(h4.2 b hb).2
 have a3:=dI (w:=M.aGl.sz) (b:=100) (xs:=w.aG2) λb hb=>(h8.2 b hb).2
 have a4:=dI (w:=M.aGr.sz) (b:=30000) (xs:=w.aGz) λb hb=>(h9.2 b hb).2
 have b1:=h3.1
 have b5:=h3.2.2
 have b2:=h4.1
 have b3:=h8.1
 have b4:=h9.1
 simp only [M.World.sz,M.aA.sz,M.aR.sz,M.aGt.sz,h6,h7,cX,qK]
 omega
def lit (m n Z:Nat):Prop:=m<=20/\n<=20/\Z<=800000
theorem wdG.ok' {m n Z:Nat} {w:M.World} (h:wdG m n Z w) (hm:lit m n Z):M.World.ok w:=h.ok (by have:=hm.1;omega) (by have:=hm.2.1;omega)
theorem wdG.sz' {m n Z:Nat} {w:M.World} (h:wdG m n Z w) (hm:lit m n Z):M.World.sz w<=1048576:=by have:=h.sz;have:=hm.1;have:=hm.2.1;have:=hm.2.2;omega
theorem aA0 {d:Int}:wdG 0 0 0 (S0 d):=by
 obtain ⟨a1,a2,a3,a4,a5,a6,a7,a8,a9⟩:=ZU (d:=d)
 have e:(S0 d).aA.aGj=[]:=by unfold S0;split<;>rfl
 exact ⟨a1,a2,⟨by rw [e];simp,by rw [e];simp,by rw [e];simp [cX]⟩,a4,a5,a6,a7,a8,a9⟩
end Go.Proofs.YtipmihbgjolaaaaGreat.gen
