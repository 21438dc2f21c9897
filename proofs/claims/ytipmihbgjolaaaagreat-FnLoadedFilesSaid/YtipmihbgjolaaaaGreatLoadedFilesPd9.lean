/-
  Helper text. No conditions.
-/
import Derived.Test.YtipmihbgjolaaaaGreatLoadedFilesPd8
set_option linter.unusedVariables false
set_option linter.unusedSimpArgs false
namespace Go.Proofs.YtipmihbgjolaaaaGreat.gen
open Go Go.Sh
theorem stN.G {s:M.aA} (h:stN 4 s):stG 4 720000 s:=by
 have h1:=dP (w:=M.aJ.sz) (b:=180000) (xs:=s.aE8) λb hb=>(h.2 b hb).sz
 have h2:=h.1
 exact ⟨h2,λb hb=>⟨(h.2 b hb).1,(h.2 b hb).2.1,(h.2 b hb).ok⟩,qb⟩
theorem stG.ok {m Z:Nat} {s:M.aA} (h:stG m Z s) (hm:m<=1000):s.ok:=⟨⟨ml (by have:=h.1;omega),λb hb=>(h.2.1 b hb).2.2⟩⟩
theorem Xq {m Z c:Nat} {s:M.aA} {b:M.aJ} (h:stG m Z s) (hb:bkJ b) (hc:M.aJ.sz b<=c):stG (m+1) (Z+c) (Jz s b).1:=by have hl:=GP s b;have hz:=QP s b;obtain ⟨h1,h2,h3⟩:=h;unfold Jz Lg;split;(split;(refine ⟨qg,λx hx => ?_,qg⟩;rcases HK hx with rfl | hx;(exact hb);·exact h2 x hx);·exact ⟨by show s.aE8.length<=_;omega,h2,by show dG M.aJ.sz s.aE8<=_;omega⟩);·exact ⟨by show s.aE8.length<=_;omega,h2,by show dG M.aJ.sz s.aE8<=_;omega⟩
theorem XB {m Z c j:Nat} {s:M.aA} {b:M.aJ} (h:stG m Z s) (hb:bkJ b) (hj:j<s.aE8.length) (e:lA (nAt b.aFD b.Top) s.aE8=(j:Int)) (hc:M.aJ.sz b<=M.aJ.sz s.aE8[j]+c):stG m (Z+c) (Jz s b).1:=by
 have eL:Cq s b=s.aE8.set j b:=by unfold Cq;rw [e,if_pos qb,qH]
 have hz:=LU (f:=M.aJ.sz) (x:=b) hj
 obtain ⟨h1,h2,h3⟩:=h
 unfold Jz Lg
 rw [eL]
 split
 ·split;(refine ⟨by show (s.aE8.set j b).length<=m;rw [qN];exact h1,λx hx => ?_,qg⟩;rcases List.mem_or_eq_of_mem_set hx with hx | rfl;(exact h2 x hx);·exact hb);·exact ⟨h1,h2,by show dG M.aJ.sz s.aE8<=_;omega⟩
 ·exact ⟨h1,h2,by show dG M.aJ.sz s.aE8<=_;omega⟩
def wdG (m n Z:Nat) (w:M.World):Prop:=inI w.Now/\inI w.aFC/\stG m Z w.aA/\(w.aFF.length<=n /\ ∀p∈w.aFF,Tl p)/\inI w.aFJ/\(w.aFM.aFM=[])/\(w.aFB.aFa=[])/\(w.aFR.length<=3/\(∀s∈w.aFR,M.aFD.ok s/\M.aFD.sz s<=100))/\(w.aFN.length<=3 /\ ∀s∈w.aFN,RW s)
theorem wdG.mono {m n Z m' n' Z':Nat} {w:M.World} (h:wdG m n Z w) (h1:m<=m') (h2:n<=n') (h3:Z<=Z'):wdG m' n' Z' w:=by obtain ⟨a1,a2,a3,a4,a5⟩:=h;exact ⟨a1,a2,a3.mono h1 h3,⟨Nat.le_trans a4.1 h2,a4.2⟩,a5⟩
theorem wdG.ok {m n Z:Nat} {w:M.World} (h:wdG m n Z w) (hm:m<=1000) (hn:n<=1000):M.World.ok w:=by obtain ⟨h1,h2,h3,h4,h5,h6,h7,h8,h9⟩:=h;exact ⟨h1,h2,h3.ok hm,⟨ml qb,λp hp=>(h4.2 p hp).1⟩,h5,⟨by rw [h6];simp [maxLen],by rw [h6];simp⟩,⟨by rw [h7];simp [maxLen],by rw [h7];simp⟩,⟨ml qb,λp hp=>(h8.2 p hp).1⟩,⟨ml qb,λp hp=>(h9.2 p hp).1⟩⟩
theorem wdG.sz {m n Z:Nat} {w:M.World} (h:wdG m n Z w):M.World.sz w<=m+Z+2001*n+90400:=by
 obtain ⟨h1,h2,h3,h4,h5,h6,h7,h8,h9⟩:=h
 have a2:=dP (w:=M.bC.sz) (b:=2000) (xs:=w.aFF) λb hb=>(h4.2 b hb).2
 have a3:=dP (w:=M.aFD.sz) (b:=100) (xs:=w.aFR) λb hb=>(h8.2 b hb).2
 have a4:=dP (w:=M.aFG.sz) (b:=30000) (xs:=w.aFN) λb hb=>(h9.2 b hb).2
 have b1:=h3.1
 have b5:=h3.2.2
 have b2:=h4.1
 have b3:=h8.1
 have b4:=h9.1
 simp only [M.World.sz,M.aA.sz,M.aR.sz,M.aFB.sz,h6,h7,dG,qK]
 omega
def lit (m n Z:Nat):Prop:=m<=20/\n<=20/\Z<=800000
theorem wdG.ok' {m n Z:Nat} {w:M.World} (h:wdG m n Z w) (hm:lit m n Z):M.World.ok w:=h.ok (by have:=hm.1;omega) (by have:=hm.2.1;omega)
theorem wdG.sz' {m n Z:Nat} {w:M.World} (h:wdG m n Z w) (hm:lit m n Z):M.World.sz w<=1048576:=by have:=h.sz;have:=hm.1;have:=hm.2.1;have:=hm.2.2;omega
theorem ZB {d:Int}:wdG 0 0 0 (RP d):=by
 obtain ⟨a1,a2,a3,a4,a5,a6,a7,a8,a9⟩:=Yv (d:=d)
 have e:(RP d).aA.aE8=[]:=by unfold RP;split<;>rfl
 exact ⟨a1,a2,⟨by rw [e];simp,by rw [e];simp,by rw [e];simp [dG]⟩,a4,a5,a6,a7,a8,a9⟩
theorem T6 {m n Z:Nat} {w:M.World} {a t:ByteArray} {l:List M.Instr} (h:wdG m n Z w) (hm:lit m n Z) (ha:a.size<=16) (ht:t.size<=16) (hl:BA l) : ∃R,sP w a t l=some R/\((wdG (m+1) (n+1) (Z+1100) R.1/\R.1.aFR=w.aFR/\R.1.aFN=w.aFN)/\(R=(w,0,false) \/ ∃B p,XA w a t B/\O0 w B a t l p R)):=by
 have hsc:=NZ hl
 obtain ⟨R,e1,hR⟩:=XW (h.ok' hm) (h.sz' hm) (a:=a) (b:=t) (l:=l) qb qb (KP hl) qb
 refine ⟨R,e1,?_,hR⟩
 rcases hR with rfl | ⟨B,p,hB,hF⟩
 ·exact ⟨h.mono qb qb qb,rfl,rfl⟩
 ·obtain ⟨_,_,_,hat,e,_,_,pk,pz,_⟩:=hF
  obtain ⟨a1,a2,a3,a4,a5,a6,a7,a8,a9⟩:=h
  have hst:stG (m+1) (Z+1100) (Jz w.aA B).1:=by
   rcases hB with ⟨j,hj,ej,rfl⟩ | ⟨d,hd,rfl⟩
   ·have hq:=a3.2.1 _ (qG hj);refine (XB (c:=0) a3 (b:=Yy w w.aA.aE8[j]) ⟨hq.1,hq.2.1,⟨hq.2.2.aFD,hq.2.2.Top,hq.2.2.aE4,hq.2.2.aE6,hq.2.2.bV,hq.2.2.aG,a1⟩⟩ hj (by rw [<-hat];exact ej) (Nat.le_refl _)).mono qb qb
   ·have ok:=P8 (s16 ha) (s16 ht) hd
    have hs:(Ce a t d).1.aFD.size<=16/\(Ce a t d).1.Top.size<=16/\M.aJ.sz (Ce a t d).1<=1100:=by have:=Wg a t d;unfold Ce;split;(split;(exact ⟨ha,ht,by show M.aJ.sz (DE a t d)<=1100;omega⟩);·exact ⟨qe,qe,by show M.aJ.sz rZ<=1100;decide⟩);·exact ⟨qe,qe,by show M.aJ.sz rZ<=1100;decide⟩
    exact Xq (c:=1100) a3 ⟨hs.1,hs.2.1,⟨ok.aFD,ok.Top,ok.aE4,ok.aE6,ok.bV,ok.aG,a1⟩⟩ hs.2.2
  rw [e]
  refine ⟨⟨a1,a2,hst,⟨qn,λy hy => ?_⟩,bI _,a6,a7,a8,a9⟩,rfl,rfl⟩
  rcases List.mem_append.1 hy with hy | hy
  ·exact a4.2 y hy
  ·rw [List.mem_singleton.1 hy];exact ⟨pk,qb⟩
theorem VN {m n Z:Nat} {w:M.World} {i:Int} (h:wdG m n Z w) (hm:lit m n Z) : ∃R,tT w i=some R/\((wdG m n Z R.1/\R.1.aFR=w.aFR/\R.1.aFN=w.aFN)/\(((wV w=false\/FK w i<0)/\R=(w,false))\/(wV w=true /\ ∃k:Nat,k<w.aFF.length/\FK w i=(k:Int)/\R=((⟨w.Now,w.aFW,w.aFC,w.aA,w.aFF.take k++w.aFF.drop (k+1),w.aFJ,Tv w.aFM i,N3 w.aFB i,w.aFR,w.aFN⟩,true):M.World×Bool)))):=by obtain ⟨R,e1,hR⟩:=Vj (i:=i) (h.ok' hm) (h.sz' hm);refine ⟨R,e1,?_,hR⟩;rcases hR with ⟨_,rfl⟩ | ⟨_,k,hk,_,rfl⟩;(exact ⟨h,rfl,rfl⟩);·obtain ⟨a1,a2,a3,a4,a5,a6,a7,a8,a9⟩:=h;refine ⟨⟨a1,a2,a3,⟨by simp only [qE,qT,qU];omega,λy hy => ?_⟩,a5,?_,?_,a8,a9⟩,rfl,rfl⟩;(rcases List.mem_append.1 hy with hy | hy;(exact a4.2 y (List.mem_of_mem_take hy));·exact a4.2 y (List.mem_of_mem_drop hy));(show Nv (w.aFM.aFM.filter _)=[];rw [a6];rfl);·show w.aFB.aFa.filter _=[];rw [a7];rfl
def wd3 (m n Z:Nat) (w:M.World):Prop:=wdG m n Z w/\w.aFR.length=3/\w.aFN.length=3
theorem wd3.mono {m n Z m' n' Z':Nat} {w:M.World} (h:wd3 m n Z w) (h1:m<=m') (h2:n<=n') (h3:Z<=Z'):wd3 m' n' Z' w:=⟨h.1.mono h1 h2 h3,h.2⟩
theorem wd3.to {m n Z m' n' Z':Nat} {w v:M.World} (h:wd3 m n Z w) (hv:wdG m' n' Z' v/\v.aFR=w.aFR/\v.aFN=w.aFN):wd3 m' n' Z' v:=⟨hv.1,by rw [hv.2.1];exact h.2.1,by rw [hv.2.2];exact h.2.2⟩
theorem YB (k:Nat) (h:k<=1000):IntKind.i64.wrap (((k+1:Nat):Int)-1)=(k:Int):=by rw [wrap_small qb qb];omega
theorem Oo {b:List Int} {i h:Int} (hc:okC b i h):Dr b (λs=>s.size<=16) (yM (⟨b,i,h⟩:M.aQ)):=by unfold yM;exact .bnd (Bo (λs=>s.size<=16) qe qe hc) λi1 v1 r1 c1 q1=>.ret c1 q1
theorem RJ {b:List Int} {i h:Int} (c0:okC b i h):Dr b (wd3 4 4 4400) (yY (⟨b,i,h⟩:M.aQ)):=by
 unfold yY
 refine .bnd (aW c0) λi1 v1 r1 c1 q1 => ?_
 have hr:=q1.2.1 qb
 have hr0:=q1.1
 dsimp only
 rw [KH,qA,wrap_small qb qb]
 have hN:(RP (1+r1)).aFR.length=3/\(RP (1+r1)).aFN.length=3:=by unfold RP;rw [if_pos qb];exact ⟨rfl,rfl⟩
 have hw0:wd3 0 0 0 (RP (1+r1)):=⟨ZB,hN⟩
 generalize RP (1+r1)=w0 at hw0
 refine .bnd (aW c1) λi2 v2 r2 c2 q2 => ?_
 obtain ⟨N,rfl⟩:=Aw q2.1
 have hN4:=q2.2.1 qb
 have key : ∀(n k:Nat) (w:M.World) (ci ch:Int),k<n->k<=4->okC b ci ch->wd3 (4-k) (4-k) (1100*(4-k)) w->Dr b (wd3 4 4 4400) (fE (⟨b,i,h⟩:M.aQ) n (k:Int) w.Now w.aFW w.aFC w.aFJ ci ch w.aA.aE8 w.aFF w.aFM.aFM w.aFB.aFa w.aFR w.aFN):=by
  intro n
  induction n with
  | zero=>intro k w ci ch h _ _ _;omega
  | succ n ih =>
   intro k w ci ch hn hk hc hw
   simp only [fE]
   cases k with
   | zero =>
    rw [if_neg qd]
    exact .ret hc (hw.mono qb qb qb)
   | succ k =>
    have hlit:lit (4-(k+1)) (4-(k+1)) (1100*(4-(k+1))):=⟨qb,qb,qb⟩
    have up : ∀ {v:M.World},wd3 (4-(k+1)) (4-(k+1)) (1100*(4-(k+1))) v->wd3 (4-k) (4-k) (1100*(4-k)) v:=λhv=>hv.mono qb qb qb
    have up2 : ∀ {v:M.World},wd3 (4-(k+1)+1) (4-(k+1)+1) (1100*(4-(k+1))+1100) v->wd3 (4-k) (4-k) (1100*(4-k)) v:=λhv=>hv.mono qb qb qb
    rw [if_pos (decide_eq_true qb),YB k qb]
    refine .bnd (aW hc) λi3 v3 r3 c3 q3 => ?_
    dsimp only
    split
    ·refine .bnd (aW c3) λi4 v4 r4 c4 q4=>.FZ (VN (w:=w) hw.1 hlit) λR hR => ?_
     exact ih k R.1 i4 v4 qb qb c4 (up (hw.to hR.1))
    split
    ·refine .bnd (aW c3) λi4 v4 r4 c4 q4 => ?_
     obtain ⟨⟨a1,a2⟩,a3⟩:=hw
     exact ih k (⟨IntKind.i64.wrap (w.Now+r4),w.aFW,w.aFC,w.aA,w.aFF,w.aFJ,w.aFM,w.aFB,w.aFR,w.aFN⟩:M.World) i4 v4 qb qb c4 (up ⟨⟨bI _,a2⟩,a3⟩)
    split
    ·refine .bnd (aW c3) λi4 v4 r4 c4 q4=>.bnd (aW c4) λi5 v5 r5 c5 q5 => ?_
     obtain ⟨⟨a1,a2,a3,a4,a5,a6,a7,a8,a9⟩,aa,ae⟩:=hw
     obtain ⟨j,rfl⟩:=Aw q4.1
     have hj:=q4.2.1 qb
     have hj':j<w.aFR.length:=by omega
     dsimp only
     rw [aK hj',qA,qH]
     have hs:=a8.2 _ (qG hj')
     refine ih k (⟨w.Now,w.aFW,w.aFC,w.aA,w.aFF,w.aFJ,w.aFM,w.aFB,w.aFR.set j (⟨w.aFR[j].Name,IntKind.i64.wrap (1+r5),w.aFR[j].aFe,w.aFR[j].aFj⟩:M.aFD),w.aFN⟩:M.World) i5 v5 qb qb c5 (up ⟨⟨a1,a2,a3,a4,a5,a6,a7,⟨by rw [qN];exact a8.1,λs hs' => ?_⟩,a9⟩,by rw [qN];exact aa,ae⟩)
     rcases List.mem_or_eq_of_mem_set hs' with hs' | rfl
     ·exact a8.2 s hs'
     ·exact ⟨⟨hs.1.Name,bI _,hs.1.aFe⟩,hs.2⟩
    ·refine .bnd (Oo c3) λi4 v4 r4 c4 q4=>.bnd (yR c4) λi5 v5 r5 c5 q5 => ?_
     dsimp only
     split
     ·refine .bnd (Oo c5) λi6 v6 r6 c6 q6=>.bnd (Gf c6) λi7 v7 r7 c7 q7=>.FZ (T6 (w:=w) hw.1 hlit q4 q6 q7) λR hR => ?_
      exact ih k R.1 i7 v7 qb qb c7 (up2 (hw.to hR.1))
     ·refine .bnd (Gf c5) λi7 v7 r7 c7 q7=>.FZ (T6 (w:=w) hw.1 hlit q4 q4 q7) λR hR => ?_
      exact ih k R.1 i7 v7 qb qb c7 (up2 (hw.to hR.1))
 exact key fuel N w0 i2 v2 (lT qb) qb c2 (hw0.mono qb qb qb)
theorem XO {b:List Int} {i h:Int} {o:Bool} {w:M.World} {m n Z:Nat} (c0:okC b i h) (hw:wd3 m n Z w) (hm:4<=m) (hn:n<=1000) (hZ:Z<=720000):Dr b (wdG m (n+1) 720000) ((aF (⟨b,i,h⟩:M.aQ) 24).bind λx=>(if (x.2.2==0)=true then ((bM (⟨b,x.1,x.2.1⟩:M.aQ) ([(-1),999999990000,999999990001])).bind λy=>(some (y.1,y.2.1,(⟨y.2.2,o,w.aFC,w.aA,w.aFF,w.aFJ,w.aFM,w.aFB,w.aFR,w.aFN⟩:M.World)))) else (if (x.2.2==1)=true then (some (x.1,x.2.1,(⟨w.Now,o,0,w.aA,w.aFF,w.aFJ,w.aFM,w.aFB,w.aFR,w.aFN⟩:M.World))) else (if (x.2.2==2)=true then ((Ap w.aFR 2).bind λy=>(some (x.1,x.2.1,(⟨w.Now,o,w.aFC,w.aA,w.aFF,w.aFJ,w.aFM,w.aFB,(List.take (2:Int).toNat w.aFR),w.aFN⟩:M.World)))) else (if (x.2.2==3)=true then ((sL (⟨b,x.1,x.2.1⟩:M.aQ)).bind λy=>(some (y.1,y.2.1,(⟨w.Now,o,w.aFC,y.2.2,w.aFF,w.aFJ,w.aFM,w.aFB,w.aFR,w.aFN⟩:M.World)))) else (if (x.2.2==4)=true then ((Aa (⟨b,x.1,x.2.1⟩:M.aQ)).bind λy=>((app 144 w.aFF ([y.2.2])).bind λz=>(some (y.1,y.2.1,(⟨w.Now,o,w.aFC,w.aA,(w.aFF++[y.2.2]),w.aFJ,w.aFM,w.aFB,w.aFR,w.aFN⟩:M.World))))) else (if (x.2.2==5)=true then (some (x.1,x.2.1,(⟨w.Now,o,w.aFC,w.aA,w.aFF,0,w.aFM,w.aFB,w.aFR,w.aFN⟩:M.World))) else (if (x.2.2==6)=true then ((Ai (⟨b,x.1,x.2.1⟩:M.aQ)).bind λy=>((idx w.aFN 0).bind λz=>(some (y.1,y.2.1,(⟨w.Now,o,w.aFC,w.aA,w.aFF,w.aFJ,w.aFM,w.aFB,w.aFR,(List.set w.aFN (0:Int).toNat y.2.2)⟩:M.World))))) else (some (x.1,x.2.1,(⟨w.Now,o,w.aFC,w.aA,w.aFF,w.aFJ,w.aFM,w.aFB,w.aFR,w.aFN⟩:M.World))))))))))):=by
 obtain ⟨⟨a1,a2,a3,a4,a5,a6,a7,a8,a9⟩,h3,hs⟩:=hw
 have a4':w.aFF.length<=n+1 /\ ∀p∈w.aFF,Tl p:=⟨qb,a4.2⟩
 have a3':stG m 720000 w.aA:=a3.mono (Nat.le_refl _) hZ
 refine .bnd (aW c0) λi1 v1 r1 c1 q1 => ?_
 dsimp only
 split
 ·exact .bnd (rU (λx => -1000000000000000<=x/\x<=1000000000000000) qe qe c1) λi2 v2 r2 c2 q2=>.ret c2 ⟨bgI q2,a2,a3',a4',a5,a6,a7,a8,a9⟩
 split
 ·exact .ret c1 ⟨a1,vZ,a3',a4',a5,a6,a7,a8,a9⟩
 split
 ·rw [show Ap w.aFR 2=Ap w.aFR ((2:Nat):Int) from rfl,Cb qb,qA];exact .ret c1 ⟨a1,a2,a3',a4',a5,a6,a7,⟨by show (List.take 2 w.aFR).length<=3;rw [qT];omega,λs hs=>a8.2 s (List.mem_of_mem_take hs)⟩,a9⟩
 split
 ·exact .bnd (NF c1) λi2 v2 r2 c2 q2=>.ret c2 ⟨a1,a2,q2.G.mono hm (Nat.le_refl _),a4',a5,a6,a7,a8,a9⟩
 split
 ·refine .bnd (VI c1) λi2 v2 r2 c2 q2 => ?_
  dsimp only
  rw [AJ qs qb,qA]
  refine .ret c2 ⟨a1,a2,a3',⟨qn,λp hp => ?_⟩,a5,a6,a7,a8,a9⟩
  rcases List.mem_append.1 hp with hp | hp
  ·exact a4.2 p hp
  ·rw [List.mem_singleton.1 hp];exact q2
 split
 ·exact .ret c1 ⟨a1,a2,a3',a4',vZ,a6,a7,a8,a9⟩
 split
 ·refine .bnd (VM c1) λi2 v2 r2 c2 q2 => ?_
  dsimp only
  rw [show idx w.aFN 0=idx w.aFN ((0:Nat):Int) from rfl,aK qb,qA]
  refine .ret c2 ⟨a1,a2,a3',a4',a5,a6,a7,a8,⟨by show (List.set w.aFN 0 r2).length<=3;rw [qN];omega,λs hs => ?_⟩⟩
  rcases List.mem_or_eq_of_mem_set hs with hs | rfl
  ·exact a9.2 s hs
  ·exact q2
 ·exact .ret c1 ⟨a1,a2,a3',a4',a5,a6,a7,a8,a9⟩
theorem UA {b:List Int} {i h:Int} (c0:okC b i h):Dr b (wdG 4 5 720000) (Bq (⟨b,i,h⟩:M.aQ)):=by
 unfold Bq
 refine .bnd (RJ c0) λi1 v1 r1 c1 q1=>.bnd (yR c1) λi2 v2 r2 c2 q2 => ?_
 exact XO (w:=r1) (o := !r2) c2 q1 qb qb qb
theorem Un {p0:List Int} (hl:p0.length<=1048576) (hb : ∀x∈p0,0<=x/\x<=255) : ∃x,mE p0=some x/\wdG 4 5 720000 x.1/\inI x.2.1/\x.2.2.size<=16:=by
 unfold mE
 obtain ⟨h,e,c0⟩:=XS hl hb
 rw [e,qA]
 obtain ⟨i1,v1,w,e1,c1,q1⟩:=UA c0
 rw [e1,qA]
 dsimp only
 obtain ⟨i2,v2,r2,e2,c2,q2⟩:=aW (n:=6) c1
 rw [e2,qA]
 dsimp only
 have fin : ∀ {ci ch:Int} {d:Int},okC p0 ci ch->inI d -> ∃x,((dB (⟨p0,ci,ch⟩:M.aQ) ([(⟨#[105,110,100,101,120]⟩:ByteArray),(⟨#[115,116,121,108,101]⟩:ByteArray),(⟨#[99,111,100,101]⟩:ByteArray),(⟨#[122,111,111]⟩:ByteArray),(⟨#[]⟩:ByteArray)])).bind λaa=>(some (w,d,aa.2.2)))=some x/\wdG 4 5 720000 x.1/\inI x.2.1/\x.2.2.size<=16:=by intro ci ch d hc hd;obtain ⟨i3,v3,r3,e3,c3,q3⟩:=Bo (l:=[(⟨#[105,110,100,101,120]⟩:ByteArray),(⟨#[115,116,121,108,101]⟩:ByteArray),(⟨#[99,111,100,101]⟩:ByteArray),(⟨#[122,111,111]⟩:ByteArray),(⟨#[]⟩:ByteArray)]) (λs=>s.size<=16) qe qe hc;rw [e3,qA];exact ⟨_,rfl,q1,hd,q3⟩
 split
 ·rename_i hp
  obtain ⟨i3,v3,r3,e3,c3,q3⟩:=yR (n:=4) c2
  rw [e3,qA]
  dsimp only
  split
  ·obtain ⟨i4,v4,r4,e4,c4,q4⟩:=aW (n:=(List.length w.aFF:Int)) c3
   rw [e4,qA]
   dsimp only
   obtain ⟨k,rfl⟩:=Aw q4.1
   have hk:=q4.2.1 (by simpa using hp)
   have hk':k<w.aFF.length:=by omega
   rw [aK hk',qA]
   exact fin c4 (q1.2.2.2.1.2 _ (qG hk')).1.Id
  ·exact fin c3 (bgI (SA q2))
 ·exact fin c2 (bgI (SA q2))
theorem Sl {a:M.bC} {f n:Int} : ∀(l:List M.bC) (s:Int×List M.tB),s.1<=(l.foldl (Da a f n) s).1/\(l.foldl (Da a f n) s).1<=s.1+((l.filter (Gy a)).length:Int)
 | [],s=>by simp
 | x::l,s=>by
  have ih:=Sl (a:=a) (f:=f) (n:=n) l (Da a f n s x)
  rw [List.foldl_cons]
  have h:s.1<=(Da a f n s x).1/\(Da a f n s x).1+((l.filter (Gy a)).length:Int)<=s.1+(((x::l).filter (Gy a)).length:Int):=by
   unfold Da
   split
   ·rename_i hc
    have ht:Gy a x=true:=by rw [qM] at hc;exact hc.1
    rw [List.filter_cons,if_pos ht,qJ]
    dsimp only
    omega
   ·rw [List.filter_cons];split;(rw [qJ];omega);·omega
  omega
theorem Xb {a x:M.bC} (h:Gy a x=true):U9 a.aFD a.Top x=true:=by unfold Gy at h;unfold U9;simp only [qM,beq_iff_eq] at h ⊢;exact ⟨h.1.symm,h.2.1.symm⟩
theorem Qn {a:M.bC} : ∀(l:List M.bC),(l.filter (Gy a)).length<=(l.filter (U9 a.aFD a.Top)).length/\(a∈l->(l.filter (Gy a)).length+1<=(l.filter (U9 a.aFD a.Top)).length)
 | []=>by simp
 | x::l=>by
  obtain ⟨h1,h2⟩:=Qn (a:=a) l
  rw [List.filter_cons,List.filter_cons]
  cases ht:Gy a x with
  | true =>
   rw [if_pos rfl,if_pos (Xb ht),qJ,qJ]
   refine ⟨qb,λhm => ?_⟩
   rcases List.mem_cons.1 hm with rfl | hm
   ·unfold Gy at ht;simp at ht
   ·have:=h2 hm;omega
  | false =>
   rw [if_neg qd]
   cases hon:U9 a.aFD a.Top x with
   | true =>
    rw [if_pos rfl,qJ]
    exact ⟨qb,λ_=>by omega⟩
   | false =>
    rw [if_neg qd]
    refine ⟨h1,λhm => ?_⟩
    rcases List.mem_cons.1 hm with rfl | hm
    ·unfold U9 at hon;simp at hon
    ·exact h2 hm
theorem X5 {w:M.World} (hn:wV w=true) {k:Nat} (hk:k<w.aFF.length):Bv w.aFF[k]=true/\w.aFF[k].Id<w.aFJ/\0<=lA (nAt w.aFF[k].aFD w.aFF[k].Top) w.aA.aE8:=by unfold wV at hn;simp only [qM] at hn;have h:=List.all_eq_true.1 hn.2.2.2.2.1 k (List.mem_range.2 hk);unfold Dg at h;rw [qF hk,Option.any_some] at h;simp only [qM,qL] at h;exact ⟨h.1,h.2.1,h.2.2.2⟩
theorem NV {p:M.bC} (h:Bv p=true) : ∀y∈p.aU,y.aE3=p.aE3:=λy hy=>by unfold Bv at h;rw [qM] at h;obtain ⟨j,hj,rfl⟩:=List.getElem_of_mem hy;have h2:=List.all_eq_true.1 h.1 j (List.mem_range.2 hj);unfold DD at h2;rw [qF hj,Option.any_some,qM] at h2;exact eq_of_beq h2.2
theorem RX {p:M.bC} {f:ByteArray} {r:M.aE9} (h:Bv p=true) : ∀y∈(BI p f r).1.aU,y.aE3=p.aE3:=λy hy=>by
 cases hX:(BI p f r).2 with
 | false =>
  rw [LY hX] at hy
  exact NV h y hy
 | true =>
  obtain ⟨y1,y2⟩:=Oy hX
  rw [y1] at hy
  rcases List.mem_append.1 (show y∈p.aU++[(⟨f,r.aE3⟩:M.aU)] from hy) with hy | hy
  ·exact NV h y hy
  ·rw [List.mem_singleton.1 hy];exact y2
theorem V6 {w:M.World} {i n:Int} (hn:wV w=true) {k:Nat} (hk:k<w.aFF.length) (ek:FK w i=(k:Int)):0<=(TU w i n).2/\(TU w i n).2+1<=((w.aFF.filter (U9 w.aFF[k].aFD w.aFF[k].Top)).length:Int):=by have e:lA (λp:M.bC=>p.Id==i) w.aFF=(k:Int):=ek;unfold TU;rw [if_pos hn,ek,if_neg qb];dsimp only;unfold I0;rw [e,qH,qF hk];dsimp only;rw [if_neg qb];have h1:=Sl (a:=w.aFF[k]) (f:=i) (n:=n) w.aFF (0,w.aFB.aFa);have h2:=(Qn (a:=w.aFF[k]) w.aFF).2 (qG hk);dsimp only at h1 ⊢;omega
set_option maxHeartbeats 4000000 in
theorem Yj (p0:List Int) (hb : ∀b∈p0,0<=b/\b<=255):rL p0=some true:=by
 unfold rL FC
 rw [qA]
 by_cases hl:(p0.length:Int)>1048576
 ·rw [if_pos (by simpa using hl)]
 rw [if_neg (by simpa using hl)]
 have hl':p0.length<=1048576:=by omega
 obtain ⟨⟨w,i,f⟩,ed,hW,hI,hF⟩:=Un hl' hb
 rw [ed,qA]
 dsimp only at hW hI hF ⊢
 have hlit:lit 4 5 720000:=⟨qb,qb,qb⟩
 have ho:=hW.ok' hlit
 have hz:=hW.sz' hlit
 obtain ⟨R,e1,e2,hRo,hR⟩:=XG (i:=i) (f:=f) ho qb hz
 rw [e2,qA,e1,qA]
 refine jn (v:=false) ?_ ?_
 ·rw [if_neg qd,C7 hRo,qA,Km];rfl
 rw [if_neg qd,B9 ho,qA]
 rcases hR with ⟨hN,rfl⟩ | ⟨hn,k,r,hk,ek,rfl⟩
 ·refine jn (v:=true) ?_ ?_;(by_cases h':FK w i<0;(rw [if_pos (by simpa using h')]);·rcases hN with h | h;(rw [if_neg (by simpa using h'),AB ho hz,qA,h];rfl);·exact absurd h h');·rw [if_pos rfl];refine jn (v:=true) ?_ rfl;dsimp only;rw [if_pos qd,C7 ho,qA,Km]
 ·refine jn (v:=false) ?_ ?_
  ·rw [ek,if_neg qd,AB ho hz,qA,hn];rfl
  rw [if_neg qd,ek]
  obtain ⟨pn,_,_⟩:=X5 hn hk
  have hv:=RX (f:=f) (r:=r) pn
  have hXl:=(JU (f:=f) (x:=r) (ho.aFF.2 _ (qG hk)) (by have:=(hW.2.2.2.1.2 _ (qG hk)).2;simp only [M.bC.sz] at this;omega) (s16 hF))
  have hsz:=JP w.aFF[k] f r
  have hpz:=(hW.2.2.2.1.2 _ (qG hk)).2
  generalize hXe:(BI w.aFF[k] f r).1=X at hv hsz ⊢
  have hlX:X.aU.length<=3000:=by simp only [M.bC.sz] at hsz hpz;omega
  have hks:k<(w.aFF.set k X).length:=by rw [qN];exact hk
  obtain ⟨s1,s2⟩:=V6 (n:=3) hn hk ek
  have hpl:=List.length_filter_le (U9 w.aFF[k].aFD w.aFF[k].Top) w.aFF
  have hpl2:=hW.2.2.2.1.1
  have key : ∀(n j:Nat),X.aU.length-j<n->j<=X.aU.length->fQ (w,i,f) ((⟨w.Now,w.aFW,w.aFC,w.aA,w.aFF.set k X,w.aFJ,w.aFM,w.aFB,w.aFR,w.aFN⟩:M.World),r.aFm) (k:Int) n (j:Int)=some true:=by
   intro n
   induction n with
   | zero=>intro j h _;omega
   | succ n ih =>
    intro j hn' hj
    simp only [fQ]
    rw [aK hks,qA,List.getElem_set_self]
    rcases Nat.lt_or_ge j X.aU.length with h6 | h6
    ·rw [if_pos (aY h6),aK h6,qA,aK hk,qA,if_neg (by rw [hv _ (qG h6)];simp),bE qb];exact ih (j+1) qb qb
    ·rw [if_neg qc,JZ ho hI (bgI qb) hz,qA,aK hk,qA,Lm hz,qA,wrap_small qb qb,if_pos qc,qA];congr 1;exact decide_eq_true s1
  exact key fuel 0 (lT qb) qb
end Go.Proofs.YtipmihbgjolaaaaGreat.gen
