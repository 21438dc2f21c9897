/-
  Helper text. No conditions.
-/
import Derived.Test.YtipmihbgjolaaaaGreatCompleteCachesPd8
set_option linter.unusedVariables false
set_option linter.unusedSimpArgs false
namespace Go.Proofs.YtipmihbgjolaaaaGreat.gen
open Go Go.Sh
open Go.IntKind (i64)
theorem Qq {m n Z:Nat} {w:M.World} {a t:ByteArray} {l:List M.Instr} (h:wdG m n Z w) (hm:lit m n Z) (ha:a.size<=16) (ht:t.size<=16) (hl:B2 l) : ∃R,kC w a t l=some R/\((wdG (m+1) (n+1) (Z+1100) R.1/\R.1.aG2=w.aG2/\R.1.aGz=w.aGz)/\(R=(w,0,false) \/ ∃B p,Y3 w a t B/\PU w B a t l p R)):=by
 have hsc:=OS hl
 obtain ⟨R,e1,hR⟩:=Zm (h.ok' hm) (h.sz' hm) (a:=a) (b:=t) (l:=l) qb qb (Ll hl) qb
 refine ⟨R,e1,?_,hR⟩
 rcases hR with rfl | ⟨B,p,hB,hF⟩
 ·exact ⟨h.mono qb qb qb,rfl,rfl⟩
 ·obtain ⟨_,_,_,hat,e,_,_,pk,pz,_⟩:=hF
  obtain ⟨a1,a2,a3,a4,a5,a6,a7,a8,a9⟩:=h
  have hst:stG (m+1) (Z+1100) (E9 w.aA B).1:=by
   rcases hB with ⟨j,hj,ej,rfl⟩ | ⟨d,hd,rfl⟩
   ·have hq:=a3.2.1 _ (qG hj);refine (Qg (c:=0) a3 (b:=ZX w w.aA.aGj[j]) ⟨hq.1,hq.2.1,⟨hq.2.2.aGl,hq.2.2.Top,hq.2.2.aGf,hq.2.2.aGi,hq.2.2.bW,hq.2.2.aH,a1⟩⟩ hj (by rw [<-hat];exact ej) (Nat.le_refl _)).mono qb qb
   ·have ok:=Q2 (s16 ha) (s16 ht) hd
    have hs:(CF a t d).1.aGl.size<=16/\(CF a t d).1.Top.size<=16/\M.aG.sz (CF a t d).1<=1100:=by have:=Xz a t d;unfold CF;split;(split;(exact ⟨ha,ht,by show M.aG.sz (D9 a t d)<=1100;omega⟩);·exact ⟨qe,qe,by show M.aG.sz sU<=1100;decide⟩);·exact ⟨qe,qe,by show M.aG.sz sU<=1100;decide⟩
    exact YR (c:=1100) a3 ⟨hs.1,hs.2.1,⟨ok.aGl,ok.Top,ok.aGf,ok.aGi,ok.bW,ok.aH,a1⟩⟩ hs.2.2
  rw [e]
  refine ⟨⟨a1,a2,hst,⟨qn,λy hy => ?_⟩,bH _,a6,a7,a8,a9⟩,rfl,rfl⟩
  rcases List.mem_append.1 hy with hy | hy
  ·exact a4.2 y hy
  ·rw [List.mem_singleton.1 hy];exact ⟨pk,qb⟩
theorem Rq {m n Z:Nat} {w:M.World} {i:Int} (h:wdG m n Z w) (hm:lit m n Z) : ∃R,kS w i=some R/\((wdG m n Z R.1/\R.1.aG2=w.aG2/\R.1.aGz=w.aGz)/\(((xO w=false\/P0 w i<0)/\R=(w,false))\/(xO w=true /\ ∃k:Nat,k<w.aGx.length/\P0 w i=(k:Int)/\R=((⟨w.Now,w.aHA,w.aGp,w.aA,w.aGx.take k++w.aGx.drop (k+1),w.aGv,Uw w.aGy i,OW w.aGt i,w.aG2,w.aGz⟩,true):M.World×Bool)))):=by obtain ⟨R,e1,hR⟩:=Ws (i:=i) (h.ok' hm) (h.sz' hm);refine ⟨R,e1,?_,hR⟩;rcases hR with ⟨_,rfl⟩ | ⟨_,k,hk,_,rfl⟩;(exact ⟨h,rfl,rfl⟩);·obtain ⟨a1,a2,a3,a4,a5,a6,a7,a8,a9⟩:=h;refine ⟨⟨a1,a2,a3,⟨by simp only [qE,qT,qU];omega,λy hy => ?_⟩,a5,?_,?_,a8,a9⟩,rfl,rfl⟩;(rcases List.mem_append.1 hy with hy | hy;(exact a4.2 y (List.mem_of_mem_take hy));·exact a4.2 y (List.mem_of_mem_drop hy));(show Ol (w.aGy.aGy.filter _)=[];rw [a6];rfl);·show w.aGt.aHN.filter _=[];rw [a7];rfl
def wd3 (m n Z:Nat) (w:M.World):Prop:=wdG m n Z w/\w.aG2.length=3/\w.aGz.length=3
theorem wd3.mono {m n Z m' n' Z':Nat} {w:M.World} (h:wd3 m n Z w) (h1:m<=m') (h2:n<=n') (h3:Z<=Z'):wd3 m' n' Z' w:=⟨h.1.mono h1 h2 h3,h.2⟩
theorem wd3.to {m n Z m' n' Z':Nat} {w v:M.World} (h:wd3 m n Z w) (hv:wdG m' n' Z' v/\v.aG2=w.aG2/\v.aGz=w.aGz):wd3 m' n' Z' v:=⟨hv.1,by rw [hv.2.1];exact h.2.1,by rw [hv.2.2];exact h.2.2⟩
theorem XH (k:Nat) (h:k<=1000):i64.wrap (((k+1:Nat):Int)-1)=(k:Int):=by rw [wrap_small qb qb];omega
theorem Ib {b:List Int} {i h:Int} (hc:okC b i h):Dr b (λs=>s.size<=16) (sW (⟨b,i,h⟩:M.aN)):=by unfold sW;exact .bnd (Bl (λs=>s.size<=16) qe qe hc) λi1 v1 r1 c1 q1=>.ret c1 q1
theorem SR {b:List Int} {i h:Int} (c0:okC b i h):Dr b (wd3 4 4 4400) (zU (⟨b,i,h⟩:M.aN)):=by
 unfold zU
 refine .bnd (aU c0) λi1 v1 r1 c1 q1 => ?_
 have hr:=q1.2.1 qb
 have hr0:=q1.1
 dsimp only
 rw [Le,qA,wrap_small qb qb]
 have hN:(S0 (1+r1)).aG2.length=3/\(S0 (1+r1)).aGz.length=3:=by unfold S0;rw [if_pos qb];exact ⟨rfl,rfl⟩
 have hw0:wd3 0 0 0 (S0 (1+r1)):=⟨aA0,hN⟩
 generalize S0 (1+r1)=w0 at hw0
 refine .bnd (aU c1) λi2 v2 r2 c2 q2 => ?_
 obtain ⟨N,rfl⟩:=AI q2.1
 have hN4:=q2.2.1 qb
 have key : ∀(n k:Nat) (w:M.World) (ci ch:Int),k<n->k<=4->okC b ci ch->wd3 (4-k) (4-k) (1100*(4-k)) w->Dr b (wd3 4 4 4400) (fM (⟨b,i,h⟩:M.aN) n (k:Int) w.Now w.aHA w.aGp w.aGv ci ch w.aA.aGj w.aGx w.aGy.aGy w.aGt.aHN w.aG2 w.aGz):=by
  intro n
  induction n with
  | zero=>intro k w ci ch h _ _ _;omega
  | succ n ih =>
   intro k w ci ch hn hk hc hw
   simp only [fM]
   cases k with
   | zero =>
    rw [if_neg qd]
    exact .ret hc (hw.mono qb qb qb)
   | succ k =>
    have hlit:lit (4-(k+1)) (4-(k+1)) (1100*(4-(k+1))):=⟨qb,qb,qb⟩
    have up : ∀ {v:M.World},wd3 (4-(k+1)) (4-(k+1)) (1100*(4-(k+1))) v->wd3 (4-k) (4-k) (1100*(4-k)) v:=λhv=>hv.mono qb qb qb
    have up2 : ∀ {v:M.World},wd3 (4-(k+1)+1) (4-(k+1)+1) (1100*(4-(k+1))+1100) v->wd3 (4-k) (4-k) (1100*(4-k)) v:=λhv=>hv.mono qb qb qb
    rw [if_pos (decide_eq_true qb),XH k qb]
    refine .bnd (aU hc) λi3 v3 r3 c3 q3 => ?_
    dsimp only
    split
    ·refine .bnd (aU c3) λi4 v4 r4 c4 q4=>.E0 (Rq (w:=w) hw.1 hlit) λR hR => ?_
     exact ih k R.1 i4 v4 qb qb c4 (up (hw.to hR.1))
    split
    ·refine .bnd (aU c3) λi4 v4 r4 c4 q4 => ?_
     obtain ⟨⟨a1,a2⟩,a3⟩:=hw
     exact ih k (⟨i64.wrap (w.Now+r4),w.aHA,w.aGp,w.aA,w.aGx,w.aGv,w.aGy,w.aGt,w.aG2,w.aGz⟩:M.World) i4 v4 qb qb c4 (up ⟨⟨bH _,a2⟩,a3⟩)
    split
    ·refine .bnd (aU c3) λi4 v4 r4 c4 q4=>.bnd (aU c4) λi5 v5 r5 c5 q5 => ?_
     obtain ⟨⟨a1,a2,a3,a4,a5,a6,a7,a8,a9⟩,aa,ae⟩:=hw
     obtain ⟨j,rfl⟩:=AI q4.1
     have hj:=q4.2.1 qb
     have hj':j<w.aG2.length:=by omega
     dsimp only
     rw [aK hj',qA,qH]
     have hs:=a8.2 _ (qG hj')
     refine ih k (⟨w.Now,w.aHA,w.aGp,w.aA,w.aGx,w.aGv,w.aGy,w.aGt,w.aG2.set j (⟨w.aG2[j].Name,i64.wrap (1+r5),w.aG2[j].aG8,w.aG2[j].aHJ⟩:M.aGl),w.aGz⟩:M.World) i5 v5 qb qb c5 (up ⟨⟨a1,a2,a3,a4,a5,a6,a7,⟨by rw [qN];exact a8.1,λs hs' => ?_⟩,a9⟩,by rw [qN];exact aa,ae⟩)
     rcases List.mem_or_eq_of_mem_set hs' with hs' | rfl
     ·exact a8.2 s hs'
     ·exact ⟨⟨hs.1.Name,bH _,hs.1.aG8⟩,hs.2⟩
    ·refine .bnd (Ib c3) λi4 v4 r4 c4 q4=>.bnd (uK c4) λi5 v5 r5 c5 q5 => ?_
     dsimp only
     split
     ·refine .bnd (Ib c5) λi6 v6 r6 c6 q6=>.bnd (El c6) λi7 v7 r7 c7 q7=>.E0 (Qq (w:=w) hw.1 hlit q4 q6 q7) λR hR => ?_
      exact ih k R.1 i7 v7 qb qb c7 (up2 (hw.to hR.1))
     ·refine .bnd (El c5) λi7 v7 r7 c7 q7=>.E0 (Qq (w:=w) hw.1 hlit q4 q4 q7) λR hR => ?_
      exact ih k R.1 i7 v7 qb qb c7 (up2 (hw.to hR.1))
 exact key fuel N w0 i2 v2 (kE qb) qb c2 (hw0.mono qb qb qb)
theorem Zf {b:List Int} {i h:Int} {o:Bool} {w:M.World} {m n Z:Nat} (c0:okC b i h) (hw:wd3 m n Z w) (hm:4<=m) (hn:n<=1000) (hZ:Z<=720000):Dr b (wdG m (n+1) 720000) ((aF (⟨b,i,h⟩:M.aN) 24).bind λx=>(if (x.2.2==0)=true then ((bK (⟨b,x.1,x.2.1⟩:M.aN) ([(-1),999999990000,999999990001])).bind λy=>(some (y.1,y.2.1,(⟨y.2.2,o,w.aGp,w.aA,w.aGx,w.aGv,w.aGy,w.aGt,w.aG2,w.aGz⟩:M.World)))) else (if (x.2.2==1)=true then (some (x.1,x.2.1,(⟨w.Now,o,0,w.aA,w.aGx,w.aGv,w.aGy,w.aGt,w.aG2,w.aGz⟩:M.World))) else (if (x.2.2==2)=true then ((An w.aG2 2).bind λy=>(some (x.1,x.2.1,(⟨w.Now,o,w.aGp,w.aA,w.aGx,w.aGv,w.aGy,w.aGt,(List.take (2:Int).toNat w.aG2),w.aGz⟩:M.World)))) else (if (x.2.2==3)=true then ((tL (⟨b,x.1,x.2.1⟩:M.aN)).bind λy=>(some (y.1,y.2.1,(⟨w.Now,o,w.aGp,y.2.2,w.aGx,w.aGv,w.aGy,w.aGt,w.aG2,w.aGz⟩:M.World)))) else (if (x.2.2==4)=true then ((Aw (⟨b,x.1,x.2.1⟩:M.aN)).bind λy=>((app 144 w.aGx ([y.2.2])).bind λz=>(some (y.1,y.2.1,(⟨w.Now,o,w.aGp,w.aA,(w.aGx++[y.2.2]),w.aGv,w.aGy,w.aGt,w.aG2,w.aGz⟩:M.World))))) else (if (x.2.2==5)=true then (some (x.1,x.2.1,(⟨w.Now,o,w.aGp,w.aA,w.aGx,0,w.aGy,w.aGt,w.aG2,w.aGz⟩:M.World))) else (if (x.2.2==6)=true then ((AG (⟨b,x.1,x.2.1⟩:M.aN)).bind λy=>((idx w.aGz 0).bind λz=>(some (y.1,y.2.1,(⟨w.Now,o,w.aGp,w.aA,w.aGx,w.aGv,w.aGy,w.aGt,w.aG2,(List.set w.aGz (0:Int).toNat y.2.2)⟩:M.World))))) else (some (x.1,x.2.1,(⟨w.Now,o,w.aGp,w.aA,w.aGx,w.aGv,w.aGy,w.aGt,w.aG2,w.aGz⟩:M.World))))))))))):=by
 obtain ⟨⟨a1,a2,a3,a4,a5,a6,a7,a8,a9⟩,h3,hs⟩:=hw
 have a4':w.aGx.length<=n+1 /\ ∀p∈w.aGx,Uo p:=⟨qb,a4.2⟩
 have a3':stG m 720000 w.aA:=a3.mono (Nat.le_refl _) hZ
 refine .bnd (aU c0) λi1 v1 r1 c1 q1 => ?_
 dsimp only
 split
 ·exact .bnd (rU (λx => -1000000000000000<=x/\x<=1000000000000000) qe qe c1) λi2 v2 r2 c2 q2=>.ret c2 ⟨bgI q2,a2,a3',a4',a5,a6,a7,a8,a9⟩
 split
 ·exact .ret c1 ⟨a1,wU,a3',a4',a5,a6,a7,a8,a9⟩
 split
 ·rw [show An w.aG2 2=An w.aG2 ((2:Nat):Int) from rfl,BG qb,qA];exact .ret c1 ⟨a1,a2,a3',a4',a5,a6,a7,⟨by show (List.take 2 w.aG2).length<=3;rw [qT];omega,λs hs=>a8.2 s (List.mem_of_mem_take hs)⟩,a9⟩
 split
 ·exact .bnd (Oy c1) λi2 v2 r2 c2 q2=>.ret c2 ⟨a1,a2,q2.G.mono hm (Nat.le_refl _),a4',a5,a6,a7,a8,a9⟩
 split
 ·refine .bnd (WW c1) λi2 v2 r2 c2 q2 => ?_
  dsimp only
  rw [AK qs qb,qA]
  refine .ret c2 ⟨a1,a2,a3',⟨qn,λp hp => ?_⟩,a5,a6,a7,a8,a9⟩
  rcases List.mem_append.1 hp with hp | hp
  ·exact a4.2 p hp
  ·rw [List.mem_singleton.1 hp];exact q2
 split
 ·exact .ret c1 ⟨a1,a2,a3',a4',wU,a6,a7,a8,a9⟩
 split
 ·refine .bnd (W2 c1) λi2 v2 r2 c2 q2 => ?_
  dsimp only
  rw [show idx w.aGz 0=idx w.aGz ((0:Nat):Int) from rfl,aK qb,qA]
  refine .ret c2 ⟨a1,a2,a3',a4',a5,a6,a7,a8,⟨by show (List.set w.aGz 0 r2).length<=3;rw [qN];omega,λs hs => ?_⟩⟩
  rcases List.mem_or_eq_of_mem_set hs with hs | rfl
  ·exact a9.2 s hs
  ·exact q2
 ·exact .ret c1 ⟨a1,a2,a3',a4',a5,a6,a7,a8,a9⟩
theorem XD {w:M.World} {a:ByteArray} (hw:w.ok) (hz:M.World.sz w<=1048576) : ∃R:M.World×Bool,fL w a=some R/\nA w a=some R/\R.1.ok/\(R=(w,false) \/ ∃k:Nat,∃hk:k<w.aG2.length,R=((⟨w.Now,w.aHA,w.aGp,w.aA,w.aGx,w.aGv,w.aGy,w.aGt,w.aG2.set k (N0 w.aG2[k]).1,w.aGz⟩,(N0 w.aG2[k]).2):M.World×Bool)):=by
 have hz':=hz
 simp only [M.World.sz] at hz'
 unfold fL nA
 rw [zI w qb,Kb w qb,qA,qA,xS,D2,qA,qA,AZ hw hz,L5 hw hz,qA,qA]
 cases hn:xO w with
 | false=>exact ⟨(w,false),qd,qd,hw,.inl rfl⟩
 | true =>
  simp only [qB,qD,if_false]
  by_cases h:B8 a<0
  ·simp only [h,decide_true,if_true];exact ⟨(w,false),rfl,rfl,hw,.inl rfl⟩
  ·obtain ⟨k,e,hk⟩:=Iw h
   have hk':k<w.aG2.length:=by rw [FB hn];exact hk
   have hs:=hw.aG2.2 _ (qG hk')
   have hy:=cO (f:=M.aGl.sz) (qG hk')
   simp only [h,decide_false,qD,if_false]
   rw [e,aK hk',qA,qA,L2 hs qb,L8 hs qb,qA,qA,qA,qA,qH]
   have ok:M.World.ok (⟨w.Now,w.aHA,w.aGp,w.aA,w.aGx,w.aGv,w.aGy,w.aGt,w.aG2.set k (N0 w.aG2[k]).1,w.aGz⟩:M.World):=by refine ⟨hw.Now,hw.aGp,hw.aA,hw.aGx,hw.aGv,hw.aGy,hw.aGt,⟨by simpa using hw.aG2.1,λy hy => ?_⟩,hw.aGz⟩;rcases List.mem_or_eq_of_mem_set hy with hy | rfl;(exact hw.aG2.2 _ hy);·exact UZ hs
   have hq:=F5 (f:=M.aGl.sz) (x:=(N0 w.aG2[k]).1) (l:=w.aG2) (i:=k)
   have hr:=U0 w.aG2[k]
   refine ⟨(⟨w.Now,w.aHA,w.aGp,w.aA,w.aGx,w.aGv,w.aGy,w.aGt,w.aG2.set k (N0 w.aG2[k]).1,w.aGz⟩,(N0 w.aG2[k]).2),rfl,?_,ok,.inr ⟨k,hk',rfl⟩⟩
   cases hb:(N0 w.aG2[k]).2 with
   | true=>simp
   | false=>rw [TU hb,List.set_getElem_self];rfl
theorem Xl (x:Int) : ∃l,bV x fuel 5 ([]:List Int)=some l/\(okB l/\l.length<=6):=by
 have st : ∀n (v:Nat) r,r.length<=7->(∀y∈r,0<=y/\y<=255)->v<=5 -> ∃y:Int,(0<=y/\y<=255)/\bV x (n+1) (v:Int) r=bV x n ((v:Int)-1) (r++[y]):=by intro n v r hr hy hv;refine ⟨IntKind.u8.wrap (Int.fdiv x (2^(min (i64.wrap (8*(v:Int))).toNat IntKind.i64.bits))),by rw [wrap_u8];omega,?_⟩;simp only [bV];rw [if_pos qd,if_pos (by rw [bN qb qb];simp;omega),dN qc,qA,bN (n:=(v:Int)-1) qb qb]
 have e7 : ∀n r,bV x (n+1) (-1) r=some r:=by intro n r;simp only [bV];rw [if_neg qe]
 rw [Ue]
 obtain ⟨x1,b1,e1⟩:=st (18446744073709551609+6) 5 [] qd qd qd
 obtain ⟨x2,b2,e2⟩:=st (18446744073709551609+5) 4 ([]++[x1]) qd (by simpa using b1) qd
 obtain ⟨x3,b3,e3⟩:=st (18446744073709551609+4) 3 ([]++[x1]++[x2]) qd (by simpa using ⟨b1,b2⟩) qd
 obtain ⟨x4,b4,e4⟩:=st (18446744073709551609+3) 2 ([]++[x1]++[x2]++[x3]) qd (by simpa using ⟨b1,b2,b3⟩) qd
 obtain ⟨x5,b5,e5⟩:=st (18446744073709551609+2) 1 ([]++[x1]++[x2]++[x3]++[x4]) qd (by simpa using ⟨b1,b2,b3,b4⟩) qd
 obtain ⟨x6,b6,e6⟩:=st (18446744073709551609+1) 0 ([]++[x1]++[x2]++[x3]++[x4]++[x5]) qd (by simpa using ⟨b1,b2,b3,b4,b5⟩) qd
 exact ⟨_,(e1.trans (e2.trans (e3.trans (e4.trans (e5.trans (e6.trans (e7 _ _))))))),⟨by simp [maxLen],by simpa using ⟨b1,b2,b3,b4,b5,b6⟩⟩,qd⟩
theorem Pq {t:M.aGl} {f:ByteArray} {v:Int} (h1:t.Name.size<=1048576) (h2:f.size<=1048576) : ∃l,mZ t f v=some l/\wB t f v=some l/\(okB l/\l.length<=6):=by unfold mZ wB;rw [CP h1,CZ h1,qA,qA,CP h2,CZ h2,qA,qA,Cy qd,CG qd,qA,qA];have hb:=Nk (([i64.wrap (1+v)]++[103,CB 107 t.Name,CB 109 f])++[i64.wrap (1+v)]);rw [KU hb.1 hb.2];obtain ⟨l,e,hl⟩:=Xl (Gs (([i64.wrap (1+v)]++[103,CB 107 t.Name,CB 109 f])++[i64.wrap (1+v)]));exact ⟨l,e,e,hl⟩
theorem Nh {s:M.aGl} {v:Int} (hs:s.ok):AP s v=some (F8 s v):=by
 unfold AP F8
 rw [By hs,qA]
 cases hn:DP s with
 | false=>simp
 | true =>
  have hv:=K2 hn
  rw [if_pos rfl,bN (n:=s.aGg-2) qb qb]
  cases decide (v>s.aGg-2)<;>cases decide (v<=s.aGg)<;>simp
theorem L6 {s:M.aGl} {f:ByteArray} (hs:s.ok):DN s f=some (Zv s f):=by have hm:=le_max hs.aG8.1;unfold DN Bo mC Zv;rw [findAll (L:=cJ s.aG8 f) (f:=λx:ByteArray=>x.toList==f.toList) (A:=λi=>some (i:Int)) (E:=some (-1)) hs.aG8.1 (λm k hk => ?_) (λm => ?_),uB,qA,qA,HU];(simp only [cJ];rw [if_pos (aY hk),aK hk,qA,bD qb,Bool.beq_comm]);·simp only [cJ];rw [if_neg qk]
theorem Qw {s:M.aGl} {f:ByteArray} {v:Int} (hs:s.ok) (hv:inI v) (zs:M.aGl.sz s<=1048576) (zf:f.size<=1048576) : ∃r,iT s f v=some r/\CD s f v=some r/\(M.aGm.ok r/\M.aGm.sz r<=6):=by
 have hn:s.Name.size<=1048576:=by simp only [M.aGl.sz] at zs;omega
 obtain ⟨l,e1,e2,hl⟩:=Pq (t:=s) (f:=f) (v:=v) hn zf
 unfold iT CD cC jN
 rw [Ax hs,By hs,Ey hs,Nh hs,GL hs,L6 hs,e1,e2]
 have aa:M.aGm.ok (⟨1,404,s.aGg,([]:List Int),false⟩:M.aGm):=⟨by unfold inI;simp,by unfold inI;simp,hs.aGg,⟨by simp [maxLen],qd⟩⟩
 simp only [qA]
 cases DP s
 ·exact ⟨_,rfl,rfl,UC,by simp [M.aGm.sz]⟩
 ·cases F8 s v;(exact ⟨_,rfl,rfl,aa,by simp [M.aGm.sz]⟩);·cases Zv s f;(exact ⟨_,rfl,rfl,aa,by simp [M.aGm.sz]⟩);·exact ⟨_,rfl,rfl,⟨by unfold inI;simp,by unfold inI;simp,hv,hl.1⟩,hl.2⟩
def EE (t:M.aGl) (v:Int) (f:ByteArray):M.aGm:=(iT t f v).getD (⟨4,0,0,([]:List Int),false⟩:M.aGm)
theorem served {t:M.aGl} {v:Int} {f:ByteArray} (ht:t.ok) (hv:inI v) (zt:M.aGl.sz t<=1048576) (zf:f.size<=1048576):iT t f v=some (EE t v f)/\CD t f v=some (EE t v f)/\M.aGm.ok (EE t v f)/\M.aGm.sz (EE t v f)<=6:=by
 obtain ⟨r,e1,e2,e3,e4⟩:=Qw (f:=f) ht hv zt zf
 have e:EE t v f=r:=by unfold EE;rw [e1];rfl
 rw [e]
 exact ⟨e1,e2,e3,e4⟩
def MF (t:M.aGl) (v:Int):List ByteArray->M.aC->Option M.aC
 | [],s=>some s
 | f::fs,s=>if (Iz s v t.Name f (EE t v f)).2=true then MF t v fs (Iz s v t.Name f (EE t v f)).1 else none
def PX (s:M.aC) (t:M.aGl) (v:Int) (o:Bool):M.aC×Bool:=if (o&&(F8 t v&&(DE s v).2))=true then (match MF t v t.aG8 (DE s v).1 with | some c=>(c,true) | none=>(s,false)) else (s,false)
theorem Kv {t:M.aGl} {v:Int} (ht:t.ok) (hv:inI v) (zt:M.aGl.sz t<=1048576) : ∀(l:List ByteArray) (s c:M.aC),(∀f∈l,f.size<=1048576)->s.ok->fU s=true->MF t v l s=some c->c.ok/\fU c=true
 | [],s,c,_,hs,hn,h=>by cases h;exact ⟨hs,hn⟩
 | f::fs,s,c,hl,hs,hn,h=>by simp only [MF] at h;split at h;(rename_i h1;obtain ⟨_,_,e3,_⟩:=served (f:=f) ht hv zt (hl f qd);have hf:=hl f qd;exact Kv ht hv zt fs _ c (λg hg=>hl g (by simp [hg])) (Nv hs (by have:=Ap hn;omega) (by simp only [M.aGl.sz] at zt;unfold maxLen;omega) qj e3) (Kw h1) h);·cases h
theorem ON {s:M.aC} {t:M.aGl} {v:Int} (hz:M.aC.sz s<=1073741824) (ht:t.ok) (hv:inI v) (zt:M.aGl.sz t<=1048576) : ∀(n k:Nat) (c:M.aC),t.aG8.length-k<n->k<=t.aG8.length->c.ok->fU c=true->jX s t v n (k:Int) c.aGi=some (match MF t v (t.aG8.drop k) c with | some c=>(c,true) | none=>(s,false))
 | 0,k,c,h,_,_,_=>by omega
 | n+1,k,c,h,hk,hc,hn=>by
  have zl:t.aG8.length<=1048576:=by simp only [M.aGl.sz] at zt;omega
  simp only [jX]
  rcases Nat.lt_or_ge k t.aG8.length with hlt | hge
  ·have zf:=cO (f:=ByteArray.size) (qG hlt)
   have zf2:t.aG8[k].size<=1048576:=by simp only [M.aGl.sz] at zt;omega
   obtain ⟨e1,_,e3,e4⟩:=served (f:=t.aG8[k]) ht hv zt zf2
   have zc:=Ap hn
   have zn:t.Name.size<=maxLen:=by simp only [M.aGl.sz] at zt;unfold maxLen;omega
   have zf3:t.aG8[k].size<=maxLen:=by unfold maxLen;omega
   rw [if_pos (aY hlt),aK hlt,qA,e1,qA,CM hc qb zn zf3 e3 qb,qA,qV hlt,MF]
   cases hb:(Iz c v t.Name t.aG8[k] (EE t v t.aG8[k])).2 with
   | false=>rw [if_pos (by rfl),sY s hz,qA];rfl
   | true =>
    rw [if_neg qd,if_pos rfl,bD qb]
    exact ON hz ht hv zt n (k+1) _ qb qb (Nv hc qb zn zf3 e3) (Kw hb)
  ·have e:k=t.aG8.length:=by omega
   subst e
   rw [if_neg qk,qY]
   rfl
theorem Da {s:M.aC} {t:M.aGl} {v:Int} {o:Bool} (hs:s.ok) (hz:M.aC.sz s<=1073741824) (ht:t.ok) (hv:inI v) (zt:M.aGl.sz t<=1048576):oV s t v o=some (PX s t v o):=by
 have zl:t.aG8.length<=1048576:=by simp only [M.aGl.sz] at zt;omega
 unfold oV PX
 rw [E4 hs hv hz,qA,sY s hz,Ey ht]
 simp only [qA]
 cases hb:(DE s v).2 with
 | false=>simp
 | true =>
  have h:=ON hz ht hv zt fuel 0 (DE s v).1 qi qb (KW hs hv hz) (IT hb)
  rw [List.drop_zero] at h
  cases o
  ·simp
  ·cases F8 t v;(simp);·simp only [qB,qD,if_false,Bool.and_self,if_true];exact h
theorem MO {s:M.aC} {t:M.aGl} {v:Int} {o:Bool} (hs:s.ok) (hn:fU s=true) (ht:t.ok) (hv:inI v) (zt:M.aGl.sz t<=1048576):M.aC.ok (PX s t v o).1/\fU (PX s t v o).1=true:=by have zc:=Ap hn;unfold PX;split;(rename_i h;rw [qM,qM] at h;split;(rename_i c e;exact Kv ht hv zt t.aG8 _ c (λf hf=>by have:=cO (f:=ByteArray.size) hf;simp only [M.aGl.sz] at zt;omega) (KW hs hv qb) (IT h.2.2) e);·exact ⟨hs,hn⟩);·exact ⟨hs,hn⟩
theorem Wa {p:M.aGf} (h:RA p=true):0<=p.aHF:=by
 apply Classical.byContradiction
 intro hn
 unfold RA cE at h
 rw [show fuel=(fuel-1)+1 from by unfold fuel;rfl] at h
 simp only [bU] at h
 rw [if_pos qe,show (0:Int)=((0:Nat):Int) from rfl,aK qd,qA,cF,qA] at h
 have e:inR [p.aHF,p.aHC,p.aG6][0] ((0:Nat):Int) 1000000000000=false:=by
  cases hb:inR [p.aHF,p.aHC,p.aG6][0] ((0:Nat):Int) 1000000000000 with
  | false=>rfl
  | true=>exact absurd (Vr hb).1 hn
 rw [e] at h
 simp at h
theorem RY {w:M.World} {j:Nat} (h:xO w=true) (hj:j<w.aA.aGj.length):pL w.aA.aGj[j]=true:=by unfold xO at h;simp only [qM] at h;have h1:=h.2.2.2.2.2.2.2.1;unfold rC at h1;rw [qM] at h1;have h2:=List.all_eq_true.1 h1.1 j (List.mem_range.2 hj);unfold C9 at h2;rw [qF hj,Option.any_some,qM] at h2;exact h2.1
theorem Sk {α β R:Type} {xs:List α} {f:α->Bool} {g:α->β} {b:Nat} {E:List β->Option R} {L:Nat->Int->List β->Option R} (hx:xs.length<=maxLen) (hb:xs.length*b<=140737488355328)
  (h1 : ∀n (r:List β) (k:Nat) (hk:k<xs.length),L (n+1) (k:Int) r=if f xs[k]=true then (app b r [g xs[k]]).bind λ_=>L n ((k+1:Nat):Int) (r++[g xs[k]]) else L n ((k+1:Nat):Int) r) (h2 : ∀n r,L (n+1) (xs.length:Int) r=E r) :
  L fuel 0 []=E ((xs.filter f).map g):=by
 have key:=Mm (L:=λn k r=>L n k r) (step:=λr x=>if f x=true then r++[g x] else r) (I:=λk r=>r.length<=k) (E:=E) hx
  (λs k hk hi=>by have hi':s.length<=k:=hi;split<;>(try simp only [qE,qJ,qK])<;>omega) (λn s k hk hi=>by have hi':s.length<=k:=hi;rw [h1 n s k hk];by_cases h:f xs[k]=true;(rw [if_pos h,if_pos h,dN,qA];simp only [qJ,qK];refine Nat.le_trans (Nat.mul_le_mul_right b (show s.length+(0+1)<=xs.length by omega)) hb);·rw [if_neg h,if_neg h]) (λn s _=>h2 n s) [] qd
 have e : ∀(l:List α) (r:List β),l.foldl (λr x=>if f x=true then r++[g x] else r) r=r++(l.filter f).map g:=by
  intro l
  induction l with
  | nil=>intro r;simp
  | cons x l ih =>
   intro r
   rw [List.foldl_cons,ih,List.filter_cons]
   split<;>simp
 rw [key.1,e]
 simp
def Ml (s:M.aC) (k:Nat):List M.aGo:=s.aGi.take k++s.aGi.drop (k+1)
def LS (s:M.aC) (v:Int):M.aC×Bool:=if kG (λc:M.aGo=>c.aGg==v) s.aGi<0 then (s,false) else ((⟨Ml s (kG (λc:M.aGo=>c.aGg==v) s.aGi).toNat⟩:M.aC),true)
theorem RS {s:M.aC} {k:Nat} {x:M.aGo} (h:x∈Ml s k):x∈s.aGi:=by unfold Ml at h;rcases List.mem_append.1 h with h | h;(exact List.mem_of_mem_take h);·exact List.mem_of_mem_drop h
theorem MH (s:M.aC) (k:Nat):(Ml s k).length<=s.aGi.length:=by unfold Ml;simp only [qE,qT,qU];omega
theorem NR {s:M.aC} {v:Int} (hs:s.ok):M.aC.ok (LS s v).1:=by unfold LS;split;(exact hs);·exact ⟨⟨Nat.le_trans (MH s _) hs.aGi.1,λx hx=>hs.aGi.2 x (RS hx)⟩⟩
theorem M3 (s:M.aC) (v:Int):M.aC.sz (LS s v).1<=M.aC.sz s:=by unfold LS;split;(exact Nat.le_refl _);·have h1:=MH s (kG (λc:M.aGo=>c.aGg==v) s.aGi).toNat;have h2:=UA (f:=M.aGo.sz) (kG (λc:M.aGo=>c.aGg==v) s.aGi).toNat s.aGi;unfold Ml at h1 ⊢;simp only [M.aC.sz];omega
theorem EU {s:M.aC} {v:Int} (hs:s.ok) (hz:M.aC.sz s<=1073741824):vD s v=some (LS s v):=by
 have hl:s.aGi.length<=1073741824:=by simp only [M.aC.sz] at hz;omega
 unfold vD LS
 rw [sY s hz,qA,yS hs,qA]
 by_cases h:kG (λc:M.aGo=>c.aGg==v) s.aGi<0
 ·rw [if_pos (by simpa using h),if_pos h]
 ·obtain ⟨k,e,hk⟩:=fI h;rw [if_neg (by simpa using h),if_neg h,e,BG qb,qA,bD qb,Iu qb,qA,qH,qH,dN (by simp only [qT,qU];omega),qA];rfl
def MX (l:List M.bJ) (a:ByteArray):List Int:=(l.filter λx:M.bJ=>x.aGl.toList==a.toList).map λx=>x.aGg
theorem US (l:List M.bJ) (a:ByteArray):(MX l a).length<=l.length:=by unfold MX;rw [List.length_map];exact List.length_filter_le _ _
theorem G5 {l:List M.bJ} {a:ByteArray} (hl:l.length<=1048576):uC l a=some (MX l a):=by unfold uC MX;refine Sk (L:=eK l a) (b:=8) (E:=some) (f:=λx:M.bJ=>x.aGl.toList==a.toList) (g:=λx:M.bJ=>x.aGg) qj qb (λn r k hk => ?_) (λn r => ?_);(simp only [eK];rw [if_pos (aY hk),aK hk,qA,bD qb]);·simp only [eK];rw [if_neg qk]
def aAa (r:M.aGf) (l:List Int):Bool:=RA r&&((r.aHC != 0) && !(l.any λx=>x==r.aHF))
theorem Hu {r:M.aGf} {l:List Int} (hr:r.ok) (hl:l.length<=1048576):vN r l=some (aAa r l):=by unfold vN aAa;rw [findAll (xs:=l) (L:=iF r l) (f:=λx:Int=>x==r.aHF) (A:=λ_=>some false) (E:=(cE r).bind λx=>(if x=true then (some (r.aHC != 0)) else (some false))) qj (λm k hk => ?_) (λm => ?_),Nw,mD hr,qA];(cases l.any (λx:Int=>x==r.aHF)<;>cases RA r<;>simp);(simp only [iF];rw [if_pos (aY hk),aK hk,qA,bD qb]);·simp only [iF];rw [if_neg qk]
def XL (r:M.aGf) (l:List Int):M.aGf×Int×Bool:=if aAa r l=true then ((⟨r.aGl,r.aG6,0,r.aHC⟩:M.aGf),r.aHF,true) else (r,0,false)
theorem Lu {r:M.aGf} {l:List Int} (hr:r.ok) (hl:l.length<=1048576):Aj r l=some (XL r l):=by unfold Aj XL;rw [Hu hr hl,qA];cases aAa r l<;>simp
theorem YH {r:M.aGf} {l:List Int} (hr:r.ok):M.aGf.ok (XL r l).1:=by unfold XL;split;(exact ⟨hr.aGl,hr.aG6,by unfold inI;simp,hr.aHC⟩);·exact hr
theorem X5 (r:M.aGf) (l:List Int):M.aGf.sz (XL r l).1=M.aGf.sz r:=by unfold XL;split<;>rfl
theorem Vh {b o:M.aG} (zb:M.aG.sz b<=1048576) (zo:M.aGh.sz o.bW.aG4<=1048576):M.aGh.sz (OI b o).1.bW.aG4<=1048576:=by unfold OI;split;(split;(exact zo);·exact Ad zb);·exact Ad zb
def Em (w:M.World) (b:M.aG) (ok:Bool):M.World×Bool:=if ok=true then (if (E9 w.aA b).2=true then ({ w with aA:=(E9 w.aA b).1 },true) else (w,false)) else (w,false)
theorem Xn {w:M.World} {b:M.aG} {ok:Bool} (hw:w.ok) (hb:b.ok) (hz:M.World.sz w<=1048576):M.World.ok (Em w b ok).1:=by have h:=PF hw.aA hb (Db hz);unfold Em;split;(split;(exact ⟨hw.Now,hw.aGp,h,hw.aGx,hw.aGv,hw.aGy,hw.aGt,hw.aG2,hw.aGz⟩);·exact hw);·exact hw
theorem Wt (w:M.World) (b:M.aG) (ok:Bool):M.World.sz (Em w b ok).1<=M.World.sz w+M.aG.sz b+1:=by have h:=T5 w.aA b;unfold Em;split;(split;(simp only [M.World.sz];omega);·show M.World.sz w<=_;omega);·show M.World.sz w<=_;omega
theorem Ew {w:M.World} {b:M.aG} {ok:Bool} (hw:w.ok) (hb:b.ok) (hz:M.World.sz w<=1048576) (zc:M.aG.sz b<=1073741824) (zb:M.aGh.sz b.bW.aG4<=1048576):yE w b ok=some (Em w b ok):=by unfold yE Em;rw [zI w qb,qA,B5 hw.aA hb (Db hz) zc zb,qA];cases ok;(simp);·cases (E9 w.aA b).2<;>simp
theorem Pr {w:M.World} {b:M.aG} {ok:Bool} (h:(Em w b ok).2=true):ok=true/\(E9 w.aA b).2=true/\(Em w b ok).1={ w with aA:=(E9 w.aA b).1 }:=by
 unfold Em at h ⊢
 cases ok with
 | false=>rw [if_neg qd] at h;cases h
 | true =>
  rw [if_pos rfl] at h ⊢
  cases hp:(E9 w.aA b).2 with
  | false=>rw [hp,if_neg qd] at h;cases h
  | true=>rw [if_pos rfl];exact ⟨rfl,rfl,rfl⟩
theorem Wo {w:M.World} {b:M.aG} {ok:Bool} (h:(Em w b ok).2=false):Em w b ok=(w,false):=by
 unfold Em at h ⊢
 cases ok with
 | false=>rfl
 | true =>
  rw [if_pos rfl] at h ⊢
  cases hp:(E9 w.aA b).2 with
  | false=>rfl
  | true=>rw [hp,if_pos rfl] at h;cases h
theorem Q8 {b o:M.aG} (h:(OI b o).2=true):(OI b o).1=o/\pL o=true:=by
 unfold OI at h ⊢
 cases hb:pL b with
 | false=>rw [hb,if_neg qd] at h;cases h
 | true =>
  rw [hb,if_pos rfl] at h
  rw [if_pos rfl]
  cases ho:pL o with
  | false=>rw [ho,if_neg qd] at h;cases h
  | true=>exact ⟨by rw [if_pos rfl],rfl⟩
theorem Yr {r:M.aGf} {v:Int} {ok:Bool} (h:(Cz r v).2=true) (hk:ok=true):(Vy (Cz r v).1 ok).1.aHC=v/\(Vy (Cz r v).1 ok).1.aG6=0:=by
 unfold Cz at h ⊢
 split
 ·rename_i hc
  simp only [qM,qL] at hc
  have h0:(v==0)=false:=by rw [beq_eq_false_iff_ne];omega
  unfold Vy
  dsimp only
  rw [hc.2.2.2,h0,if_pos qd,if_pos hk]
  exact ⟨rfl,rfl⟩
 ·rename_i hc;rw [if_neg hc] at h;cases h
def aD5 (w:M.World) (a b:ByteArray) (R:M.World×Bool):Prop:=xO w=true /\ ∃(j:Nat) (hj:j<w.aA.aGj.length) (k:Nat) (hk:k<w.aG2.length) (s:M.aC) (r:M.aGf),kG (nAt a b) w.aA.aGj=(j:Int)/\B8 a=(k:Int)/\s.ok/\r.ok/\M.aC.sz s<=65536/\M.aGf.sz r=M.aGf.sz w.aA.aGj[j].aGf/\(R.2=true->r.aHC=w.aG2[k].aGg/\r.aG6=0)/\(E9 w.aA (cZ w.aA.aGj[j] s r)).2=true/\R.1={ w with aA:=(E9 w.aA (cZ w.aA.aGj[j] s r)).1 }
theorem Z1 {w:M.World} {a b:ByteArray} (hw:w.ok) (hz:M.World.sz w<=1048576) : ∃R:M.World×Bool,dJ w a b=some R/\(R=(w,false)\/aD5 w a b R):=by
 have hz':=hz
 simp only [M.World.sz,M.aA.sz] at hz'
 unfold dJ
 rw [sZ hw.aA,AZ hw hz,zI w qb,xS]
 simp only [qA]
 by_cases h:kG (nAt a b) w.aA.aGj<0
 ·simp only [h,decide_true,if_true,qA];refine ⟨(w,false),?_,.inl rfl⟩<;>cases xO w<;>simp
 ·obtain ⟨j,ej,hj⟩:=fI h
  simp only [h,decide_false,qD,if_false]
  rw [ej,aK hj]
  simp only [qA,qB,qD,if_false]
  cases hn:xO w with
  | false=>exact ⟨(w,false),qd,.inl rfl⟩
  | true =>
   simp only [qB,qD,if_false]
   have hb:=hw.aA.aGj.2 _ (qG hj)
   have z1:=cO (f:=M.aG.sz) (qG hj)
   have nb:=RY hn hj
   generalize hqe:w.aA.aGj[j]=q at hb z1 nb
   unfold pL at nb
   simp only [qM] at nb
   have nr:=Wa nb.2.2.1
   have nc:=nb.2.2.2.2.1
   have zn:0<=Kx q.aGf:=by unfold Kx;omega
   rw [Gr]
   simp only [qA]
   by_cases h2:B8 a<0
   ·simp only [h2,decide_true,if_true];exact ⟨(w,false),rfl,.inl rfl⟩
   ·obtain ⟨k,ek,hk⟩:=Iw h2
    have hk':k<w.aG2.length:=by rw [FB hn];exact hk
    obtain ⟨T,eT2⟩ : ∃T,T=w.aG2[k]:=⟨_,rfl⟩
    simp only [h2,decide_false,qD,if_false]
    rw [ek,aK hk',<-eT2]
    have ht:T.ok:=by rw [eT2];exact hw.aG2.2 _ (qG hk')
    have zt:M.aGl.sz T<=1048576:=by have:=cO (f:=M.aGl.sz) (qG hk');rw [<-eT2] at this;omega
    simp only [qA]
    rw [Hd hb.aGf ht.aGg]
    simp only [qA]
    have okb:=SO hb.aGf ht.aGg
    have szb:=RO q.aGf T.aGg
    generalize hBe:Cz q.aGf T.aGg=B at okb szb
    have z2:M.aC.sz q.aGi+M.aGf.sz q.aGf<=M.aG.sz q:=by simp only [M.aG.sz];omega
    cases hB:B.2 with
    | false =>
     exact ⟨(w,false),qd,.inl rfl⟩
    | true =>
     simp only [qB,qD,if_false]
     by_cases h3:T.aGg<=Kx q.aGf
     ·simp only [h3,decide_true,if_true];exact ⟨(w,false),rfl,.inl rfl⟩
     ·simp only [h3,decide_false,qD,if_false]
      rw [Da hb.aGi qb ht ht.aGg zt]
      obtain ⟨oki,nci⟩:=MO (o:=w.aHA) hb.aGi nc ht ht.aGg zt
      generalize PX q.aGi T T.aGg w.aHA=I at oki nci
      have zi:=Ap nci
      simp only [qA]
      rw [IX okb]
      have oke:=YV (ok:=I.2) okb
      have sze:=YU B.1 I.2
      generalize hEe:Vy B.1 I.2=E at oke sze
      simp only [qA]
      rw [EU oki qb]
      simp only [qA]
      have okd:=NR (v:=E.2) oki
      have szd:=M3 I.1 E.2
      generalize (LS I.1 E.2).1=s at okd szd
      have zs:(M.aC.sz s+M.aGf.sz E.1)<=536870912:=by omega
      have zo:M.aGh.sz (cZ q s E.1).bW.aG4<=1048576:=Ad (b:=q) qb
      have zr:=DS q s E.1
      have zc:=Vv q (cZ q s E.1)
      have zd:=Vh (b:=q) (o:=cZ q s E.1) qb zo
      have ok3:=UM hb (Cg hb okd oke)
      rw [CL hb okd oke qb zs zo,qA,Ew hw ok3 hz qb zd]
      generalize hYe:OI q (cZ q s E.1)=Y at zc ok3
      simp only [qA]
      have ok4:=Xn (ok:=Y.2) hw ok3 hz
      have sz4:=Wt w Y.1 Y.2
      have hf:(Em w Y.1 Y.2).2=false->(Em w Y.1 Y.2).1=w:=by unfold Em;split;(split<;>simp);·simp
      generalize hZe:Em w Y.1 Y.2=Z at ok4 sz4 hf
      cases hZ:Z.2 with
      | false=>exact ⟨(w,false),by simp [hf hZ],.inl rfl⟩
      | true =>
       refine ⟨(Z.1,I.2),qd,.inr ⟨hn,?_⟩⟩
       obtain ⟨z1',z2',z3'⟩:=Pr (w:=w) (b:=Y.1) (ok:=Y.2) (by rw [hZe];exact hZ)
       rw [hZe] at z3'
       obtain ⟨y1,y2⟩:=Q8 (b:=q) (o:=cZ q s E.1) (by rw [hYe];exact z1')
       rw [hYe] at y1
       rw [y1] at z2' z3'
       subst hqe
       refine ⟨j,hj,k,hk',s,E.1,ej,ek,okd,oke,qb,qb,λhI => ?_,z2',z3'⟩
       have hBT:(Cz w.aA.aGj[j].aGf T.aGg).2=true:=by rw [hBe];exact hB
       have:=Yr hBT (show I.2=true from hI)
       rw [hBe,hEe] at this
       rw [<-eT2]
       exact this
def aEj (w:M.World) (a b:ByteArray) (R:M.World×Bool):Prop:=xO w=true /\ ∃(j:Nat) (hj:j<w.aA.aGj.length) (v:Int) (r:M.aGf),kG (nAt a b) w.aA.aGj=(j:Int)/\XL w.aA.aGj[j].aGf (MX (w.aGx.filter (Yt a b)) a)=(r,v,true)/\r.ok/\M.aGf.sz r=M.aGf.sz w.aA.aGj[j].aGf/\(E9 w.aA (cZ w.aA.aGj[j] (LS w.aA.aGj[j].aGi v).1 r)).2=true/\R.1={ w with aA:=(E9 w.aA (cZ w.aA.aGj[j] (LS w.aA.aGj[j].aGi v).1 r)).1 }
theorem ZF {w:M.World} {a b:ByteArray} (hw:w.ok) (hz:M.World.sz w<=1048576) : ∃R:M.World×Bool,fT w a b=some R/\(R=(w,false)\/(R.2=true/\aEj w a b R)):=by
 have hz':=hz
 simp only [M.World.sz,M.aA.sz] at hz'
 unfold fT
 rw [sZ hw.aA,AZ hw hz,zI w qb]
 simp only [qA]
 by_cases h:kG (nAt a b) w.aA.aGj<0
 ·simp only [h,decide_true,if_true,qA];refine ⟨(w,false),?_,.inl rfl⟩<;>cases xO w<;>simp
 ·obtain ⟨j,ej,hj⟩:=fI h
  simp only [h,decide_false,qD,if_false]
  rw [ej,aK hj]
  simp only [qA,qB,qD,if_false]
  cases hn:xO w with
  | false=>exact ⟨(w,false),qd,.inl rfl⟩
  | true =>
   simp only [qB,qD,if_false]
   have hb:=hw.aA.aGj.2 _ (qG hj)
   have z1:=cO (f:=M.aG.sz) (qG hj)
   have hlf:=List.length_filter_le (Yt a b) w.aGx
   generalize hqe:w.aA.aGj[j]=q at hb z1
   have z2:M.aC.sz q.aGi+M.aGf.sz q.aGf<=M.aG.sz q:=by simp only [M.aG.sz];omega
   have hu:(MX (w.aGx.filter (Yt a b)) a).length<=1048576:=Nat.le_trans (US _ _) qb
   rw [L0 hz,qA,G5 qb,qA,Lu hb.aGf hu,qA]
   have ok1:=YH (l:=MX (w.aGx.filter (Yt a b)) a) hb.aGf
   have sz1:=X5 q.aGf (MX (w.aGx.filter (Yt a b)) a)
   generalize hTe:XL q.aGf (MX (w.aGx.filter (Yt a b)) a)=T at ok1 sz1
   obtain ⟨r,v,c⟩:=T
   simp only at ok1 sz1 ⊢
   have ok2:=NR (v:=v) hb.aGi
   have sz2:=M3 q.aGi v
   rw [EU hb.aGi qb,qA]
   generalize hse:(LS q.aGi v).1=s at ok2 sz2
   have zs:(M.aC.sz s+M.aGf.sz r)<=536870912:=by omega
   have zo:M.aGh.sz (cZ q s r).bW.aG4<=1048576:=Ad (b:=q) qb
   have zr:=DS q s r
   have zc:=Vv q (cZ q s r)
   have zd:=Vh (b:=q) (o:=cZ q s r) qb zo
   have ok3:=UM hb (Cg hb ok2 ok1)
   rw [CL hb ok2 ok1 qb zs zo,qA,Ew hw ok3 hz qb zd,Ew hw ok3 hz qb zd]
   generalize hYe:OI q (cZ q s r)=Y at zc ok3
   simp only [qA]
   cases c with
   | false=>exact ⟨(w,false),by simp [Em],.inl rfl⟩
   | true =>
    refine ⟨Em w Y.1 Y.2,qd,?_⟩
    cases hZ:(Em w Y.1 Y.2).2 with
    | false=>exact .inl (Wo hZ)
    | true =>
     obtain ⟨z1',z2',z3'⟩:=Pr hZ
     obtain ⟨y1,y2⟩:=Q8 (b:=q) (o:=cZ q s r) (by rw [hYe];exact z1')
     rw [hYe] at y1
     rw [y1,<-hse] at z2' z3'
     subst hqe
     rw [y1,<-hse]
     exact .inr ⟨rfl,hn,j,hj,v,r,ej,hTe,ok1,sz1,z2',z3'⟩
theorem Q5 {a b:ByteArray} {q:M.aG} (h:nAt a b q=true):nAt q.aGl q.Top=nAt a b:=by unfold nAt at h;rw [qM] at h;funext x;unfold nAt;rw [eq_of_beq h.1,eq_of_beq h.2]
theorem ZE {m n Z:Nat} {w:M.World} {a:ByteArray} (h:wd3 m n Z w) (hm:lit m n Z) : ∃R,fL w a=some R/\(nA w a=some R/\wd3 m n Z R.1):=by obtain ⟨R,e1,e2,_,hR⟩:=XD (a:=a) (h.1.ok' hm) (h.1.sz' hm);refine ⟨R,e1,e2,?_⟩;rcases hR with rfl | ⟨k,hk,rfl⟩;(exact h);·obtain ⟨⟨a1,a2,a3,a4,a5,a6,a7,a8,a9⟩,aa,ae⟩:=h;have hs:=a8.2 _ (qG hk);refine ⟨⟨a1,a2,a3,a4,a5,a6,a7,⟨by show (w.aG2.set k _).length<=3;rw [qN];exact a8.1,λs hs' => ?_⟩,a9⟩,by show (w.aG2.set k _).length=3;rw [qN];exact aa,ae⟩;rcases List.mem_or_eq_of_mem_set hs' with hs' | rfl;(exact a8.2 s hs');·exact ⟨UZ hs.1,by rw [U0];exact hs.2⟩
theorem OE {q:M.aG} {s:M.aC} {r:M.aGf} (hq:bkJ q) (hs:s.ok) (hr:r.ok):bkJ (cZ q s r):=⟨hq.1,hq.2.1,Cg hq.2.2 hs hr⟩
theorem N6 {q:M.aG} {s:M.aC} {r:M.aGf} {c:Nat} (hr:M.aGf.sz r=M.aGf.sz q.aGf) (hs:M.aC.sz s<=M.aC.sz q.aGi+c):M.aG.sz (cZ q s r)<=M.aG.sz q+c:=by simp only [cZ,M.aG.sz];omega
theorem XS {m n Z:Nat} {w:M.World} {a b:ByteArray} (h:wdG m n Z w) (hm:lit m n Z) : ∃R,dJ w a b=some R/\((wdG m n (Z+66000) R.1/\R.1.aG2=w.aG2/\R.1.aGz=w.aGz)/\(R=(w,false)\/aD5 w a b R)):=by obtain ⟨R,e1,hR⟩:=Z1 (a:=a) (b:=b) (h.ok' hm) (h.sz' hm);refine ⟨R,e1,?_,hR⟩;rcases hR with rfl | ⟨_,j,hj,k,hk,s,r,ej,_,ks,kr,zs,zr,_,_,e⟩;(exact ⟨h.mono qb qb qb,rfl,rfl⟩);·rw [e];obtain ⟨a1,a2,a3,a4⟩:=h;have hq:=a3.2.1 _ (qG hj);obtain ⟨_,hit⟩:=AA ej;refine ⟨⟨a1,a2,(Qg (c:=65536) a3 (OE hq ks kr) hj (by show kG (nAt w.aA.aGj[j].aGl w.aA.aGj[j].Top) _=_;rw [Q5 hit];exact ej) (N6 zr qb)).mono (Nat.le_refl _) qb,a4⟩,rfl,rfl⟩
theorem ZI {m n Z:Nat} {w:M.World} {a b:ByteArray} (h:wdG m n Z w) (hm:lit m n Z) : ∃R,fT w a b=some R/\((wdG m n Z R.1/\R.1.aG2=w.aG2/\R.1.aGz=w.aGz)/\(R=(w,false)\/(R.2=true/\aEj w a b R))):=by obtain ⟨R,e1,hR⟩:=ZF (a:=a) (b:=b) (h.ok' hm) (h.sz' hm);refine ⟨R,e1,?_,hR⟩;rcases hR with rfl | ⟨_,_,j,hj,v,r,ej,_,kr,zr,_,e⟩;(exact ⟨h,rfl,rfl⟩);·rw [e];obtain ⟨a1,a2,a3,a4⟩:=h;have hq:=a3.2.1 _ (qG hj);obtain ⟨_,hit⟩:=AA ej;have hd:=M3 w.aA.aGj[j].aGi v;refine ⟨⟨a1,a2,(Qg (c:=0) a3 (OE hq (NR hq.2.2.aGi) kr) hj (by show kG (nAt w.aA.aGj[j].aGl w.aA.aGj[j].Top) _=_;rw [Q5 hit];exact ej) (N6 zr qb)).mono (Nat.le_refl _) qb,a4⟩,rfl,rfl⟩
theorem Yu {b:List Int} {i h:Int} {m n Z:Nat} {w:M.World} (c0:okC b i h) (hw:wd3 m n Z w) (hm:lit m n Z):Dr b (wd3 (m+1) (n+1) (Z+66000)) (Bc (⟨b,i,h⟩:M.aN) w):=by
 have up : ∀ {v:M.World},wd3 m n Z v->wd3 (m+1) (n+1) (Z+66000) v:=λhv=>hv.mono qb qb qb
 have fin : ∀ {ci ch:Int} {a t:ByteArray},okC b ci ch->a.size<=16->t.size<=16->Dr b (wd3 (m+1) (n+1) (Z+66000)) ((aF (⟨b,ci,ch⟩:M.aN) 6).bind λaa=>(if (aa.2.2==0)=true then ((fL w a).bind λah=>(some (aa.1,aa.2.1,ah.1))) else (if (aa.2.2==1)=true then ((dJ w a t).bind λai=>(some (aa.1,aa.2.1,ai.1))) else (if (aa.2.2==2)=true then ((dJ w a t).bind λaj=>(some (aa.1,aa.2.1,aj.1))) else (if (aa.2.2==3)=true then ((fT w a t).bind λak=>(some (aa.1,aa.2.1,ak.1))) else (if (aa.2.2==4)=true then ((iR (⟨b,aa.1,aa.2.1⟩:M.aN)).bind λae=>((kC w a t ae.2.2).bind λal=>(some (ae.1,ae.2.1,al.1)))) else ((aF (⟨b,aa.1,aa.2.1⟩:M.aN) 4).bind λaf=>((kS w (i64.wrap (1+af.2.2))).bind λao=>(some (af.1,af.2.1,ao.1)))))))))):=by
  intro ci ch a t hc ha ht
  refine .bnd (aU hc) λi1 v1 r1 c1 q1 => ?_
  dsimp only
  split
  ·exact .E0 (ZE hw hm) λR hR=>.ret c1 (up hR.2)
  split
  ·exact .E0 (XS (w:=w) hw.1 hm) λR hR=>.ret c1 ((hw.to hR.1).mono qb qb qb)
  split
  ·exact .E0 (XS (w:=w) hw.1 hm) λR hR=>.ret c1 ((hw.to hR.1).mono qb qb qb)
  split
  ·exact .E0 (ZI (w:=w) hw.1 hm) λR hR=>.ret c1 (up (hw.to hR.1))
  split
  ·exact .bnd (El c1) λi2 v2 r2 c2 q2=>.E0 (Qq (w:=w) hw.1 hm ha ht q2) λR hR=>.ret c2 ((hw.to hR.1).mono qb qb qb)
  ·exact .bnd (aU c1) λi2 v2 r2 c2 q2=>.E0 (Rq (w:=w) hw.1 hm) λR hR=>.ret c2 (up (hw.to hR.1))
 unfold Bc
 refine .bnd (Ib c0) λi1 v1 a c1 q1=>.bnd (uK c1) λi2 v2 r2 c2 q2 => ?_
 dsimp only
 split
 ·exact .bnd (Ib c2) λi3 v3 t c3 q3=>fin c3 q1 q3
 ·exact fin c2 q1 q1
theorem Se {b:List Int} {i h:Int} (c0:okC b i h):Dr b (wd3 10 10 400400) (Al (⟨b,i,h⟩:M.aN)):=by
 unfold Al
 refine .bnd (SR c0) λi1 v1 w0 c1 q1=>.bnd (aU c1) λi2 v2 r2 c2 q2 => ?_
 obtain ⟨N,rfl⟩:=AI q2.1
 have hN:=q2.2.1 qb
 have key : ∀(n k:Nat) (w:M.World) (ci ch:Int),k<n->k<=6->okC b ci ch->wd3 (10-k) (10-k) (4400+66000*(6-k)) w->Dr b (wd3 10 10 400400) (pZ (⟨b,i,h⟩:M.aN) n (k:Int) w.Now w.aHA w.aGp w.aGv ci ch w.aA.aGj w.aGx w.aGy.aGy w.aGt.aHN w.aG2 w.aGz):=by
  intro n
  induction n with
  | zero=>intro k w ci ch h _ _ _;omega
  | succ n ih =>
   intro k w ci ch hn hk hc hw
   simp only [pZ]
   cases k with
   | zero =>
    rw [if_neg qd]
    exact .ret hc (hw.mono qb qb qb)
   | succ k =>
    rw [if_pos (decide_eq_true qb),XH k qb]
    refine .bnd (Yu (w:=w) hc hw ⟨qb,qb,qb⟩) λi3 v3 r3 c3 q3 => ?_
    exact ih k r3 i3 v3 qb qb c3 (q3.mono qb qb qb)
 exact key fuel N w0 i2 v2 (kE qb) qb c2 (q1.mono qb qb qb)
theorem Xd {b:List Int} {i h:Int} (c0:okC b i h):Dr b (wdG 10 11 720000) (BS (⟨b,i,h⟩:M.aN)):=by
 unfold BS
 refine .bnd (Se c0) λi1 v1 r1 c1 q1=>.bnd (uK c1) λi2 v2 r2 c2 q2 => ?_
 exact Zf (w:=r1) (o := !r2) c2 q1 qb qb qb
theorem Vk {b:List Int} {i h:Int} {a:ByteArray} (c0:okC b i h) (ha:a.size<=16):Dr b (λs=>M.aGl.ok s/\M.aGl.sz s<=80) (AR (⟨b,i,h⟩:M.aN) a):=by
 unfold AR
 have e4 : ∀x∈[(⟨#[99,111,100,101]⟩:ByteArray),(⟨#[100,97,116,97]⟩:ByteArray),(⟨#[105,110,100,101,120]⟩:ByteArray),(⟨#[115,116,121,108,101]⟩:ByteArray)],ByteArray.size x<=8:=by decide
 refine .bnd (aU c0) λi1 v1 r1 c1 q1=>.bnd (uK c1) λi2 v2 r2 c2 q2=>.bnd (uK c2) λi3 v3 r3 c3 q3 => ?_
 have fin : ∀ {f:List ByteArray},f.length<=4->(∀x∈f,x.size<=8)->M.aGl.ok (⟨a,i64.wrap (1+r1),f,r2⟩:M.aGl)/\M.aGl.sz (⟨a,i64.wrap (1+r1),f,r2⟩:M.aGl)<=80:=by intro f hf hx;have hz:=dI (w:=ByteArray.size) (b:=8) (xs:=f) hx;refine ⟨⟨s16 ha,bH _,⟨ml qg,λx hx'=>s16 (by have:=hx x hx';omega)⟩⟩,?_⟩;simp only [M.aGl.sz];omega
 dsimp only
 split
 ·refine .bnd (aU c3) λi4 v4 r4 c4 q4 => ?_
  obtain ⟨k,rfl⟩:=AI q4.1
  have hk:=q4.2.1 qb
  have ek:i64.wrap (1+(k:Int))=((k+1:Nat):Int):=by rw [wrap_small qb qb];omega
  dsimp only
  rw [ek,BG qs,qA,qH]
  exact .ret c4 (fin (by rw [qT];simp only [qJ,qK];omega) λx hx=>e4 x (List.mem_of_mem_take hx))
 ·exact .ret c3 (fin qd e4)
theorem WG {b:List Int} {i h:Int} (c0:okC b i h):Dr b (λs=>M.aGl.ok s/\M.aGl.sz s<=100) (BR (⟨b,i,h⟩:M.aN)):=by
 unfold BR
 refine .bnd (Fy c0) λi1 v1 r1 c1 q1=>.bnd (Vk c1 (Nat.le_trans q1 qb)) λi2 v2 r2 c2 q2=>.bnd (aU c2) λi3 v3 r3 c3 q3 => ?_
 obtain ⟨ho,hz⟩:=q2
 dsimp only
 have hz':=hz
 simp only [M.aGl.sz] at hz'
 split
 ·exact .bnd (rU (λx => -1000000000000000<=x/\x<=1000000000000000) qe qe c3) λi4 v4 r4 c4 q4=>.ret c4 ⟨⟨ho.Name,bgI q4,ho.aG8⟩,by show M.aGl.sz r2<=100;omega⟩
 split
 ·refine .bnd (Bl (λs=>s.size<=8) qe qe c3) λi4 v4 r4 c4 q4 => ?_
  dsimp only
  rw [AK qs qb,qA]
  have q4':r4.size<=8:=q4
  refine .ret c4 ⟨⟨ho.Name,ho.aGg,⟨ml qn,λx hx => ?_⟩⟩,?_⟩
  ·rcases List.mem_append.1 hx with hx | hx;(exact ho.aG8.2 x hx);·rw [List.mem_singleton.1 hx];exact s16 qb
  ·simp only [M.aGl.sz,tP,cX,qE,qJ,qK];omega
 split
 ·refine .ret c3 ⟨⟨sz0,ho.aGg,ho.aG8⟩,?_⟩;have h0:(⟨#[]⟩:ByteArray).size=0:=rfl;simp only [M.aGl.sz,h0];omega
 ·exact .ret c3 ⟨ho,qb⟩
theorem X9 {p0:List Int} (hl:p0.length<=1048576) (hb : ∀x∈p0,0<=x/\x<=255) : ∃x,lX p0=some x/\Ho x.1/\(M.aGl.ok x.2.1/\M.aGl.sz x.2.1<=100)/\inI x.2.2:=by
 unfold lX uL
 obtain ⟨h,e,c0⟩:=Vf hl hb
 rw [e,qA]
 obtain ⟨i1,v1,t,e1,c1,q1⟩:=WG c0
 rw [e1,qA]
 dsimp only
 obtain ⟨i2,v2,r2,e2,c2,q2⟩:=aU (n:=3) c1
 rw [e2,qA]
 dsimp only
 have hv:=bH (i64.wrap (t.aGg+r2)-1)
 generalize i64.wrap (i64.wrap (t.aGg+r2)-1)=v at hv
 have k0:M.aC.ok (⟨([]:List M.aGo)⟩:M.aC):=⟨⟨qd,qd⟩⟩
 rw [Da k0 (by simp [M.aC.sz,cX]) q1.1 hv (by have:=q1.2;omega),qA]
 obtain ⟨oki,nci⟩:=MO (o:=true) k0 rfl q1.1 hv (by have:=q1.2;omega)
 have zi:=Ap nci
 generalize PX (⟨([]:List M.aGo)⟩:M.aC) t v true=I at oki zi
 have hI:Ho I.1:=⟨oki,qb⟩
 have fin : ∀ {ci ch:Int} {s:M.aC},okC p0 ci ch->Ho s -> ∃x:M.aC×M.aGl×Int,(((kN (⟨p0,ci,ch⟩:M.aN)).bind λaa=>((bG (⟨p0,aa.1,aa.2.1⟩:M.aN) 2).bind λae=>(some (s,t,v,aa.2.2,ae.2.2)))).bind λx1=>(some (x1.1,x1.2.1,x1.2.2.1)))=some x/\Ho x.1/\(M.aGl.ok x.2.1/\M.aGl.sz x.2.1<=100)/\inI x.2.2:=by intro ci ch s hc hs;obtain ⟨i4,v4,r4,e4,c4,q4⟩:=Lm hc;rw [e4,qA];dsimp only;obtain ⟨i5,v5,r5,e5,c5,q5⟩:=uK (n:=2) c4;rw [e5,qA,qA];exact ⟨_,rfl,hs,q1,hv⟩
 cases I.2 with
 | false =>
  rw [if_pos qd]
  obtain ⟨i3,v3,s,e3,c3,q3⟩:=MY c2
  rw [e3,qA]
  exact fin c3 q3
 | true =>
  rw [if_neg qd]
  obtain ⟨i3,v3,r3,e3,c3,q3⟩:=uK (n:=2) c2
  rw [e3,qA]
  dsimp only
  split
  ·obtain ⟨i4,v4,s,e4,c4,q4⟩:=MY c3;rw [e4,qA];exact fin c4 q4
  ·exact fin c3 hI
end Go.Proofs.YtipmihbgjolaaaaGreat.gen
