/-
  Helper text. No conditions.
-/
import Derived.Test.YtndidbigdalbnaaGreatNotesWspec10
set_option linter.all false
namespace Go.Sh
open Go.RowKit
section
variable {P : Program} {base N : Nat} {w0 : W0} {s : St}

theorem mBx {g : Gh} {a : Act} {w : World} {j K vj : Nat} {t : TypeId} {cells : List SC} (R : nV P base w0 N g s a w []) (h2 : s.h j = (vj, .box t cells)) :
    ∃ g', nV P base w0 N g' ((s.fL j (vj, .none)).fL K ((s.h K).1 + 1, .box t cells)) a w [] ∧
      ∀ v, B3 g s.h w (.bp j vj 0) v → B3 g' ((s.fL j (vj, .none)).fL K ((s.h K).1 + 1, .box t cells)).h w (.bp K ((s.h K).1 + 1) 0) v := by
  have hj1 : (s.h j).1 = vj := by rw [h2]
  have hj2 : (s.h j).2 = .box t cells := by rw [h2]
  have hob := R.inv.obj j
  rw [hj2] at hob
  obtain ⟨b, vals, p1, p2, p3, p4⟩ := hob
  have hlive : live s.h j := by unfold live; rw [hj2]; simp
  have I1 := R.inv.drop j
  rw [hj1] at I1
  have hfr : ∀ x, Ds (g.val j) = some x → Hc g (pZ s.h j (vj, .none)) x := by
    intro x hx
    refine ⟨R.inv.mtb j x hlive hx, fun i hl hb' => ?_⟩
    obtain ⟨hne, hl⟩ := Ci hl
    exact R.inv.inj i j x hne hl hlive hb' hx
  have T1 : mA g g s.h (pZ s.h j (vj, .none)) w w := by have := mA.drop (g := g) (h := s.h) (w := w) j g.S fun _ x => x; rw [hj1] at this; exact this
  have hver : (pZ s.h j (vj, .none) K).1 = (s.h K).1 := by
    by_cases hk : K = j
    · subst hk; rw [bR, hj1]
    · rw [eE _ _ _ _ hk]
  have T2 := mA.create (g := g) (h := pZ s.h j (vj, .none)) (w := w) K (g.val j) [] (.box t cells)
  have I2 := I1.Td (i := K) (v := g.val j) (F := []) (o := .box t cells) (pool' := []) ⟨b, vals, by rw [show (PZ g K (g.val j) []).val K = g.val j from eM _ _ _]; exact p1, p2, p3, p4.turn (T1.trans T2)⟩ hfr (fun _ x => x) List.nodup_nil (by rintro ⟨_, _, _, h⟩; cases h)
  rw [hver] at I2 T2
  refine ⟨_, R.turn (T1.trans T2) rfl R.below I2, ?_⟩
  rintro v ⟨h0, _, hv⟩
  refine ⟨h0, ?_, ?_⟩
  · show _ ≤ (pZ _ K _ K).1
    rw [bR]; exact Nat.le_refl _
  · intro _ t' cs' _
    obtain ⟨b0, e1, e2⟩ := hv hj1 t cells hj2
    exact ⟨b0, by show Iw g.val K (g.val j) K = _; rw [eM]; exact e1, e2⟩

theorem Gho.ren_x {i b K vb : Nat} {t : TypeId} {cells : List SC} (h1 : s.t i = .v false [.bp b vb 0]) (h2 : s.h b = (vb, .box t cells)) :
    Gho P base w0 N s (((s.fL b (vb, .none)).fL K ((s.h K).1 + 1, .box t cells)).Ix i (.v false [.bp K ((s.h K).1 + 1) 0])) := by
  rintro a w ⟨g, R⟩
  have ht := R.tmp i
  rw [h1] at ht
  obtain ⟨g', R', hc⟩ := mBx (K := K) R h2
  exact ⟨g', N7 R' ⟨_, [], rfl, hc _ (eZ ht), rfl⟩⟩
end
end Go.Sh
namespace Go.Proofs.YtndidbigdalbnaaGreat.gen
open Go Go.Sh Tryz
set_option maxRecDepth 20000
set_option maxHeartbeats 4000000
instance:bU 171 (∀p0 p1 r (h:AH p0 p1=some r),Sc 171 [aX (M.aE.en p0),aI p1] [(true,M.aE.rs r.1),rI r.2]):=⟨λp0 p1 r h=>by unfold AH at h;exact sgo 133 [.cell 4 37,.tmp 5] func171⟩
theorem aJ7(p0 r)(h:Cp p0=some r):Sc 105 [(false,[.ptr [.sl (List.map enB p0.b),.int .i64 p0.i,.int .i64 p0.h]])] [(false,[.edit (.lend 138 [.int .i64 r.1,.int .i64 r.2.1])]),(true,M.aE.rs r.2.2)]:=by
 unfold Cp at h
 simp only[EN]
 refine sgB 22 [.cell 2 37] func105 λbase wd j u0 hw0=> ?_
 refine bY (J:=λs=>s.t 0=vP 7059000 1 0/\s.h 7059000=(1,oB 138 [.old j (.sl (List.map enB p0.b)) (some u0),cI p0.i,cI p0.h])/\True) ?_ ?_
 ·and_intros<;>(try simp only[LN,jJ,jK])<;>rfl
 rintro s1 f2
 have i1:=He [.b 3 3 7050000 75 24,.b 3 4 7050001 44 11,.b 3 6 7050002 113 4,.b 3 7 7050003 116 3,.b 3 8 7050004 120 4,.b 3 9 7050005 125 5] λm s=>∃v4:Int,∃ay:Int,∃az:Bool,∃ba:Int,∃bd:Int,∃C:Int,∃I:Int,∃U:List M.aKe,∃ah:List M.bK,∃ai:List M.vE,∃aj:List M.Eb,∃ak:List M.aKl,∃al:List M.aKt,∃ao:Nat,∃aq:Nat,∃ar:Nat,∃av:Nat,∃aw:Nat,∃ax:Nat,(s.t 0=vP 7059000 1 0/\s.t 2=vP 2 ((s1.h 2).1+1) 0/\s.t 3=vP 3 ((s1.h 3).1+1) 0/\s.t 4=vI v4/\s.h 2=((s1.h 2).1+1,WY)/\s.h 3=((s1.h 3).1+1,oB 37 [cI ay,cB az,cI ba,.row 7050000 ao,.row 7050001 aq,cI bd,.row 7050002 ar,.row 7050003 av,.row 7050004 aw,.row 7050005 ax])/\s.h 7050000=(ao,oW 75 24 M.aKe.en U)/\s.h 7050001=(aq,oW 44 11 M.bK.en ah)/\s.h 7050002=(ar,oW 113 4 M.vE.en ai)/\s.h 7050003=(av,oW 116 3 M.Eb.en aj)/\s.h 7050004=(aw,oW 120 4 M.aKl.en ak)/\s.h 7050005=(ax,oW 125 5 M.aKt.en al)/\s.h 7059000=(1,oB 138 [.old j (.sl (List.map enB p0.b)) (some u0),cI C,cI I]))/\uI p0 m v4 ay az ba bd C I U ah ai aj ak al=some r
 have e1:=@uI.eq_2
 exact sgX
instance:bU 232 (∀p0 r (h:FK p0=some r),Sc 232 [(false,[.ptr [.sl (List.map enB p0.b),.int .i64 p0.i,.int .i64 p0.h]])] [(false,[.edit (.lend 138 [.int .i64 r.1,.int .i64 r.2.1])]),(true,M.aKe.rs r.2.2)]):=⟨λp0 r h=>by
 unfold FK at h
 simp only[EN]
 refine sgB 50 [.cell 2 75] func232 λbase wd B0 u0 hw0=> ?_
 refine bY (J:=λs=>s.t 0=vP 7059000 1 0/\s.h 7059000=(1,oB 138 [.old B0 (.sl (List.map enB p0.b)) (some u0),cI p0.i,cI p0.h])/\True) ?_ ?_
 ·and_intros<;>(try simp only[LN,jJ,jK])<;>rfl
 rintro s1 f2
 have i1:=λ(x4:(Int×Int×M.aKe)) (ae:(Int×Int×Int)) (aa:St)=>inv λm s=>∃r5:List Int,∃u5:Nat,(s.h 2000005=aa.h 2000005/\s.h 7059000=aa.h 7059000/\s.t 0=vP 7059000 1 0/\s.t 2=vP 2 ((s1.h 2).1+1) 0/\s.t 3=vP 3 ((s1.h 3).1+1) 0/\s.h 2=((s1.h 2).1+1,aFr)/\s.h 3=((s1.h 3).1+1,oB 75 [cS x4.2.2.aKl,cS x4.2.2.Top,cS x4.2.2.aKd.aKl,cI x4.2.2.aKd.aLB,cI x4.2.2.aKd.aLH,cI x4.2.2.aKd.aLL,.row 700005 ((s1.h 700005).1+1),cS x4.2.2.bJ.aK1.Name,cI x4.2.2.bJ.aK1.aKb,.row 1000005 ((s1.h 1000005).1+1),.row 1100005 ((s1.h 1100005).1+1),.row 1200005 u5,cI x4.2.2.bJ.aLF,cS x4.2.2.aH.aK1.Name,.row 1500005 ((s1.h 1500005).1+1),cI x4.2.2.aH.aK1.aK7,cI x4.2.2.aH.aLT,cI x4.2.2.aH.aK3.aO.aKk,cI x4.2.2.aH.aK3.aO.aLE,.row 2000005 ((s1.h 2000005).1+1),cI x4.2.2.aH.aK3.aLI,cI x4.2.2.aH.aK3.aK8,cI x4.2.2.aLC,cB x4.2.2.aK9])/\s.h 700005=((s1.h 700005).1+1,oW 262 2 M.aKv.en x4.2.2.aKi.aKi)/\s.h 1000005=((s1.h 1000005).1+1,oW 66 3 M.aD.en x4.2.2.bJ.aK1.aKm)/\s.h 1100005=((s1.h 1100005).1+1,oW 248 2 M.aV.en x4.2.2.bJ.aK1.aKz)/\s.h 1200005=(u5,oW 5 1 enB r5)/\s.h 1500005=((s1.h 1500005).1+1,oW 153 4 M.aKy.en x4.2.2.aH.aK1.aKg))/\rH x4 ae m r5=some r
 have e1:=@rH.eq_2
 exact sgX⟩
theorem aJb(p0 r)(h:A6 p0=some r):Sc 172 [(false,[.ptr [.sl (List.map enB p0.b),.int .i64 p0.i,.int .i64 p0.h]])] [(false,[.edit (.lend 138 [.int .i64 r.1,.int .i64 r.2.1])]),(true,M.aC.rs r.2.2)]:=by
 unfold A6 at h
 simp only[EN]
 refine sgB 29 [.cell 2 26] func172 λbase wd j u0 hw0=> ?_
 refine bY (J:=λs=>s.t 0=vP 7059000 1 0/\s.h 7059000=(1,oB 138 [.old j (.sl (List.map enB p0.b)) (some u0),cI p0.i,cI p0.h])/\True) ?_ ?_
 ·and_intros<;>(try simp only[LN,jJ,jK])<;>rfl
 rintro s1 f2
 have i1:=He [.b 3 0 7050000 75 24] λm s=>∃v4:Int,∃C:Int,∃I:Int,∃U:List M.aKe,∃ah:Nat,(s.t 0=vP 7059000 1 0/\s.t 2=vP 2 ((s1.h 2).1+1) 0/\s.t 3=vP 3 ((s1.h 3).1+1) 0/\s.t 4=vI v4/\s.h 2=((s1.h 2).1+1,oB 26 [.nil])/\s.h 3=((s1.h 3).1+1,oB 26 [.row 7050000 ah])/\s.h 7050000=(ah,oW 75 24 M.aKe.en U)/\s.h 7059000=(1,oB 138 [.old j (.sl (List.map enB p0.b)) (some u0),cI C,cI I]))/\pQ p0 m v4 C I U=some r
 have e1:=@pQ.eq_2
 exact sgX
theorem c46(p0 r)(h:D7 p0=some r):Sc 46 [(false,[.ptr [.sl (List.map enB p0.b),.int .i64 p0.i,.int .i64 p0.h]])] [(false,[.edit (.lend 138 [.int .i64 r.1,.int .i64 r.2.1])]),(true,M.aE.rs r.2.2)]:=by
 unfold D7 at h
 simp only[EN]
 refine sgB 13 [.cell 2 37] func46 λbase wd B0 u0 hw0 => ?_
 refine bY (J:=λs=>s.t 0=vP 7059000 1 0/\s.h 7059000=(1,oB 138 [.old B0 (.sl (List.map enB p0.b)) (some u0),cI p0.i,cI p0.h])/\True) ?_ ?_
 ·and_intros<;>(try simp only[LN,jJ,jK])<;>rfl
 rintro s1 f2
 refine sq ?_
 refine xn ?_
 refine an (sq ?_)
 obtain⟨x4,h5,h⟩:=aA h
 refine xn1 (aJ7 _ _ h5) ?_
 refine an (sq ?_)
 obtain⟨V2,I⟩:=nmH (((s1.h 400005).1+1,oW 75 24 M.aKe.en x4.2.2.aC.aKf))
 obtain⟨V3,U⟩:=nmH (((s1.h 800005).1+1,oW 116 3 M.Eb.en x4.2.2.aKp.aLJ))
 obtain⟨V4,eV4⟩:=nmH (((s1.h 700005).1+1,oW 113 4 M.vE.en x4.2.2.aKu.aKu))
 obtain⟨V5,eV5⟩:=nmH (((s1.h 1000005).1+1,oW 125 5 M.aKt.en x4.2.2.aKr))
 obtain⟨V6,eV6⟩:=nmH (((s1.h 500005).1+1,oW 44 11 M.bK.en x4.2.2.aKq))
 obtain⟨V7,eV7⟩:=nmH (((s1.h 900005).1+1,oW 120 4 M.aKl.en x4.2.2.aK0))
 obtain⟨V8,eV8⟩:=nmH (((s1.h 2).1+1,WY))
 obtain⟨V9,eV9⟩:=nmT (vP 2 ((s1.h 2).1+1) 0)
 obtain⟨V10,eV10⟩:=nmT (vP 7059000 1 0)
 refine bY (J:=λs=>s.t 0=V10/\s.t 2=V9/\s.t 3=vP 3 ((s1.h 3).1+1) 0/\s.h 2=V8/\s.h 3=((s1.h 3).1+1,oB 37 [cI x4.2.2.Now,cB x4.2.2.aK4,cI x4.2.2.aKk,.row 400005 ((s1.h 400005).1+1),.row 500005 ((s1.h 500005).1+1),cI x4.2.2.aKn,.row 700005 ((s1.h 700005).1+1),.row 800005 ((s1.h 800005).1+1),.row 900005 ((s1.h 900005).1+1),.row 1000005 ((s1.h 1000005).1+1)])/\s.h 400005=V2/\s.h 500005=V6/\s.h 700005=V4/\s.h 800005=V3/\s.h 900005=V7/\s.h 1000005=V5/\s.h 7059000=(1,oB 138 [.old B0 (.sl (List.map enB p0.b)) (some u0),cI x4.1,cI x4.2.1])/\True) zM ?_
 rintro s6 f7
 obtain⟨aa,ax,h⟩:=aA h
 refine xn1 (c49.1 _ _ _ ax) ?_
 refine an (sq ?_)
 obtain⟨V1,C⟩:=nmH ((1,oB 138 [.old B0 (.sl (List.map enB p0.b)) (some u0),cI aa.1,cI aa.2.1]))
 refine bY (J:=λs=>s.t 0=V10/\s.t 2=V9/\s.t 3=vP 3 ((s1.h 3).1+1) 0/\s.h 2=V8/\s.h 3=((s1.h 3).1+1,oB 37 [cI x4.2.2.Now,cB (!aa.2.2),cI x4.2.2.aKk,.row 400005 ((s1.h 400005).1+1),.row 500005 ((s1.h 500005).1+1),cI x4.2.2.aKn,.row 700005 ((s1.h 700005).1+1),.row 800005 ((s1.h 800005).1+1),.row 900005 ((s1.h 900005).1+1),.row 1000005 ((s1.h 1000005).1+1)])/\s.h 400005=V2/\s.h 500005=V6/\s.h 700005=V4/\s.h 800005=V3/\s.h 900005=V7/\s.h 1000005=V5/\s.h 7059000=V1/\True) zM ?_
 rintro bn f22
 apply N9 (n:=2) (f:=106) (d:=12) (N':=47) (vars:=[.cell 4 37]) rfl rfl rfl rfl we func106 rfl rfl rfl wL we
 ·simp +decide only[LN,LI,E,reduceIte,Nat.reduceAdd,Nat.reduceMul,qB,qC,L,JI,EN, *,-h];exact Is.mk _
 intro fv
 refine bY (J:=λs=>s.t 0=V10/\s.t 1 = .v true [.dat (.int .i64 x4.2.2.Now),.dat (.bool (!aa.2.2)),.dat (.int .i64 x4.2.2.aKk),.row 400005 ((s1.h 400005).1+1),.row 500005 ((s1.h 500005).1+1),.dat (.int .i64 x4.2.2.aKn),.row 700005 ((s1.h 700005).1+1),.row 800005 ((s1.h 800005).1+1),.row 900005 ((s1.h 900005).1+1),.row 1000005 ((s1.h 1000005).1+1)]/\s.fr 0=vP 7059000 1 0/\s.fr 2=vP 2 ((s1.h 2).1+1) 0/\s.h 2=V8/\s.h 400005=V2/\s.h 500005=V6/\s.h 700005=V4/\s.h 800005=V3/\s.h 900005=V7/\s.h 1000005=V5/\s.h 7059000=V1/\True) zM ?_
 rintro aq f35
 refine sq ?_
 refine xn ?_
 refine an (sq (sq ?_))
 obtain⟨af,ay,h⟩:=aA h
 refine xn1 (c48.1 _ _ _ ay) ?_
 refine an (bk (sq ?_))
 refine bY (J:=λs=>s.t 0=V10/\s.t 3=vP 3 ((aq.h 3).1+1) 0/\s.t 4=vP 4 ((aq.h 4).1+1) 0/\s.t 6=vI af.2.2/\s.fr 0=vP 7059000 1 0/\s.fr 2=vP 2 ((s1.h 2).1+1) 0/\s.h 2=V8/\s.h 3=((aq.h 3).1+1,oB 37 [cI x4.2.2.Now,cB (!aa.2.2),cI x4.2.2.aKk,.row 400005 ((s1.h 400005).1+1),.row 500005 ((s1.h 500005).1+1),cI x4.2.2.aKn,.row 700005 ((s1.h 700005).1+1),.row 800005 ((s1.h 800005).1+1),.row 900005 ((s1.h 900005).1+1),.row 1000005 ((s1.h 1000005).1+1)])/\s.h 4=((aq.h 4).1+1,WY)/\s.h 400005=V2/\s.h 500005=V6/\s.h 700005=V4/\s.h 800005=V3/\s.h 900005=V7/\s.h 1000005=V5/\s.h 7059000=(1,oB 138 [.old B0 (.sl (List.map enB p0.b)) (some u0),cI af.1,cI af.2.1])/\True) zM ?_
 rintro aw f50
 refine xn ?_
 refine an ?_
 rcases gK (af.2.2==0)with ae | ae
 ·replace h:=bQ ae h;refine yL zM ?_;obtain⟨az,ba,h⟩:=aA h;refine xn1 (c17.1 _ _ _ ba) ?_;refine ab (an (sq ?_));refine xn ?_;refine an (rt ?_);apply Tp.mk (l:=[(true,[.dat (.int .i64 az.2.2),.dat (.bool (!aa.2.2)),.dat (.int .i64 x4.2.2.aKk),.row 400005 ((s1.h 400005).1+1),.row 500005 ((s1.h 500005).1+1),.dat (.int .i64 x4.2.2.aKn),.row 700005 ((s1.h 700005).1+1),.row 800005 ((s1.h 800005).1+1),.row 900005 ((s1.h 900005).1+1),.row 1000005 ((s1.h 1000005).1+1)])]) (by simp[LN,LI,JI,EN,f50,ae,I,U,eV4,eV5,eV6,eV7,eV8,eV9,eV10,C]);(simp +decide only[JT,LN,LI,E,reduceIte,Nat.reduceAdd,Nat.reduceMul,qB,qC,L,JI,EN, *,-h];exact Is.mk _);refine an (rt ?_);cases h;simp[Ma,Ret,LN,LI,TB,EN, *]
 replace h:=bP ae h
 refine Ay zM ?_
 refine sq ?_
 refine xn ?_
 refine an ?_
 rcases gK (af.2.2==1)with ah | ah
 ·replace h:=bQ ah h;refine yL zM ?_;refine xn ?_;refine ab (an (sq ?_));refine xn ?_;refine an (rt ?_);apply Tp.mk (l:=[(true,[.dat (.int .i64 x4.2.2.Now),.dat (.bool (!aa.2.2)),.dat (.int .i64 0),.row 400005 ((s1.h 400005).1+1),.row 500005 ((s1.h 500005).1+1),.dat (.int .i64 x4.2.2.aKn),.row 700005 ((s1.h 700005).1+1),.row 800005 ((s1.h 800005).1+1),.row 900005 ((s1.h 900005).1+1),.row 1000005 ((s1.h 1000005).1+1)])]) (by simp[LN,LI,JI,EN,f50,ae,ah,I,U,eV4,eV5,eV6,eV7,eV8,eV9,eV10,C]);(simp +decide only[JT,LN,LI,E,reduceIte,Nat.reduceAdd,Nat.reduceMul,qB,qC,L,JI,EN, *,-h];exact Is.mk _);refine an (rt ?_);cases h;simp[Ma,Ret,LN,LI,TB,EN, *]
 replace h:=bP ah h
 refine Ay zM ?_
 refine sq ?_
 refine xn ?_
 refine an ?_
 rcases gK (af.2.2==2)with ai | ai
 ·replace h:=bQ ai h
  refine yL zM ?_
  obtain⟨bo,ar,h⟩:=aA h
  apply AA
  ·simp +decide only[LN,LI,E,reduceIte,Nat.reduceAdd,Nat.reduceMul,qB,qC,<-List.map_take,<-List.map_drop,L,aFp,JI,aC2,M.aKl.en,EN, *,-h]
   refine⟨by first | exact vU ar | exact(vU ar).2 | exact(vU ar).2.2,?_⟩
   try simp +decide only[LN,LI,E,reduceIte,Nat.reduceAdd,Nat.reduceMul,qB,qC,<-List.map_take,<-List.map_drop,L,aFp,JI,aC2,M.aKl.en,EN, *,-h]
   exact Is.mk _
  refine ab (an (sq ?_))
  refine xn ?_
  refine an (rt ?_)
  apply Tp.mk (l:=[(true,[.dat (.int .i64 x4.2.2.Now),.dat (.bool (!aa.2.2)),.dat (.int .i64 x4.2.2.aKk),.row 400005 ((s1.h 400005).1+1),.row 500005 ((s1.h 500005).1+1),.dat (.int .i64 x4.2.2.aKn),.row 700005 ((s1.h 700005).1+1),.row 800005 ((s1.h 800005).1+1),.part 900005 ((s1.h 900005).1+1) 0 (2:Int).toNat,.row 1000005 ((s1.h 1000005).1+1)])]) (by simp[LN,LI,JI,EN,f50,ae,ah,ai,I,U,eV4,eV5,eV6,eV7,eV8,eV9,eV10,C])
  ·simp +decide only[JT,LN,LI,E,reduceIte,Nat.reduceAdd,Nat.reduceMul,qB,qC,L,JI,EN, *,-h];exact Is.mk _
  refine an ?_
  refine Cj (Gho.Zz (b:=2) (vb:=(s1.h 2).1+1) (t:=37) (cells:=[.dat (.int .i64 x4.2.2.Now),.dat (.bool (!aa.2.2)),.dat (.int .i64 x4.2.2.aKk),.row 400005 ((s1.h 400005).1+1),.row 500005 ((s1.h 500005).1+1),.dat (.int .i64 x4.2.2.aKn),.row 700005 ((s1.h 700005).1+1),.row 800005 ((s1.h 800005).1+1),.part 900005 ((s1.h 900005).1+1) 0 (2:Int).toNat,.row 1000005 ((s1.h 1000005).1+1)]) (c:=8) (j:=900005) (vj:=(s1.h 900005).1+1) (K:=900005) (n:=(2:Int).toNat) (e:=120) (sz:=4) (dp:=true) (xs:=List.map M.aKl.en x4.2.2.aK0) (List.map M.aKl.en (List.take (2:Int).toNat x4.2.2.aK0)) zM rfl zM we (by rw[qU];exact(vU ar).2) (by rw[List.map_take])) ?_
  refine bY (J:=λs=>s.h 7059000=aw.h 7059000/\s.t 0=V10/\s.t 2=V9/\s.h 2=((s1.h 2).1+1,oB 37 [cI x4.2.2.Now,cB (!aa.2.2),cI x4.2.2.aKk,.row 400005 ((s1.h 400005).1+1),.row 500005 ((s1.h 500005).1+1),cI x4.2.2.aKn,.row 700005 ((s1.h 700005).1+1),.row 800005 ((s1.h 800005).1+1),.row 900005 (((s1.h 900005).1+1)+1),.row 1000005 ((s1.h 1000005).1+1)])/\s.h 400005=V2/\s.h 500005=V6/\s.h 700005=V4/\s.h 800005=V3/\s.h 900005=(((s1.h 900005).1+1)+1,oW 120 4 M.aKl.en (List.take (2:Int).toNat x4.2.2.aK0))/\s.h 1000005=V5/\True) zM ?_
  rintro bq ⟨f83,f74⟩
  replace f83:=f83.trans f50.2.2.2.2.2.2.2.2.2.2.2.2.2.2.2.1
  refine rt ?_
  cases h
  simp[Ma,Ret,LN,LI,TB,EN, *]
 replace h:=bP ai h
 refine Ay zM ?_
 refine sq ?_
 refine xn ?_
 refine an ?_
 rcases gK (af.2.2==3)with aj | aj
 ·replace h:=bQ aj h;refine yL zM ?_;obtain⟨br,bd,h⟩:=aA h;refine xn1 (aJb _ _ bd) ?_;refine ab (an (sq ?_));refine xn ?_;refine an (rt ?_);apply Tp.mk (l:=[(true,[.dat (.int .i64 x4.2.2.Now),.dat (.bool (!aa.2.2)),.dat (.int .i64 x4.2.2.aKk),.row 100025 ((aw.h 100025).1+1),.row 500005 ((s1.h 500005).1+1),.dat (.int .i64 x4.2.2.aKn),.row 700005 ((s1.h 700005).1+1),.row 800005 ((s1.h 800005).1+1),.row 900005 ((s1.h 900005).1+1),.row 1000005 ((s1.h 1000005).1+1)])]) (by simp[LN,LI,JI,EN,f50,ae,ah,ai,aj,I,U,eV4,eV5,eV6,eV7,eV8,eV9,eV10,C]);(simp +decide only[JT,LN,LI,E,reduceIte,Nat.reduceAdd,Nat.reduceMul,qB,qC,L,JI,EN, *,-h];exact Is.mk _);refine an (rt ?_);cases h;simp[Ma,Ret,LN,LI,TB,EN, *]
 replace h:=bP aj h
 refine Ay zM ?_
 refine sq ?_
 refine xn ?_
 refine an ?_
 rcases gK (af.2.2==4)with ak | ak
 ·replace h:=bQ ak h
  refine yL zM ?_
  obtain⟨bt,bf,h⟩:=aA h
  obtain⟨bu,bg,h⟩:=aA h
  apply Em mixed
  ·simp +decide only[LN,LI,E,reduceIte,Nat.reduceAdd,Nat.reduceMul,qB,qC,L,aBv,JI,Qo,M.bK.en,EN, *,-h]
   refine⟨_,aJs _ _ bf,?_⟩
   try simp +decide only[LN,LI,E,reduceIte,Nat.reduceAdd,Nat.reduceMul,qB,qC,L,aBv,JI,Qo,M.bK.en,EN, *,-h]
   refine⟨by(have hb:=fJ bg);simp[M.bK.en,qE,aP]at hb ⊢ <;> omega,?_⟩
   try simp +decide only[LN,LI,E,reduceIte,Nat.reduceAdd,Nat.reduceMul,qB,qC,L,aBv,JI,Qo,M.bK.en,EN, *,-h]
   exact⟨.mk wL,Is.mk _⟩
  refine ab (an (sq ?_))
  refine xn ?_
  refine an (rt ?_)
  apply Tp.mk (l:=[(true,[.dat (.int .i64 x4.2.2.Now),.dat (.bool (!aa.2.2)),.dat (.int .i64 x4.2.2.aKk),.row 400005 ((s1.h 400005).1+1),.row 500005 (((s1.h 500005).1+1)+1),.dat (.int .i64 x4.2.2.aKn),.row 700005 ((s1.h 700005).1+1),.row 800005 ((s1.h 800005).1+1),.row 900005 ((s1.h 900005).1+1),.row 1000005 ((s1.h 1000005).1+1)])]) (by simp[LN,LI,JI,EN,f50,ae,ah,ai,aj,ak,I,U,eV4,eV5,eV6,eV7,eV8,eV9,eV10,C])
  ·simp +decide only[JT,LN,LI,E,reduceIte,Nat.reduceAdd,Nat.reduceMul,qB,qC,L,JI,EN, *,-h];exact Is.mk _
  refine an (rt ?_)
  cases h
  simp[Ma,Ret,LN,LI,TB,EN, *]
 replace h:=bP ak h
 refine Ay zM ?_
 refine sq ?_
 refine xn ?_
 refine an ?_
 rcases gK (af.2.2==5)with al | al
 ·replace h:=bQ al h;refine yL zM ?_;refine xn ?_;refine ab (an (sq ?_));refine xn ?_;refine an (rt ?_);apply Tp.mk (l:=[(true,[.dat (.int .i64 x4.2.2.Now),.dat (.bool (!aa.2.2)),.dat (.int .i64 x4.2.2.aKk),.row 400005 ((s1.h 400005).1+1),.row 500005 ((s1.h 500005).1+1),.dat (.int .i64 0),.row 700005 ((s1.h 700005).1+1),.row 800005 ((s1.h 800005).1+1),.row 900005 ((s1.h 900005).1+1),.row 1000005 ((s1.h 1000005).1+1)])]) (by simp[LN,LI,JI,EN,f50,ae,ah,ai,aj,ak,al,I,U,eV4,eV5,eV6,eV7,eV8,eV9,eV10,C]);(simp +decide only[JT,LN,LI,E,reduceIte,Nat.reduceAdd,Nat.reduceMul,qB,qC,L,JI,EN, *,-h];exact Is.mk _);refine an (rt ?_);cases h;simp[Ma,Ret,LN,LI,TB,EN, *]
 replace h:=bP al h
 refine Ay zM ?_
 refine sq ?_
 refine xn ?_
 refine an ?_
 rcases CP (af.2.2==6)with ao | ao
 ·replace h:=bP ao h;refine Ay zM ?_;refine sk (ab (an (sq ?_)));refine xn ?_;refine an (rt ?_);apply Tp.mk (l:=[(true,[.dat (.int .i64 x4.2.2.Now),.dat (.bool (!aa.2.2)),.dat (.int .i64 x4.2.2.aKk),.row 400005 ((s1.h 400005).1+1),.row 500005 ((s1.h 500005).1+1),.dat (.int .i64 x4.2.2.aKn),.row 700005 ((s1.h 700005).1+1),.row 800005 ((s1.h 800005).1+1),.row 900005 ((s1.h 900005).1+1),.row 1000005 ((s1.h 1000005).1+1)])]) (by simp[LN,LI,JI,EN,f50,ae,ah,ai,aj,ak,al,ao,I,U,eV4,eV5,eV6,eV7,eV8,eV9,eV10,C]);(simp +decide only[JT,LN,LI,E,reduceIte,Nat.reduceAdd,Nat.reduceMul,qB,qC,L,JI,EN, *,-h];exact Is.mk _);refine an (rt ?_);cases h;simp[Ma,Ret,LN,LI,TB,EN, *]
 replace h:=bQ ao h
 refine yL zM ?_
 obtain⟨bw,bh,h⟩:=aA h
 obtain⟨bx,bj,h⟩:=aA h
 obtain⟨bl,bm,av⟩:=pK bj
 refine xd1 mixed (aJa _ _ bh) ?_
 refine ab (an (sq ?_))
 refine xn ?_
 refine an (rt ?_)
 apply Tp.mk (l:=[(true,[.dat (.int .i64 x4.2.2.Now),.dat (.bool (!aa.2.2)),.dat (.int .i64 x4.2.2.aKk),.row 400005 ((s1.h 400005).1+1),.row 500005 ((s1.h 500005).1+1),.dat (.int .i64 x4.2.2.aKn),.row 700005 ((s1.h 700005).1+1),.row 800005 ((s1.h 800005).1+1),.row 900005 ((s1.h 900005).1+1),.row 1000005 ((s1.h 1000005).1+1)])]) (by simp[LN,LI,JI,EN,f50,ae,ah,ai,aj,ak,al,ao,bl,bm,av,I,U,eV4,eV5,eV6,eV7,eV8,eV9,eV10,C])
 ·simp +decide only[JT,LN,LI,E,reduceIte,Nat.reduceAdd,Nat.reduceMul,qB,qC,L,JI,EN, *,-h];exact Is.mk _
 refine an (rt ?_)
 cases h
 simp[Ma,Ret,LN,LI,TB,EN, *]
instance:bU 15 (∀p0 r (h:xY p0=some r),Sc 15 [aL enB p0] [(true,M.aE.ra r.1),(true,M.bK.ra r.2.1),rI r.2.2.1,rS r.2.2.2]):=⟨λp0 r h=>by
 unfold xY at h
 simp only[EN]
 refine sgn 35 [.cell 2 37,.cell 3 44,.tmp 4,.tmp 5] func15 λbase wd => ?_
 refine sq ?_
 refine xn ?_
 refine an (sq ?_)
 obtain⟨x1,h2,h⟩:=aA h
 refine xn1 (c16.1 _ _ h2) ?_
 refine an (sq ?_)
 obtain⟨V27,eV27⟩:=nmH ((1,WY))
 obtain⟨V28,eV28⟩:=nmT (vP 11 1 0)
 obtain⟨V29,eV29⟩:=nmT (vP 2 1 0)
 refine bY (J:=λs=>s.t 2=V29/\s.t 3=vP 3 1 0/\s.t 6=V28/\s.h 2=V27/\s.h 3=(1,aBc)/\s.h 11=(1,oX 138 (M.bN.en x1))/\True) zM ?_
 rintro s3 f4
 obtain⟨af,dk,h⟩:=aA h
 refine xn1 (c46 _ _ dk) ?_
 refine an (sq ?_)
 obtain⟨V3,eV3⟩:=nmH (((s3.h 7).1+1,oB 37 [cI af.2.2.Now,cB af.2.2.aK4,cI af.2.2.aKk,.row 400013 ((s3.h 400013).1+1),.row 500013 ((s3.h 500013).1+1),cI af.2.2.aKn,.row 700013 ((s3.h 700013).1+1),.row 800013 ((s3.h 800013).1+1),.row 900013 ((s3.h 900013).1+1),.row 1000013 ((s3.h 1000013).1+1)]))
 obtain⟨V5,eV5⟩:=nmH (((s3.h 400013).1+1,oW 75 24 M.aKe.en af.2.2.aC.aKf))
 obtain⟨V8,eV8⟩:=nmH (((s3.h 800013).1+1,oW 116 3 M.Eb.en af.2.2.aKp.aLJ))
 obtain⟨V9,eV9⟩:=nmH (((s3.h 700013).1+1,oW 113 4 M.vE.en af.2.2.aKu.aKu))
 obtain⟨V10,eV10⟩:=nmH (((s3.h 1000013).1+1,oW 125 5 M.aKt.en af.2.2.aKr))
 obtain⟨V17,eV17⟩:=nmH (((s3.h 900013).1+1,oW 120 4 M.aKl.en af.2.2.aK0))
 obtain⟨V19,eV19⟩:=nmH ((1,oB 138 [cL enB x1.b,cI af.1,cI af.2.1]))
 obtain⟨V26,eV26⟩:=nmT (vP 7 ((s3.h 7).1+1) 0)
 refine bY (J:=λs=>s.t 2=V29/\s.t 3=vP 3 1 0/\s.t 6=V28/\s.t 7=V26/\s.h 2=V27/\s.h 3=(1,aBc)/\s.h 7=V3/\s.h 11=V19/\s.h 400013=V5/\s.h 500013=((s3.h 500013).1+1,oW 44 11 M.bK.en af.2.2.aKq)/\s.h 700013=V9/\s.h 800013=V8/\s.h 900013=V17/\s.h 1000013=V10/\True) zM ?_
 rintro bl f13
 refine Cj (Gho.ren_x (i:=3) (b:=3) (K:=7065003) zM zM) ?_
 obtain⟨V22,eV22⟩:=nmH (((bl.h 7065003).1+1,aBc))
 refine bY (J:=λs=>s.h 7=bl.h 7/\s.t 2=V29/\s.t 3=vP 7065003 ((bl.h 7065003).1+1) 0/\s.t 6=V28/\s.t 7=V26/\s.h 2=V27/\s.h 11=V19/\s.h 400013=V5/\s.h 500013=((s3.h 500013).1+1,oW 44 11 M.bK.en af.2.2.aKq)/\s.h 700013=V9/\s.h 800013=V8/\s.h 900013=V17/\s.h 1000013=V10/\s.h 7065003=V22/\True) zM ?_
 rintro di ⟨f33,f28⟩
 replace f33:=f33.trans f13.2.2.2.2.2.2.1
 apply N9 (n:=2) (f:=47) (d:=16) (N':=25) (vars:=[.cell 4 44]) rfl rfl rfl rfl we func47 rfl rfl rfl wL we
 ·simp +decide only[LN,LI,E,reduceIte,Nat.reduceAdd,Nat.reduceMul,qB,qC,L,JI,EN, *,-h];exact Is.mk _
 intro fv
 refine bY (J:=λs=>s.t 0=V28/\s.t 1 = .v true [.dat (.int .i64 af.2.2.Now),.dat (.bool af.2.2.aK4),.dat (.int .i64 af.2.2.aKk),.row 400013 ((s3.h 400013).1+1),.row 500013 ((s3.h 500013).1+1),.dat (.int .i64 af.2.2.aKn),.row 700013 ((s3.h 700013).1+1),.row 800013 ((s3.h 800013).1+1),.row 900013 ((s3.h 900013).1+1),.row 1000013 ((s3.h 1000013).1+1)]/\s.fr 2=vP 2 1 0/\s.fr 3=vP 7065003 ((bl.h 7065003).1+1) 0/\s.fr 6=vP 11 1 0/\s.fr 7=vP 7 ((s3.h 7).1+1) 0/\s.h 2=V27/\s.h 7=V3/\s.h 11=V19/\s.h 400013=V5/\s.h 500013=((s3.h 500013).1+1,oW 44 11 M.bK.en af.2.2.aKq)/\s.h 700013=V9/\s.h 800013=V8/\s.h 900013=V17/\s.h 1000013=V10/\s.h 7065003=V22/\True) zM ?_
 rintro ak f43
 refine sq ?_
 refine xn ?_
 refine an (sq (sq ?_))
 obtain⟨V4,eV4⟩:=nmH ((1,oB 37 [cI af.2.2.Now,cB af.2.2.aK4,cI af.2.2.aKk,.row 400013 ((s3.h 400013).1+1),.row 500013 ((s3.h 500013).1+1),cI af.2.2.aKn,.row 700013 ((s3.h 700013).1+1),.row 800013 ((s3.h 800013).1+1),.row 900013 ((s3.h 900013).1+1),.row 1000013 ((s3.h 1000013).1+1)]))
 obtain⟨V21,eV21⟩:=nmH ((((ak.h 3).1+1)+1,aBc))
 obtain⟨V23,eV23⟩:=nmT (vP 3 (((ak.h 3).1+1)+1) 0)
 rcases CP (decide ((List.length af.2.2.aKq:Int)>0))with bj | bj
 ·replace h:=bP bj h;refine xn ?_;refine an ?_;refine Ay zM ?_;refine sk (an (sq ?_));obtain⟨aa,bu,h⟩:=aA h;refine xn1 (aEl.1 _ _ bu) ?_;refine an (rt ?_);apply Tp.mk (l:=[(true,[.dat (.int .i64 aa.2.2.Id),.dat (.str aa.2.2.aKl),.dat (.str aa.2.2.Top),.dat (.int .i64 aa.2.2.aKb),.row 500024 ((ak.h 500024).1+1),.row 600024 ((ak.h 600024).1+1),.dat (.int .i64 aa.2.2.aKh.Pc),.row 800024 ((ak.h 800024).1+1),.dat (.int .i64 aa.2.2.aKh.aLM),.dat (.bool aa.2.2.aKh.aLU),.dat (.bool aa.2.2.aKh.aLR)])]) (by simp[LN,LI,Qo,EN,f43,bj,eV27,eV28,eV29,eV3,eV5,eV8,eV9,eV10,eV17,eV19,eV26,eV22,eV4,eV21,eV23]);(simp +decide only[JT,LN,LI,E,reduceIte,Nat.reduceAdd,Nat.reduceMul,qB,qC,L,Qo,EN, *,-h];exact Is.mk _);refine an (sq ?_);refine Cj (Gho.ren_x (i:=3) (b:=7065003) (K:=3) zM zM) ?_;obtain⟨V6,eV6⟩:=nmH (((ak.h 600024).1+1,oW 229 4 M.aY.en aa.2.2.aKh.aLA));obtain⟨V11,eV11⟩:=nmH (((ak.h 500024).1+1,oW 173 2 M.aT.en aa.2.2.aT));obtain⟨V13,eV13⟩:=nmH (((ak.h 800024).1+1,oW 3 1 enI aa.2.2.aKh.aLN));obtain⟨V15,eV15⟩:=nmH (((s3.h 500013).1+1,oW 44 11 M.bK.en af.2.2.aKq));obtain⟨V24,eV24⟩:=nmT (vP 8 ((ak.h 8).1+1) 0);refine bY (J:=λs=>s.h 7=di.h 7/\s.t 2=V29/\s.t 3=V23/\s.t 6=V28/\s.t 7=V26/\s.t 8=V24/\s.h 2=V27/\s.h 3=V21/\s.h 8=((ak.h 8).1+1,oB 44 [cI aa.2.2.Id,cS aa.2.2.aKl,cS aa.2.2.Top,cI aa.2.2.aKb,.row 500024 ((ak.h 500024).1+1),.row 600024 ((ak.h 600024).1+1),cI aa.2.2.aKh.Pc,.row 800024 ((ak.h 800024).1+1),cI aa.2.2.aKh.aLM,cB aa.2.2.aKh.aLU,cB aa.2.2.aKh.aLR])/\s.h 11=(1,oB 138 [cL enB x1.b,cI aa.1,cI aa.2.1])/\s.h 400013=V5/\s.h 500013=V15/\s.h 500024=V11/\s.h 600024=V6/\s.h 700013=V9/\s.h 800013=V8/\s.h 800024=V13/\s.h 900013=V17/\s.h 1000013=V10/\True) zM ?_;rintro bm ⟨f300,f293⟩;replace f300:=f300.trans f33;obtain⟨av,bw,h⟩:=aA h;refine xn1 (c48.1 _ _ _ bw) ?_;refine an (sq (sq ?_));refine bY (J:=λs=>s.h 7=bm.h 7/\s.h 8=bm.h 8/\s.t 2=V29/\s.t 3=V23/\s.t 6=V28/\s.t 7=V26/\s.t 8=V24/\s.t 9=vI av.2.2/\s.h 2=V27/\s.h 3=V21/\s.h 11=(1,oB 138 [cL enB x1.b,cI av.1,cI av.2.1])/\s.h 400013=V5/\s.h 500013=V15/\s.h 500024=V11/\s.h 600024=V6/\s.h 700013=V9/\s.h 800013=V8/\s.h 800024=V13/\s.h 900013=V17/\s.h 1000013=V10/\True) zM ?_;rintro bn ⟨f323,f324,f315⟩;replace f323:=f323.trans f300;replace f324:=f324.trans f293.2.2.2.2.2.2.2.1;obtain⟨az,bx,h⟩:=aA h;refine xn1 (c49.1 _ _ _ bx) ?_;refine an ?_;refine bY (J:=λs=>s.h 7=bn.h 7/\s.h 8=bn.h 8/\s.t 2=V29/\s.t 3=V23/\s.t 6=V28/\s.t 7=V26/\s.t 8=V24/\s.t 9=vI av.2.2/\s.t 20=vB az.2.2/\s.h 2=V27/\s.h 3=V21/\s.h 11=(1,oB 138 [cL enB x1.b,cI az.1,cI az.2.1])/\s.h 400013=V5/\s.h 500013=V15/\s.h 500024=V11/\s.h 600024=V6/\s.h 700013=V9/\s.h 800013=V8/\s.h 800024=V13/\s.h 900013=V17/\s.h 1000013=V10/\True) zM ?_;rintro ah ⟨f347,f348,f338⟩;replace f347:=f347.trans f323;replace f348:=f348.trans f324;obtain⟨V2,eV2⟩:=nmH ((((ak.h 3).1+1)+1,oB 44 [cI aa.2.2.Id,cS aa.2.2.aKl,cS aa.2.2.Top,cI aa.2.2.aKb,.row 500024 ((ak.h 500024).1+1),.row 600024 ((ak.h 600024).1+1),cI aa.2.2.aKh.Pc,.row 800024 ((ak.h 800024).1+1),cI aa.2.2.aKh.aLM,cB aa.2.2.aKh.aLU,cB aa.2.2.aKh.aLR]));rcases CP az.2.2 with bf | bf;(replace h:=bP bf h;refine Ay zM ?_;refine sk (an (sq ?_));obtain⟨bz,ca,h⟩:=aA h;refine xd1 mixed (c50.1 _ _ ca) ?_;refine an ?_;refine bY (J:=λs=>s.t 2=V29/\s.t 3=V23/\s.t 4=vI av.2.2/\s.t 5=vS bz.2.2/\s.h 2=V4/\s.h 3=V2/\s.h 400013=V5/\s.h 500013=V15/\s.h 500024=V11/\s.h 600024=V6/\s.h 700013=V9/\s.h 800013=V8/\s.h 800024=V13/\s.h 900013=V17/\s.h 1000013=V10/\True) zM ?_;rintro dm ⟨f383,f384,f385,f386,f387,f388,f389,f390,f391,f392,dn,dq,du,dw,dx,_⟩;refine frb 2 3 400013 ?_;refine frb 2 4 500013 ?_;refine frb 2 6 700013 ?_;refine frb 2 7 800013 ?_;refine frb 2 8 900013 ?_;refine frb 2 9 1000013 ?_;refine frb 3 4 500024 ?_;refine frb 3 5 600024 ?_;refine frb 3 7 800024 ?_;refine rt ?_;cases h;simp[Ret,LN,LI,EN,JI,Qo,M.aKe.en,M.aY.en,M.aT.en,M.vE.en,M.Eb.en,M.bK.en,M.aKt.en,M.aKl.en,enI, *]);replace h:=bQ bf h;refine yL zM ?_;obtain⟨al,cc,h⟩:=aA h;refine xn1 (c7.1 _ _ _ _ _ _ cc) ?_;refine an (sq ?_);obtain⟨cd,cg,h⟩:=aA h;refine xd1 mixed (c50.1 _ _ cg) ?_;refine an ?_;refine bY (J:=λs=>s.t 2=V29/\s.t 3=V23/\s.t 4=vI av.2.2/\s.t 5=vS cd.2.2/\s.h 2=(1,oB 37 [cI al.1.Now,cB al.1.aK4,cI al.1.aKk,.row 400027 ((ah.h 400027).1+1),.row 500027 ((ah.h 500027).1+1),cI al.1.aKn,.row 700027 ((ah.h 700027).1+1),.row 800027 ((ah.h 800027).1+1),.row 900027 ((ah.h 900027).1+1),.row 1000027 ((ah.h 1000027).1+1)])/\s.h 3=V2/\s.h 400027=((ah.h 400027).1+1,oW 75 24 M.aKe.en al.1.aC.aKf)/\s.h 500024=V11/\s.h 500027=((ah.h 500027).1+1,oW 44 11 M.bK.en al.1.aKq)/\s.h 600024=V6/\s.h 700027=((ah.h 700027).1+1,oW 113 4 M.vE.en al.1.aKu.aKu)/\s.h 800024=V13/\s.h 800027=((ah.h 800027).1+1,oW 116 3 M.Eb.en al.1.aKp.aLJ)/\s.h 900027=((ah.h 900027).1+1,oW 120 4 M.aKl.en al.1.aK0)/\s.h 1000027=((ah.h 1000027).1+1,oW 125 5 M.aKt.en al.1.aKr)/\True) zM ?_;rintro dy f365;refine frb 2 3 400027 ?_;refine frb 2 4 500027 ?_;refine frb 2 6 700027 ?_;refine frb 2 7 800027 ?_;refine frb 2 8 900027 ?_;refine frb 2 9 1000027 ?_;refine frb 3 4 500024 ?_;refine frb 3 5 600024 ?_;refine frb 3 7 800024 ?_;refine rt ?_;cases h;simp[Ret,LN,LI,EN,JI,Qo,M.aKe.en,M.aY.en,M.aT.en,M.vE.en,M.Eb.en,M.bK.en,M.aKt.en,M.aKl.en,enI, *]
 replace h:=bQ bj h
 obtain⟨bt,dz,h⟩:=aA h
 refine xn1 (c49.1 _ _ _ dz) ?_
 refine an ?_
 obtain⟨V16,eV16⟩:=nmH (((s3.h 500013).1+1,oW 44 11 M.bK.en af.2.2.aKq))
 refine bY (J:=λs=>s.h 7=di.h 7/\s.t 0=V28/\s.t 3=vP 3 ((ak.h 3).1+1) 0/\s.t 4=vP 4 ((ak.h 4).1+1) 0/\s.t 13=vB (!bt.2.2)/\s.fr 2=vP 2 1 0/\s.fr 3=vP 7065003 ((bl.h 7065003).1+1) 0/\s.fr 6=vP 11 1 0/\s.fr 7=vP 7 ((s3.h 7).1+1) 0/\s.h 2=V27/\s.h 3=((ak.h 3).1+1,oB 37 [cI af.2.2.Now,cB af.2.2.aK4,cI af.2.2.aKk,.row 400013 ((s3.h 400013).1+1),.row 500013 ((s3.h 500013).1+1),cI af.2.2.aKn,.row 700013 ((s3.h 700013).1+1),.row 800013 ((s3.h 800013).1+1),.row 900013 ((s3.h 900013).1+1),.row 1000013 ((s3.h 1000013).1+1)])/\s.h 4=((ak.h 4).1+1,aBc)/\s.h 11=(1,oB 138 [cL enB x1.b,cI bt.1,cI bt.2.1])/\s.h 400013=V5/\s.h 500013=V16/\s.h 700013=V9/\s.h 800013=V8/\s.h 900013=V17/\s.h 1000013=V10/\s.h 7065003=V22/\True) zM ?_
 rintro ar ⟨f74,f63⟩
 replace f74:=f74.trans f33
 obtain⟨V25,eV25⟩:=nmT (vP 8 ((ar.h 8).1+1) 0)
 rcases gK (!bt.2.2)with bo | bo
 ·replace h:=bQ bo h;refine yL zM ?_;refine sq ?_;obtain⟨dj,ef,h⟩:=aA h;obtain⟨aw,et,h⟩:=aA h;obtain⟨eu,fa,fc⟩:=pK et;refine xd1 mixed (c48.1 _ _ _ ef) ?_;refine an (rt ?_);apply Tp.mk (l:=[(true,[.dat (.int .i64 aw.Id),.dat (.str aw.aKl),.dat (.str aw.Top),.dat (.int .i64 aw.aKb),.dat (.sl (List.map M.aT.en aw.aT)),.dat (.sl (List.map M.aY.en aw.aKh.aLA)),.dat (.int .i64 aw.aKh.Pc),.dat (.sl (List.map enI aw.aKh.aLN)),.dat (.int .i64 aw.aKh.aLM),.dat (.bool aw.aKh.aLU),.dat (.bool aw.aKh.aLR)])]) (by simp[LN,LI,Qo,EN,bj,f74,f63,bo,eu,fa,fc,eV27,eV28,eV29,eV3,eV5,eV8,eV9,eV10,eV17,eV19,eV26,eV22,eV4,eV21,eV23,eV16,eV25]);(simp +decide only[JT,LN,LI,E,reduceIte,Nat.reduceAdd,Nat.reduceMul,qB,qC,L,Qo,EN, *,-h];exact Is.mk _);refine an (sq ?_);refine Cj (Gho.ren_x (i:=3) (b:=7065003) (K:=3) zM zM) ?_;obtain⟨V20,eV20⟩:=nmH (((ar.h 8).1+1,oX 44 (M.bK.en aw)));refine bY (J:=λs=>s.h 7=ar.h 7/\s.t 2=V29/\s.t 3=V23/\s.t 6=V28/\s.t 7=V26/\s.t 8=V25/\s.h 2=V27/\s.h 3=V21/\s.h 8=V20/\s.h 11=(1,oB 138 [cL enB x1.b,cI dj.1,cI dj.2.1])/\s.h 400013=V5/\s.h 500013=V16/\s.h 700013=V9/\s.h 800013=V8/\s.h 900013=V17/\s.h 1000013=V10/\True) zM ?_;rintro fe ⟨f99,f92⟩;replace f99:=f99.trans f74;obtain⟨ax,cj,h⟩:=aA h;refine xn1 (c48.1 _ _ _ cj) ?_;refine an (sq (sq ?_));refine bY (J:=λs=>s.h 7=fe.h 7/\s.t 2=V29/\s.t 3=V23/\s.t 6=V28/\s.t 7=V26/\s.t 8=V25/\s.t 9=vI ax.2.2/\s.h 2=V27/\s.h 3=V21/\s.h 8=V20/\s.h 11=(1,oB 138 [cL enB x1.b,cI ax.1,cI ax.2.1])/\s.h 400013=V5/\s.h 500013=V16/\s.h 700013=V9/\s.h 800013=V8/\s.h 900013=V17/\s.h 1000013=V10/\True) zM ?_;rintro ck ⟨f119,f111⟩;replace f119:=f119.trans f99;obtain⟨ba,cl,h⟩:=aA h;refine xn1 (c49.1 _ _ _ cl) ?_;refine an ?_;refine bY (J:=λs=>s.h 7=ck.h 7/\s.t 2=V29/\s.t 3=V23/\s.t 6=V28/\s.t 7=V26/\s.t 8=V25/\s.t 9=vI ax.2.2/\s.t 20=vB ba.2.2/\s.h 2=V27/\s.h 3=V21/\s.h 8=V20/\s.h 11=(1,oB 138 [cL enB x1.b,cI ba.1,cI ba.2.1])/\s.h 400013=V5/\s.h 500013=V16/\s.h 700013=V9/\s.h 800013=V8/\s.h 900013=V17/\s.h 1000013=V10/\True) zM ?_;rintro ai ⟨f140,f131⟩;replace f140:=f140.trans f119;obtain⟨V18,eV18⟩:=nmH ((((ak.h 3).1+1)+1,oX 44 (M.bK.en aw)));rcases CP ba.2.2 with bg | bg;(replace h:=bP bg h;refine Ay zM ?_;refine sk (an (sq ?_));obtain⟨cn,cp,h⟩:=aA h;refine xd1 mixed (c50.1 _ _ cp) ?_;refine an ?_;refine bY (J:=λs=>s.t 2=V29/\s.t 3=V23/\s.t 4=vI ax.2.2/\s.t 5=vS cn.2.2/\s.h 2=V4/\s.h 3=V18/\s.h 400013=V5/\s.h 500013=V16/\s.h 700013=V9/\s.h 800013=V8/\s.h 900013=V17/\s.h 1000013=V10/\True) zM ?_;rintro ff f170;refine frb 2 3 400013 ?_;refine frb 2 4 500013 ?_;refine frb 2 6 700013 ?_;refine frb 2 7 800013 ?_;refine frb 2 8 900013 ?_;refine frb 2 9 1000013 ?_;refine rt ?_;cases h;simp[Ret,LN,LI,EN,JI,Qo,M.aKe.en,M.aY.en,M.aT.en,M.vE.en,M.Eb.en,M.bK.en,M.aKt.en,M.aKl.en,enI, *]);replace h:=bQ bg h;refine yL zM ?_;obtain⟨ao,cq,h⟩:=aA h;refine xn1 (c7.1 _ _ _ _ _ _ cq) ?_;refine an (sq ?_);obtain⟨cr,cw,h⟩:=aA h;refine xd1 mixed (c50.1 _ _ cw) ?_;refine an ?_;refine bY (J:=λs=>s.t 2=V29/\s.t 3=V23/\s.t 4=vI ax.2.2/\s.t 5=vS cr.2.2/\s.h 2=(1,oB 37 [cI ao.1.Now,cB ao.1.aK4,cI ao.1.aKk,.row 400027 ((ai.h 400027).1+1),.row 500027 ((ai.h 500027).1+1),cI ao.1.aKn,.row 700027 ((ai.h 700027).1+1),.row 800027 ((ai.h 800027).1+1),.row 900027 ((ai.h 900027).1+1),.row 1000027 ((ai.h 1000027).1+1)])/\s.h 3=V18/\s.h 400027=((ai.h 400027).1+1,oW 75 24 M.aKe.en ao.1.aC.aKf)/\s.h 500027=((ai.h 500027).1+1,oW 44 11 M.bK.en ao.1.aKq)/\s.h 700027=((ai.h 700027).1+1,oW 113 4 M.vE.en ao.1.aKu.aKu)/\s.h 800027=((ai.h 800027).1+1,oW 116 3 M.Eb.en ao.1.aKp.aLJ)/\s.h 900027=((ai.h 900027).1+1,oW 120 4 M.aKl.en ao.1.aK0)/\s.h 1000027=((ai.h 1000027).1+1,oW 125 5 M.aKt.en ao.1.aKr)/\True) zM ?_;rintro fg f155;refine frb 2 3 400027 ?_;refine frb 2 4 500027 ?_;refine frb 2 6 700027 ?_;refine frb 2 7 800027 ?_;refine frb 2 8 900027 ?_;refine frb 2 9 1000027 ?_;refine rt ?_;cases h;simp[Ret,LN,LI,EN,JI,Qo,M.aKe.en,M.aY.en,M.aT.en,M.vE.en,M.Eb.en,M.bK.en,M.aKt.en,M.aKl.en,enI, *]
 replace h:=bP bo h
 refine Ay zM ?_
 refine sk (an (sq ?_))
 obtain⟨ae,cx,h⟩:=aA h
 refine xn1 (aEl.1 _ _ cx) ?_
 refine an (rt ?_)
 apply Tp.mk (l:=[(true,[.dat (.int .i64 ae.2.2.Id),.dat (.str ae.2.2.aKl),.dat (.str ae.2.2.Top),.dat (.int .i64 ae.2.2.aKb),.row 500024 ((ar.h 500024).1+1),.row 600024 ((ar.h 600024).1+1),.dat (.int .i64 ae.2.2.aKh.Pc),.row 800024 ((ar.h 800024).1+1),.dat (.int .i64 ae.2.2.aKh.aLM),.dat (.bool ae.2.2.aKh.aLU),.dat (.bool ae.2.2.aKh.aLR)])]) (by simp[LN,LI,Qo,EN,bj,f74,f63,bo,eV27,eV28,eV29,eV3,eV5,eV8,eV9,eV10,eV17,eV19,eV26,eV22,eV4,eV21,eV23,eV16,eV25])
 ·simp +decide only[JT,LN,LI,E,reduceIte,Nat.reduceAdd,Nat.reduceMul,qB,qC,L,Qo,EN, *,-h];exact Is.mk _
 refine an (sq ?_)
 refine Cj (Gho.ren_x (i:=3) (b:=7065003) (K:=3) zM zM) ?_
 obtain⟨V7,eV7⟩:=nmH (((ar.h 600024).1+1,oW 229 4 M.aY.en ae.2.2.aKh.aLA))
 obtain⟨V12,eV12⟩:=nmH (((ar.h 500024).1+1,oW 173 2 M.aT.en ae.2.2.aT))
 obtain⟨V14,eV14⟩:=nmH (((ar.h 800024).1+1,oW 3 1 enI ae.2.2.aKh.aLN))
 refine bY (J:=λs=>s.h 7=ar.h 7/\s.t 2=V29/\s.t 3=V23/\s.t 6=V28/\s.t 7=V26/\s.t 8=V25/\s.h 2=V27/\s.h 3=V21/\s.h 8=((ar.h 8).1+1,oB 44 [cI ae.2.2.Id,cS ae.2.2.aKl,cS ae.2.2.Top,cI ae.2.2.aKb,.row 500024 ((ar.h 500024).1+1),.row 600024 ((ar.h 600024).1+1),cI ae.2.2.aKh.Pc,.row 800024 ((ar.h 800024).1+1),cI ae.2.2.aKh.aLM,cB ae.2.2.aKh.aLU,cB ae.2.2.aKh.aLR])/\s.h 11=(1,oB 138 [cL enB x1.b,cI ae.1,cI ae.2.1])/\s.h 400013=V5/\s.h 500013=V16/\s.h 500024=V12/\s.h 600024=V7/\s.h 700013=V9/\s.h 800013=V8/\s.h 800024=V14/\s.h 900013=V17/\s.h 1000013=V10/\True) zM ?_
 rintro bq ⟨f192,f185⟩
 replace f192:=f192.trans f74
 obtain⟨ay,cy,h⟩:=aA h
 refine xn1 (c48.1 _ _ _ cy) ?_
 refine an (sq (sq ?_))
 refine bY (J:=λs=>s.h 7=bq.h 7/\s.h 8=bq.h 8/\s.t 2=V29/\s.t 3=V23/\s.t 6=V28/\s.t 7=V26/\s.t 8=V25/\s.t 9=vI ay.2.2/\s.h 2=V27/\s.h 3=V21/\s.h 11=(1,oB 138 [cL enB x1.b,cI ay.1,cI ay.2.1])/\s.h 400013=V5/\s.h 500013=V16/\s.h 500024=V12/\s.h 600024=V7/\s.h 700013=V9/\s.h 800013=V8/\s.h 800024=V14/\s.h 900013=V17/\s.h 1000013=V10/\True) zM ?_
 rintro br ⟨f215,f216,f207⟩
 replace f215:=f215.trans f192
 replace f216:=f216.trans f185.2.2.2.2.2.2.2.1
 obtain⟨bd,cz,h⟩:=aA h
 refine xn1 (c49.1 _ _ _ cz) ?_
 refine an ?_
 refine bY (J:=λs=>s.h 7=br.h 7/\s.h 8=br.h 8/\s.t 2=V29/\s.t 3=V23/\s.t 6=V28/\s.t 7=V26/\s.t 8=V25/\s.t 9=vI ay.2.2/\s.t 20=vB bd.2.2/\s.h 2=V27/\s.h 3=V21/\s.h 11=(1,oB 138 [cL enB x1.b,cI bd.1,cI bd.2.1])/\s.h 400013=V5/\s.h 500013=V16/\s.h 500024=V12/\s.h 600024=V7/\s.h 700013=V9/\s.h 800013=V8/\s.h 800024=V14/\s.h 900013=V17/\s.h 1000013=V10/\True) zM ?_
 rintro aj ⟨f239,f240,f230⟩
 replace f239:=f239.trans f215
 replace f240:=f240.trans f216
 obtain⟨V1,eV1⟩:=nmH ((((ak.h 3).1+1)+1,oB 44 [cI ae.2.2.Id,cS ae.2.2.aKl,cS ae.2.2.Top,cI ae.2.2.aKb,.row 500024 ((ar.h 500024).1+1),.row 600024 ((ar.h 600024).1+1),cI ae.2.2.aKh.Pc,.row 800024 ((ar.h 800024).1+1),cI ae.2.2.aKh.aLM,cB ae.2.2.aKh.aLU,cB ae.2.2.aKh.aLR]))
 rcases CP bd.2.2 with bh | bh
 ·replace h:=bP bh h;refine Ay zM ?_;refine sk (an (sq ?_));obtain⟨da,db,h⟩:=aA h;refine xd1 mixed (c50.1 _ _ db) ?_;refine an ?_;refine bY (J:=λs=>s.t 2=V29/\s.t 3=V23/\s.t 4=vI ay.2.2/\s.t 5=vS da.2.2/\s.h 2=V4/\s.h 3=V1/\s.h 400013=V5/\s.h 500013=V16/\s.h 500024=V12/\s.h 600024=V7/\s.h 700013=V9/\s.h 800013=V8/\s.h 800024=V14/\s.h 900013=V17/\s.h 1000013=V10/\True) zM ?_;rintro fh f275;refine frb 2 3 400013 ?_;refine frb 2 4 500013 ?_;refine frb 2 6 700013 ?_;refine frb 2 7 800013 ?_;refine frb 2 8 900013 ?_;refine frb 2 9 1000013 ?_;refine frb 3 4 500024 ?_;refine frb 3 5 600024 ?_;refine frb 3 7 800024 ?_;refine rt ?_;cases h;simp[Ret,LN,LI,EN,JI,Qo,M.aKe.en,M.aY.en,M.aT.en,M.vE.en,M.Eb.en,M.bK.en,M.aKt.en,M.aKl.en,enI, *]
 replace h:=bQ bh h
 refine yL zM ?_
 obtain⟨aq,df,h⟩:=aA h
 refine xn1 (c7.1 _ _ _ _ _ _ df) ?_
 refine an (sq ?_)
 obtain⟨dg,dh,h⟩:=aA h
 refine xd1 mixed (c50.1 _ _ dh) ?_
 refine an ?_
 refine bY (J:=λs=>s.t 2=V29/\s.t 3=V23/\s.t 4=vI ay.2.2/\s.t 5=vS dg.2.2/\s.h 2=(1,oB 37 [cI aq.1.Now,cB aq.1.aK4,cI aq.1.aKk,.row 400027 ((aj.h 400027).1+1),.row 500027 ((aj.h 500027).1+1),cI aq.1.aKn,.row 700027 ((aj.h 700027).1+1),.row 800027 ((aj.h 800027).1+1),.row 900027 ((aj.h 900027).1+1),.row 1000027 ((aj.h 1000027).1+1)])/\s.h 3=V1/\s.h 400027=((aj.h 400027).1+1,oW 75 24 M.aKe.en aq.1.aC.aKf)/\s.h 500024=V12/\s.h 500027=((aj.h 500027).1+1,oW 44 11 M.bK.en aq.1.aKq)/\s.h 600024=V7/\s.h 700027=((aj.h 700027).1+1,oW 113 4 M.vE.en aq.1.aKu.aKu)/\s.h 800024=V14/\s.h 800027=((aj.h 800027).1+1,oW 116 3 M.Eb.en aq.1.aKp.aLJ)/\s.h 900027=((aj.h 900027).1+1,oW 120 4 M.aKl.en aq.1.aK0)/\s.h 1000027=((aj.h 1000027).1+1,oW 125 5 M.aKt.en aq.1.aKr)/\True) zM ?_
 rintro fj f257
 refine frb 2 3 400027 ?_
 refine frb 2 4 500027 ?_
 refine frb 2 6 700027 ?_
 refine frb 2 7 800027 ?_
 refine frb 2 8 900027 ?_
 refine frb 2 9 1000027 ?_
 refine frb 3 4 500024 ?_
 refine frb 3 5 600024 ?_
 refine frb 3 7 800024 ?_
 refine rt ?_
 cases h
 simp[Ret,LN,LI,EN,JI,Qo,M.aKe.en,M.aY.en,M.aT.en,M.vE.en,M.Eb.en,M.bK.en,M.aKt.en,M.aKl.en,enI, *]⟩
