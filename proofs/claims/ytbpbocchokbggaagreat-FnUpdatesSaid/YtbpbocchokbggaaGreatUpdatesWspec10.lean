/-
  Helper text. No conditions.
-/
import Derived.Test.YtbpbocchokbggaaGreatUpdatesWspec9
set_option linter.all false
namespace Go.Sh
open Go.RowKit
section
variable {P : Program} {base N : Nat} {w0 : W0} {s : St}

theorem move_box {g : Gh} {a : Act} {w : World} {j K vj : Nat} {t : TypeId} {cells : List SC} (R : nU P base w0 N g s a w []) (h2 : s.h j = (vj, .box t cells)) :
    ∃ g', nU P base w0 N g' ((s.fP j (vj, .none)).fP K ((s.h K).1 + 1, .box t cells)) a w [] ∧
      ∀ v, Bc g s.h w (.bp j vj 0) v → Bc g' ((s.fP j (vj, .none)).fP K ((s.h K).1 + 1, .box t cells)).h w (.bp K ((s.h K).1 + 1) 0) v := by
  have hj1 : (s.h j).1 = vj := by rw [h2]
  have hj2 : (s.h j).2 = .box t cells := by rw [h2]
  have hob := R.inv.obj j
  rw [hj2] at hob
  obtain ⟨b, vals, p1, p2, p3, p4⟩ := hob
  have hlive : live s.h j := by unfold live; rw [hj2]; simp
  have I1 := R.inv.drop j
  rw [hj1] at I1
  have hfr : ∀ x, Ck (g.val j) = some x → Fh g (tV s.h j (vj, .none)) x := by
    intro x hx
    refine ⟨R.inv.mtb j x hlive hx, fun i hl hb' => ?_⟩
    obtain ⟨hne, hl⟩ := A9 hl
    exact R.inv.inj i j x hne hl hlive hb' hx
  have T1 : lT g g s.h (tV s.h j (vj, .none)) w w := by have := lT.drop (g := g) (h := s.h) (w := w) j g.S fun _ x => x; rw [hj1] at this; exact this
  have hver : (tV s.h j (vj, .none) K).1 = (s.h K).1 := by
    by_cases hk : K = j
    · subst hk; rw [bM, hj1]
    · rw [fT _ _ _ _ hk]
  have T2 := lT.create (g := g) (h := tV s.h j (vj, .none)) (w := w) K (g.val j) [] (.box t cells)
  have I2 := I1.Qw (i := K) (v := g.val j) (F := []) (o := .box t cells) (pool' := []) ⟨b, vals, by rw [show (NH g K (g.val j) []).val K = g.val j from eA _ _ _]; exact p1, p2, p3, p4.turn (T1.trans T2)⟩ hfr (fun _ x => x) List.nodup_nil (by rintro ⟨_, _, _, h⟩; cases h)
  rw [hver] at I2 T2
  refine ⟨_, R.turn (T1.trans T2) rfl R.below I2, ?_⟩
  rintro v ⟨h0, _, hv⟩
  refine ⟨h0, ?_, ?_⟩
  · show _ ≤ (tV _ K _ K).1
    rw [bM]; exact Nat.le_refl _
  · intro _ t' cs' _
    obtain ⟨b0, e1, e2⟩ := hv hj1 t cells hj2
    exact ⟨b0, by show Gu g.val K (g.val j) K = _; rw [eA]; exact e1, e2⟩

theorem Gho.ren_x {i b K vb : Nat} {t : TypeId} {cells : List SC} (h1 : s.t i = .v false [.bp b vb 0]) (h2 : s.h b = (vb, .box t cells)) :
    Gho P base w0 N s (((s.fP b (vb, .none)).fP K ((s.h K).1 + 1, .box t cells)).HM i (.v false [.bp K ((s.h K).1 + 1) 0])) := by
  rintro a w ⟨g, R⟩
  have ht := R.tmp i
  rw [h1] at ht
  obtain ⟨g', R', hc⟩ := move_box (K := K) R h2
  exact ⟨g', Pv R' ⟨_, [], rfl, hc _ (eJ ht), rfl⟩⟩
end
end Go.Sh
namespace Go.Proofs.YtbpbocchokbggaaGreat.gen
open Go Go.Sh
set_option maxRecDepth 20000
set_option maxHeartbeats 4000000
instance:bE 236 (∀p0 r (h:A3 p0=some r),Sc 236 [(false,[.ptr [.sl (List.map enB p0.b),.int .i64 p0.i,.int .i64 p0.h]])] [(false,[.edit (.lend 304 [.int .i64 r.1,.int .i64 r.2.1])]),(true,M.World.rs r.2.2)]):=⟨λp0 r h=>by
 unfold A3 at h
 simp only[EN]
 refine sgB 68 [.cell 2 58] Tryz.func236 λbase wd B0 u0 hw0=> ?_
 refine dR (J:=λs=>s.t 0=vP 7059000 1 0/\s.h 7059000=(1,oB 304 [.old B0 (.sl (List.map enB p0.b)) (some u0),cI p0.i,cI p0.h])/\True) ?_ ?_
 ·and_intros<;>(try simp only[LN,List.map_cons,List.map_nil])<;>rfl
 rintro s1 f2
 have i1:=E5 [.b 3 3 7050000 126 24,.b 3 4 7050001 67 11,.b 3 6 7050002 196 4,.b 3 7 7050003 199 3,.b 3 8 7050004 92 4,.b 3 9 7050005 205 5] λm s=>∃v4:Int,∃ay:Int,∃az:Bool,∃ba:Int,∃bd:Int,∃aa:Int,∃ae:Int,∃af:List M.aI3,∃ah:List M.bG,∃ai:List M.mV,∃aj:List M.AP,∃ak:List M.aI7,∃al:List M.aJC,∃ao:Nat,∃aq:Nat,∃ar:Nat,∃av:Nat,∃aw:Nat,∃ax:Nat,(s.t 0=vP 7059000 1 0/\s.t 2=vP 2 ((s1.h 2).1+1) 0/\s.t 3=vP 3 ((s1.h 3).1+1) 0/\s.t 4=vI v4/\s.h 2=((s1.h 2).1+1,Q6)/\s.h 3=((s1.h 3).1+1,oB 58 [cI ay,cB az,cI ba,.row 7050000 ao,.row 7050001 aq,cI bd,.row 7050002 ar,.row 7050003 av,.row 7050004 aw,.row 7050005 ax])/\s.h 7050000=(ao,oW 126 24 M.aI3.en af)/\s.h 7050001=(aq,oW 67 11 M.bG.en ah)/\s.h 7050002=(ar,oW 196 4 M.mV.en ai)/\s.h 7050003=(av,oW 199 3 M.AP.en aj)/\s.h 7050004=(aw,oW 92 4 M.aI7.en ak)/\s.h 7050005=(ax,oW 205 5 M.aJC.en al)/\s.h 7059000=(1,oB 304 [.old B0 (.sl (List.map enB p0.b)) (some u0),cI aa,cI ae]))/\fR p0 m v4 ay az ba bd aa ae af ah ai aj ak al=some r
 have e1:=@fR.eq_2
 exact sgX⟩
instance c29:bE 29 (∀p0 p1 p2 r (h:dC p0 p1 p2=some r),Sc 29 [aX (M.World.en p0),aS p1,aS p2] [(true,M.World.rs r.1),rB r.2]):=⟨λp0 p1 p2 r h=>by unfold dC at h;exact sgo 117 [.cell 6 58,.tmp 7] Tryz.func29⟩
instance c33:bE 33 (∀p0 p1 p2 r (h:eI p0 p1 p2=some r),Sc 33 [aX (M.World.en p0),aS p1,aS p2] [(true,M.World.rs r.1),rB r.2]):=⟨λp0 p1 p2 r h=>by unfold eI at h;exact sgo 73 [.cell 6 58,.tmp 7] Tryz.func33⟩
instance:bE 498 (∀p0 p1 r (h:Ca p0 p1=some r),Sc 498 [(false,[.ptr [.sl (List.map enB p0.b),.int .i64 p0.i,.int .i64 p0.h]]),aX (M.World.en p1)] [(false,[.edit (.lend 304 [.int .i64 r.1,.int .i64 r.2.1])]),(true,M.World.rs r.2.2)]):=⟨λp0 p1 r h=>by
 unfold Ca at h
 simp only[EN]
 refine sgB 64 [.cell 4 58] Tryz.func498 λbase wd B0 u0 hw0=> ?_
 refine dR (J:=λs=>s.t 0=vP 7059000 1 0/\s.t 1=.v true [.dat (.int .i64 p1.Now),.dat (.bool p1.aJV),.dat (.int .i64 p1.aJA),.dat (.sl (List.map M.aI3.en p1.aA.aI4)),.dat (.sl (List.map M.bG.en p1.aJI)),.dat (.int .i64 p1.aJG),.dat (.sl (List.map M.mV.en p1.aJJ.aJJ)),.dat (.sl (List.map M.AP.en p1.aJD.aJe)),.dat (.sl (List.map M.aI7.en p1.aJL)),.dat (.sl (List.map M.aJC.en p1.aJK))]/\s.h 7059000=(1,oB 304 [.old B0 (.sl (List.map enB p0.b)) (some u0),cI p0.i,cI p0.h])/\True) ?_ ?_
 ·and_intros<;>(try simp only[LN,List.map_cons,List.map_nil])<;>rfl
 rintro s1 f2
 exact sgX⟩
theorem aIa(p0 r)(h:Bk p0=some r):Sc 412 [(false,[.ptr [.sl (List.map enB p0.b),.int .i64 p0.i,.int .i64 p0.h]])] [(false,[.edit (.lend 304 [.int .i64 r.1,.int .i64 r.2.1])]),(true,M.World.rs r.2.2)]:=by
 unfold Bk at h
 simp only[EN]
 refine sgB 17 [.cell 2 58] Tryz.func412 λbase wd j u0 hw0=> ?_
 refine dR (J:=λs=>s.t 0=vP 7059000 1 0/\s.h 7059000=(1,oB 304 [.old j (.sl (List.map enB p0.b)) (some u0),cI p0.i,cI p0.h])/\True) ?_ ?_
 ·and_intros<;>(try simp only[LN,List.map_cons,List.map_nil])<;>rfl
 rintro s1 f2
 have i1:=E5 [.b 3 3 7050000 126 24,.b 3 4 7050001 67 11,.b 3 6 7050002 196 4,.b 3 7 7050003 199 3,.b 3 8 7050004 92 4,.b 3 9 7050005 205 5] λm s=>∃v4:Int,∃ay:Int,∃az:Bool,∃ba:Int,∃bd:Int,∃C:Int,∃I:Int,∃U:List M.aI3,∃ah:List M.bG,∃ai:List M.mV,∃aj:List M.AP,∃ak:List M.aI7,∃al:List M.aJC,∃ao:Nat,∃aq:Nat,∃ar:Nat,∃av:Nat,∃aw:Nat,∃ax:Nat,(s.t 0=vP 7059000 1 0/\s.t 2=vP 2 ((s1.h 2).1+1) 0/\s.t 3=vP 3 ((s1.h 3).1+1) 0/\s.t 4=vI v4/\s.h 2=((s1.h 2).1+1,Q6)/\s.h 3=((s1.h 3).1+1,oB 58 [cI ay,cB az,cI ba,.row 7050000 ao,.row 7050001 aq,cI bd,.row 7050002 ar,.row 7050003 av,.row 7050004 aw,.row 7050005 ax])/\s.h 7050000=(ao,oW 126 24 M.aI3.en U)/\s.h 7050001=(aq,oW 67 11 M.bG.en ah)/\s.h 7050002=(ar,oW 196 4 M.mV.en ai)/\s.h 7050003=(av,oW 199 3 M.AP.en aj)/\s.h 7050004=(aw,oW 92 4 M.aI7.en ak)/\s.h 7050005=(ax,oW 205 5 M.aJC.en al)/\s.h 7059000=(1,oB 304 [.old j (.sl (List.map enB p0.b)) (some u0),cI C,cI I]))/\sU p0 m v4 ay az ba bd C I U ah ai aj ak al=some r
 have e1:=@sU.eq_2
 exact sgX
instance:bE 549 (∀p0 r (h:CP p0=some r),Sc 549 [(false,[.ptr [.sl (List.map enB p0.b),.int .i64 p0.i,.int .i64 p0.h]])] [(false,[.edit (.lend 304 [.int .i64 r.1,.int .i64 r.2.1])]),(true,M.bR.rs r.2.2)]):=⟨λp0 r h=>by
 unfold CP at h
 simp only[EN]
 refine sgB 38 [.cell 2 114] Tryz.func549 λbase wd B0 u0 hw0=> ?_
 refine dR (J:=λs=>s.t 0=vP 7059000 1 0/\s.h 7059000=(1,oB 304 [.old B0 (.sl (List.map enB p0.b)) (some u0),cI p0.i,cI p0.h])/\True) ?_ ?_
 ·and_intros<;>(try simp only[LN,List.map_cons,List.map_nil])<;>rfl
 rintro s1 f2
 exact sgX⟩
instance:bE 471 (∀p0 r (h:CT p0=some r),Sc 471 [(false,[.ptr [.sl (List.map enB p0.b),.int .i64 p0.i,.int .i64 p0.h]])] [(false,[.edit (.lend 304 [.int .i64 r.1,.int .i64 r.2.1])]),(true,M.aI3.rs r.2.2)]):=⟨λp0 r h=>by
 unfold CT at h
 simp only[EN]
 refine sgB 50 [.cell 2 126] Tryz.func471 λbase wd B0 u0 hw0=> ?_
 refine dR (J:=λs=>s.t 0=vP 7059000 1 0/\s.h 7059000=(1,oB 304 [.old B0 (.sl (List.map enB p0.b)) (some u0),cI p0.i,cI p0.h])/\True) ?_ ?_
 ·and_intros<;>(try simp only[LN,List.map_cons,List.map_nil])<;>rfl
 rintro s1 f2
 have i1:=λ(x4:(Int×Int×M.aI3)) (ae:(Int×Int×Int)) (aa:St)=>inv λm s=>∃r5:List Int,∃u5:Nat,(s.h 2000005=aa.h 2000005/\s.h 7059000=aa.h 7059000/\s.t 0=vP 7059000 1 0/\s.t 2=vP 2 ((s1.h 2).1+1) 0/\s.t 3=vP 3 ((s1.h 3).1+1) 0/\s.h 2=((s1.h 2).1+1,HN)/\s.h 3=((s1.h 3).1+1,oB 126 [cS x4.2.2.aI7,cS x4.2.2.Top,cS x4.2.2.aIz.aI7,cI x4.2.2.aIz.aJP,cI x4.2.2.aIz.aJT,cI x4.2.2.aIz.aJX,.row 700005 ((s1.h 700005).1+1),cS x4.2.2.bR.aJQ.Name,cI x4.2.2.bR.aJQ.aI0,.row 1000005 ((s1.h 1000005).1+1),.row 1100005 ((s1.h 1100005).1+1),.row 1200005 u5,cI x4.2.2.bR.aJi,cS x4.2.2.aG.aJQ.Name,.row 1500005 ((s1.h 1500005).1+1),cI x4.2.2.aG.aJQ.aJa,cI x4.2.2.aG.aJm,cI x4.2.2.aG.aJR.aK.aJA,cI x4.2.2.aG.aJR.aK.aJd,.row 2000005 ((s1.h 2000005).1+1),cI x4.2.2.aG.aJR.aJh,cI x4.2.2.aG.aJR.aJY,cI x4.2.2.aJc,cB x4.2.2.aJZ])/\s.h 700005=((s1.h 700005).1+1,oW 345 2 M.aI5.en x4.2.2.aI1.aI1)/\s.h 1000005=((s1.h 1000005).1+1,oW 117 3 M.aD.en x4.2.2.bR.aJQ.aJF)/\s.h 1100005=((s1.h 1100005).1+1,oW 471 2 M.aN.en x4.2.2.bR.aJQ.aJO)/\s.h 1200005=(u5,oW 5 1 enB r5)/\s.h 1500005=((s1.h 1500005).1+1,oW 260 4 M.aJN.en x4.2.2.aG.aJQ.aI6))/\pM x4 ae m r5=some r
 have e1:=@pM.eq_2
 exact sgX⟩
theorem aIs(p0 r)(h:vG p0=some r):Sc 376 [(false,[.ptr [.sl (List.map enB p0.b),.int .i64 p0.i,.int .i64 p0.h]])] [(false,[.edit (.lend 304 [.int .i64 r.1,.int .i64 r.2.1])]),(true,M.aA.rs r.2.2)]:=by
 unfold vG at h
 simp only[EN]
 refine sgB 29 [.cell 2 47] Tryz.func376 λbase wd j u0 hw0=> ?_
 refine dR (J:=λs=>s.t 0=vP 7059000 1 0/\s.h 7059000=(1,oB 304 [.old j (.sl (List.map enB p0.b)) (some u0),cI p0.i,cI p0.h])/\True) ?_ ?_
 ·and_intros<;>(try simp only[LN,List.map_cons,List.map_nil])<;>rfl
 rintro s1 f2
 have i1:=E5 [.b 3 0 7050000 126 24] λm s=>∃v4:Int,∃C:Int,∃I:Int,∃U:List M.aI3,∃ah:Nat,(s.t 0=vP 7059000 1 0/\s.t 2=vP 2 ((s1.h 2).1+1) 0/\s.t 3=vP 3 ((s1.h 3).1+1) 0/\s.t 4=vI v4/\s.h 2=((s1.h 2).1+1,oB 47 [.nil])/\s.h 3=((s1.h 3).1+1,oB 47 [.row 7050000 ah])/\s.h 7050000=(ah,oW 126 24 M.aI3.en U)/\s.h 7059000=(1,oB 304 [.old j (.sl (List.map enB p0.b)) (some u0),cI C,cI I]))/\kT p0 m v4 C I U=some r
 have e1:=@kT.eq_2
 exact sgX
instance:bE 277 (∀p0 r (h:CU p0=some r),Sc 277 [(false,[.ptr [.sl (List.map enB p0.b),.int .i64 p0.i,.int .i64 p0.h]])] [(false,[.edit (.lend 304 [.int .i64 r.1,.int .i64 r.2.1])]),(true,M.World.rs r.2.2)]):=⟨λp0 r h=>by
 unfold CU at h
 simp only[EN]
 refine sgB 13 [.cell 2 58] Tryz.func277 λbase wd B0 u0 hw0 => ?_
 refine dR (J:=λs=>s.t 0=vP 7059000 1 0/\s.h 7059000=(1,oB 304 [.old B0 (.sl (List.map enB p0.b)) (some u0),cI p0.i,cI p0.h])/\True) ?_ ?_
 ·and_intros<;>(try simp only[LN,List.map_cons,List.map_nil])<;>rfl
 rintro s1 f2
 refine sq ?_
 apply bJ
 ·simp +decide only[LN,LI,E,reduceIte,Nat.reduceAdd,Nat.reduceMul,qB,qC,L,D9,EN,f2];exact Is.mk _
 refine an (sq ?_)
 obtain⟨x4,h5,h⟩:=bind_some h
 apply bJ
 ·simp +decide only[LN,LI,E,reduceIte,Nat.reduceAdd,Nat.reduceMul,qB,qC,L,D9,EN,f2]
  refine⟨_,aIa _ _ h5,?_⟩
  try simp +decide only[LN,LI,E,reduceIte,Nat.reduceAdd,Nat.reduceMul,qB,qC,L,D9,EN,f2]
  exact Is.mk _
 refine an (sq ?_)
 refine dR (J:=λs=>s.t 0=vP 7059000 1 0/\s.t 2=vP 2 ((s1.h 2).1+1) 0/\s.t 3=vP 3 ((s1.h 3).1+1) 0/\s.h 2=((s1.h 2).1+1,Q6)/\s.h 3=((s1.h 3).1+1,oB 58 [cI x4.2.2.Now,cB x4.2.2.aJV,cI x4.2.2.aJA,.row 400005 ((s1.h 400005).1+1),.row 500005 ((s1.h 500005).1+1),cI x4.2.2.aJG,.row 700005 ((s1.h 700005).1+1),.row 800005 ((s1.h 800005).1+1),.row 900005 ((s1.h 900005).1+1),.row 1000005 ((s1.h 1000005).1+1)])/\s.h 400005=((s1.h 400005).1+1,oW 126 24 M.aI3.en x4.2.2.aA.aI4)/\s.h 500005=((s1.h 500005).1+1,oW 67 11 M.bG.en x4.2.2.aJI)/\s.h 700005=((s1.h 700005).1+1,oW 196 4 M.mV.en x4.2.2.aJJ.aJJ)/\s.h 800005=((s1.h 800005).1+1,oW 199 3 M.AP.en x4.2.2.aJD.aJe)/\s.h 900005=((s1.h 900005).1+1,oW 92 4 M.aI7.en x4.2.2.aJL)/\s.h 1000005=((s1.h 1000005).1+1,oW 205 5 M.aJC.en x4.2.2.aJK)/\s.h 7059000=(1,oB 304 [.old B0 (.sl (List.map enB p0.b)) (some u0),cI x4.1,cI x4.2.1])/\True) ?_ ?_
 ·and_intros<;>(try simp +decide only[LN,LI,F,reduceIte,Nat.reduceAdd,qB,qC,EN,M.aI3.en,M.mV.en,M.AP.en,M.bG.en,M.aJC.en,M.aI7.en,f2])
 rintro s6 f7
 obtain⟨aa,bh,h⟩:=bind_some h
 apply bJ
 ·simp +decide only[LN,LI,E,reduceIte,Nat.reduceAdd,Nat.reduceMul,qB,qC,L,ti4,D9,EN, *,-h]
  refine⟨_,c92.1 _ _ _ bh,?_⟩
  try simp +decide only[LN,LI,E,reduceIte,Nat.reduceAdd,Nat.reduceMul,qB,qC,L,ti4,D9,EN, *,-h]
  exact Is.mk _
 refine an (sq ?_)
 refine dR (J:=λs=>s.t 0=vP 7059000 1 0/\s.t 2=vP 2 ((s1.h 2).1+1) 0/\s.t 3=vP 3 ((s1.h 3).1+1) 0/\s.h 2=((s1.h 2).1+1,Q6)/\s.h 3=((s1.h 3).1+1,oB 58 [cI x4.2.2.Now,cB (!aa.2.2),cI x4.2.2.aJA,.row 400005 ((s1.h 400005).1+1),.row 500005 ((s1.h 500005).1+1),cI x4.2.2.aJG,.row 700005 ((s1.h 700005).1+1),.row 800005 ((s1.h 800005).1+1),.row 900005 ((s1.h 900005).1+1),.row 1000005 ((s1.h 1000005).1+1)])/\s.h 400005=((s1.h 400005).1+1,oW 126 24 M.aI3.en x4.2.2.aA.aI4)/\s.h 500005=((s1.h 500005).1+1,oW 67 11 M.bG.en x4.2.2.aJI)/\s.h 700005=((s1.h 700005).1+1,oW 196 4 M.mV.en x4.2.2.aJJ.aJJ)/\s.h 800005=((s1.h 800005).1+1,oW 199 3 M.AP.en x4.2.2.aJD.aJe)/\s.h 900005=((s1.h 900005).1+1,oW 92 4 M.aI7.en x4.2.2.aJL)/\s.h 1000005=((s1.h 1000005).1+1,oW 205 5 M.aJC.en x4.2.2.aJK)/\s.h 7059000=(1,oB 304 [.old B0 (.sl (List.map enB p0.b)) (some u0),cI aa.1,cI aa.2.1])/\True) ?_ ?_
 ·and_intros<;>(try simp +decide only[LN,LI,F,reduceIte,Nat.reduceAdd,qB,qC,EN,M.aI3.en,M.mV.en,M.AP.en,M.bG.en,M.aJC.en,M.aI7.en, *,-h])
 rintro av f22
 refine GS (Gho.ren_x (i:=3) (b:=3) (K:=7065003) (by first | (simp +decide only[LN,LI,F,reduceIte,Nat.reduceAdd,qB,qC,EN, *,-h];done)| (simp +decide only[LN,LI,F,reduceIte,Nat.reduceAdd,qB,qC,EN, *,-h];rfl)| rfl) (by first | (simp +decide only[LN,LI,F,reduceIte,Nat.reduceAdd,qB,qC,EN, *,-h];done)| (simp +decide only[LN,LI,F,reduceIte,Nat.reduceAdd,qB,qC,EN, *,-h];rfl)| rfl)) ?_
 refine dR (J:=λs=>s.h 7059000=av.h 7059000/\s.t 0=vP 7059000 1 0/\s.t 2=vP 2 ((s1.h 2).1+1) 0/\s.t 3=vP 7065003 ((av.h 7065003).1+1) 0/\s.h 2=((s1.h 2).1+1,Q6)/\s.h 400005=((s1.h 400005).1+1,oW 126 24 M.aI3.en x4.2.2.aA.aI4)/\s.h 500005=((s1.h 500005).1+1,oW 67 11 M.bG.en x4.2.2.aJI)/\s.h 700005=((s1.h 700005).1+1,oW 196 4 M.mV.en x4.2.2.aJJ.aJJ)/\s.h 800005=((s1.h 800005).1+1,oW 199 3 M.AP.en x4.2.2.aJD.aJe)/\s.h 900005=((s1.h 900005).1+1,oW 92 4 M.aI7.en x4.2.2.aJL)/\s.h 1000005=((s1.h 1000005).1+1,oW 205 5 M.aJC.en x4.2.2.aJK)/\s.h 7065003=((av.h 7065003).1+1,oB 58 [cI x4.2.2.Now,cB (!aa.2.2),cI x4.2.2.aJA,.row 400005 ((s1.h 400005).1+1),.row 500005 ((s1.h 500005).1+1),cI x4.2.2.aJG,.row 700005 ((s1.h 700005).1+1),.row 800005 ((s1.h 800005).1+1),.row 900005 ((s1.h 900005).1+1),.row 1000005 ((s1.h 1000005).1+1)])/\True) ?_ ?_
 ·and_intros<;>(try simp +decide only[LN,LI,F,reduceIte,Nat.reduceAdd,qB,qC,EN,M.aI3.en,M.mV.en,M.AP.en,M.bG.en,M.aJC.en,M.aI7.en, *,-h])
 rintro bu ⟨f45,f35⟩
 replace f45:=f45.trans f22.2.2.2.2.2.2.2.2.2.2.2.1
 apply UP (n:=2) (f:=237) (d:=12) (N':=47) (vars:=[.cell 4 58]) rfl rfl rfl rfl jE Tryz.func237 rfl rfl rfl jF jE
 ·simp +decide only[LN,LI,E,reduceIte,Nat.reduceAdd,Nat.reduceMul,qB,qC,L,D9,EN, *,-h];exact Is.mk _
 intro fv
 refine dR (J:=λs=>s.t 0=vP 7059000 1 0/\s.t 1 = .v true [.dat (.int .i64 x4.2.2.Now),.dat (.bool (!aa.2.2)),.dat (.int .i64 x4.2.2.aJA),.row 400005 ((s1.h 400005).1+1),.row 500005 ((s1.h 500005).1+1),.dat (.int .i64 x4.2.2.aJG),.row 700005 ((s1.h 700005).1+1),.row 800005 ((s1.h 800005).1+1),.row 900005 ((s1.h 900005).1+1),.row 1000005 ((s1.h 1000005).1+1)]/\s.fr 0=vP 7059000 1 0/\s.fr 2=vP 2 ((s1.h 2).1+1) 0/\s.h 2=((s1.h 2).1+1,Q6)/\s.h 400005=((s1.h 400005).1+1,oW 126 24 M.aI3.en x4.2.2.aA.aI4)/\s.h 500005=((s1.h 500005).1+1,oW 67 11 M.bG.en x4.2.2.aJI)/\s.h 700005=((s1.h 700005).1+1,oW 196 4 M.mV.en x4.2.2.aJJ.aJJ)/\s.h 800005=((s1.h 800005).1+1,oW 199 3 M.AP.en x4.2.2.aJD.aJe)/\s.h 900005=((s1.h 900005).1+1,oW 92 4 M.aI7.en x4.2.2.aJL)/\s.h 1000005=((s1.h 1000005).1+1,oW 205 5 M.aJC.en x4.2.2.aJK)/\s.h 7059000=(1,oB 304 [.old B0 (.sl (List.map enB p0.b)) (some u0),cI aa.1,cI aa.2.1])/\True) ?_ ?_
 ·and_intros<;>(try first | (simp +decide only[LN,LI,F,reduceIte,Nat.reduceAdd,qB,qC,EN,M.aI3.en,M.mV.en,M.AP.en,M.bG.en,M.aJC.en,M.aI7.en, *,-h];done)| (simp +decide only[LN,LI,F,reduceIte,Nat.reduceAdd,qB,qC,EN,M.aI3.en,M.mV.en,M.AP.en,M.bG.en,M.aJC.en,M.aI7.en, *,-h];rfl)| rfl)
 rintro aq f48
 refine sq ?_
 apply bJ
 ·simp +decide only[LN,LI,E,reduceIte,Nat.reduceAdd,Nat.reduceMul,qB,qC,L,D9,EN, *,-h];exact Is.mk _
 refine an (sq (sq ?_))
 obtain⟨aj,bj,h⟩:=bind_some h
 apply bJ
 ·simp +decide only[LN,LI,E,reduceIte,Nat.reduceAdd,Nat.reduceMul,qB,qC,L,EN, *,-h]
  refine⟨_,O4.1 _ _ _ bj,?_⟩
  try simp +decide only[LN,LI,E,reduceIte,Nat.reduceAdd,Nat.reduceMul,qB,qC,L,EN, *,-h]
  exact Is.mk _
 refine an (bk (sq ?_))
 refine dR (J:=λs=>s.t 0=vP 7059000 1 0/\s.t 3=vP 3 ((aq.h 3).1+1) 0/\s.t 4=vP 4 ((aq.h 4).1+1) 0/\s.t 6=vI aj.2.2/\s.fr 0=vP 7059000 1 0/\s.fr 2=vP 2 ((s1.h 2).1+1) 0/\s.h 2=((s1.h 2).1+1,Q6)/\s.h 3=((aq.h 3).1+1,oB 58 [cI x4.2.2.Now,cB (!aa.2.2),cI x4.2.2.aJA,.row 400005 ((s1.h 400005).1+1),.row 500005 ((s1.h 500005).1+1),cI x4.2.2.aJG,.row 700005 ((s1.h 700005).1+1),.row 800005 ((s1.h 800005).1+1),.row 900005 ((s1.h 900005).1+1),.row 1000005 ((s1.h 1000005).1+1)])/\s.h 4=((aq.h 4).1+1,Q6)/\s.h 400005=((s1.h 400005).1+1,oW 126 24 M.aI3.en x4.2.2.aA.aI4)/\s.h 500005=((s1.h 500005).1+1,oW 67 11 M.bG.en x4.2.2.aJI)/\s.h 700005=((s1.h 700005).1+1,oW 196 4 M.mV.en x4.2.2.aJJ.aJJ)/\s.h 800005=((s1.h 800005).1+1,oW 199 3 M.AP.en x4.2.2.aJD.aJe)/\s.h 900005=((s1.h 900005).1+1,oW 92 4 M.aI7.en x4.2.2.aJL)/\s.h 1000005=((s1.h 1000005).1+1,oW 205 5 M.aJC.en x4.2.2.aJK)/\s.h 7059000=(1,oB 304 [.old B0 (.sl (List.map enB p0.b)) (some u0),cI aj.1,cI aj.2.1])/\True) ?_ ?_
 ·and_intros<;>(try simp +decide only[LN,LI,F,reduceIte,Nat.reduceAdd,qB,qC,EN,M.aI3.en,M.mV.en,M.AP.en,M.bG.en,M.aJC.en,M.aI7.en, *,-h])
 rintro bg f63
 apply bJ
 ·simp +decide only[LN,LI,E,reduceIte,Nat.reduceAdd,Nat.reduceMul,qB,qC,L,EN, *,-h];exact Is.mk _
 refine an ?_
 rcases mT (aj.2.2==0)with ah | ah
 ·replace h:=bZ ah h
  refine CF (by simp +decide only[LN,LI,F,reduceIte,Nat.reduceAdd,qB,qC,EN, *,-h]) ?_
  obtain⟨bl,bm,h⟩:=bind_some h
  apply bJ
  ·simp +decide only[LN,LI,E,reduceIte,Nat.reduceAdd,Nat.reduceMul,qB,qC,L,ti3,aA7,D9,enI,EN, *,-h]
   have hc:=aA1.1 _ _ _ bm
   simp only[List.map_append,List.map_cons,List.map_nil,enI]at hc
   refine⟨_,hc,?_⟩
   try simp +decide only[LN,LI,E,reduceIte,Nat.reduceAdd,Nat.reduceMul,qB,qC,L,ti3,aA7,D9,enI,EN, *,-h]
   exact Is.mk _
  refine ab (an (sq ?_))
  apply bJ
  ·simp +decide only[LN,LI,E,reduceIte,Nat.reduceAdd,Nat.reduceMul,qB,qC,L,D9,EN, *,-h];exact Is.mk _
  refine an (rt ?_)
  apply UK.mk (l:=[(true,[.dat (.int .i64 bl.2.2),.dat (.bool (!aa.2.2)),.dat (.int .i64 x4.2.2.aJA),.row 400005 ((s1.h 400005).1+1),.row 500005 ((s1.h 500005).1+1),.dat (.int .i64 x4.2.2.aJG),.row 700005 ((s1.h 700005).1+1),.row 800005 ((s1.h 800005).1+1),.row 900005 ((s1.h 900005).1+1),.row 1000005 ((s1.h 1000005).1+1)])]) (by simp[LN,LI,D9,EN,f63,ah])
  ·simp +decide only[Mn,LN,LI,E,reduceIte,Nat.reduceAdd,Nat.reduceMul,qB,qC,L,D9,EN, *,-h];exact Is.mk _
  refine an (rt ?_)
  cases h
  simp[JO,Ret,LN,LI,TB,EN, *]
 replace h:=bY ah h
 refine Ev (by simp +decide only[LN,LI,F,reduceIte,Nat.reduceAdd,qB,qC,EN, *,-h]) ?_
 refine sq ?_
 apply bJ
 ·simp +decide only[LN,LI,E,reduceIte,Nat.reduceAdd,Nat.reduceMul,qB,qC,L,EN, *,-h];exact Is.mk _
 refine an ?_
 rcases mT (aj.2.2==1)with ak | ak
 ·replace h:=bZ ak h;refine CF (by simp +decide only[LN,LI,F,reduceIte,Nat.reduceAdd,qB,qC,EN, *,-h]) ?_;apply bJ;(simp +decide only[LN,LI,E,reduceIte,Nat.reduceAdd,Nat.reduceMul,qB,qC,L,ti3,D9,EN, *,-h];exact Is.mk _);refine ab (an (sq ?_));apply bJ;(simp +decide only[LN,LI,E,reduceIte,Nat.reduceAdd,Nat.reduceMul,qB,qC,L,D9,EN, *,-h];exact Is.mk _);refine an (rt ?_);apply UK.mk (l:=[(true,[.dat (.int .i64 x4.2.2.Now),.dat (.bool (!aa.2.2)),.dat (.int .i64 0),.row 400005 ((s1.h 400005).1+1),.row 500005 ((s1.h 500005).1+1),.dat (.int .i64 x4.2.2.aJG),.row 700005 ((s1.h 700005).1+1),.row 800005 ((s1.h 800005).1+1),.row 900005 ((s1.h 900005).1+1),.row 1000005 ((s1.h 1000005).1+1)])]) (by simp[LN,LI,D9,EN,f63,ah,ak]);(simp +decide only[Mn,LN,LI,E,reduceIte,Nat.reduceAdd,Nat.reduceMul,qB,qC,L,D9,EN, *,-h];exact Is.mk _);refine an (rt ?_);cases h;simp[JO,Ret,LN,LI,TB,EN, *]
 replace h:=bY ak h
 refine Ev (by simp +decide only[LN,LI,F,reduceIte,Nat.reduceAdd,qB,qC,EN, *,-h]) ?_
 refine sq ?_
 apply bJ
 ·simp +decide only[LN,LI,E,reduceIte,Nat.reduceAdd,Nat.reduceMul,qB,qC,L,EN, *,-h];exact Is.mk _
 refine an ?_
 rcases mT (aj.2.2==2)with al | al
 ·replace h:=bZ al h
  refine CF (by simp +decide only[LN,LI,F,reduceIte,Nat.reduceAdd,qB,qC,EN, *,-h]) ?_
  obtain⟨bw,ar,h⟩:=bind_some h
  apply bJ
  ·simp +decide only[LN,LI,E,reduceIte,Nat.reduceAdd,Nat.reduceMul,qB,qC,<-List.map_take,<-List.map_drop,L,aCs,D9,aDI,M.aI7.en,EN, *,-h]
   refine⟨by first | exact rU ar | exact(rU ar).2 | exact(rU ar).2.2,?_⟩
   try simp +decide only[LN,LI,E,reduceIte,Nat.reduceAdd,Nat.reduceMul,qB,qC,<-List.map_take,<-List.map_drop,L,aCs,D9,aDI,M.aI7.en,EN, *,-h]
   exact Is.mk _
  refine ab (an (sq ?_))
  apply bJ
  ·simp +decide only[LN,LI,E,reduceIte,Nat.reduceAdd,Nat.reduceMul,qB,qC,L,D9,EN, *,-h];exact Is.mk _
  refine an (rt ?_)
  apply UK.mk (l:=[(true,[.dat (.int .i64 x4.2.2.Now),.dat (.bool (!aa.2.2)),.dat (.int .i64 x4.2.2.aJA),.row 400005 ((s1.h 400005).1+1),.row 500005 ((s1.h 500005).1+1),.dat (.int .i64 x4.2.2.aJG),.row 700005 ((s1.h 700005).1+1),.row 800005 ((s1.h 800005).1+1),.part 900005 ((s1.h 900005).1+1) 0 (2:Int).toNat,.row 1000005 ((s1.h 1000005).1+1)])]) (by simp[LN,LI,D9,EN,f63,ah,ak,al])
  ·simp +decide only[Mn,LN,LI,E,reduceIte,Nat.reduceAdd,Nat.reduceMul,qB,qC,L,D9,EN, *,-h];exact Is.mk _
  refine an ?_
  refine GS (Gho.aAr (b:=2) (vb:=(s1.h 2).1+1) (t:=58) (cells:=[.dat (.int .i64 x4.2.2.Now),.dat (.bool (!aa.2.2)),.dat (.int .i64 x4.2.2.aJA),.row 400005 ((s1.h 400005).1+1),.row 500005 ((s1.h 500005).1+1),.dat (.int .i64 x4.2.2.aJG),.row 700005 ((s1.h 700005).1+1),.row 800005 ((s1.h 800005).1+1),.part 900005 ((s1.h 900005).1+1) 0 (2:Int).toNat,.row 1000005 ((s1.h 1000005).1+1)]) (c:=8) (j:=900005) (vj:=(s1.h 900005).1+1) (K:=900005) (n:=(2:Int).toNat) (e:=92) (sz:=4) (dp:=true) (xs:=List.map M.aI7.en x4.2.2.aJL) (List.map M.aI7.en (List.take (2:Int).toNat x4.2.2.aJL)) (by first | (simp +decide only[LN,LI,F,reduceIte,Nat.reduceAdd,qB,qC,EN,M.aI7.en, *,-h];done)| (simp +decide only[LN,LI,F,reduceIte,Nat.reduceAdd,qB,qC,EN,M.aI7.en, *,-h];rfl)| rfl) rfl (by first | (simp +decide only[LN,LI,F,reduceIte,Nat.reduceAdd,qB,qC,EN,M.aI7.en, *,-h];done)| (simp +decide only[LN,LI,F,reduceIte,Nat.reduceAdd,qB,qC,EN,M.aI7.en, *,-h];rfl)| rfl) jE (by rw[List.length_map];exact(rU ar).2) (by rw[List.map_take])) ?_
  refine dR (J:=λs=>s.h 7059000=bg.h 7059000/\s.t 0=vP 7059000 1 0/\s.t 2=vP 2 ((s1.h 2).1+1) 0/\s.h 2=((s1.h 2).1+1,oB 58 [cI x4.2.2.Now,cB (!aa.2.2),cI x4.2.2.aJA,.row 400005 ((s1.h 400005).1+1),.row 500005 ((s1.h 500005).1+1),cI x4.2.2.aJG,.row 700005 ((s1.h 700005).1+1),.row 800005 ((s1.h 800005).1+1),.row 900005 (((s1.h 900005).1+1)+1),.row 1000005 ((s1.h 1000005).1+1)])/\s.h 400005=((s1.h 400005).1+1,oW 126 24 M.aI3.en x4.2.2.aA.aI4)/\s.h 500005=((s1.h 500005).1+1,oW 67 11 M.bG.en x4.2.2.aJI)/\s.h 700005=((s1.h 700005).1+1,oW 196 4 M.mV.en x4.2.2.aJJ.aJJ)/\s.h 800005=((s1.h 800005).1+1,oW 199 3 M.AP.en x4.2.2.aJD.aJe)/\s.h 900005=(((s1.h 900005).1+1)+1,oW 92 4 M.aI7.en (List.take (2:Int).toNat x4.2.2.aJL))/\s.h 1000005=((s1.h 1000005).1+1,oW 205 5 M.aJC.en x4.2.2.aJK)/\True) ?_ ?_
  ·and_intros<;>(try simp +decide only[LN,LI,F,reduceIte,Nat.reduceAdd,qB,qC,EN,M.aI3.en,M.mV.en,M.AP.en,M.bG.en,M.aJC.en,M.aI7.en, *,-h])
  rintro bx ⟨f96,f87⟩
  replace f96:=f96.trans f63.2.2.2.2.2.2.2.2.2.2.2.2.2.2.2.1
  refine rt ?_
  cases h
  simp[JO,Ret,LN,LI,TB,EN, *]
 replace h:=bY al h
 refine Ev (by simp +decide only[LN,LI,F,reduceIte,Nat.reduceAdd,qB,qC,EN, *,-h]) ?_
 refine sq ?_
 apply bJ
 ·simp +decide only[LN,LI,E,reduceIte,Nat.reduceAdd,Nat.reduceMul,qB,qC,L,EN, *,-h];exact Is.mk _
 refine an ?_
 rcases mT (aj.2.2==3)with ao | ao
 ·replace h:=bZ ao h
  refine CF (by simp +decide only[LN,LI,F,reduceIte,Nat.reduceAdd,qB,qC,EN, *,-h]) ?_
  obtain⟨bz,bn,h⟩:=bind_some h
  apply bJ
  ·simp +decide only[LN,LI,E,reduceIte,Nat.reduceAdd,Nat.reduceMul,qB,qC,L,aCk,D9,EN, *,-h]
   refine⟨_,aIs _ _ bn,?_⟩
   try simp +decide only[LN,LI,E,reduceIte,Nat.reduceAdd,Nat.reduceMul,qB,qC,L,aCk,D9,EN, *,-h]
   exact Is.mk _
  refine ab (an (sq ?_))
  apply bJ
  ·simp +decide only[LN,LI,E,reduceIte,Nat.reduceAdd,Nat.reduceMul,qB,qC,L,D9,EN, *,-h];exact Is.mk _
  refine an (rt ?_)
  apply UK.mk (l:=[(true,[.dat (.int .i64 x4.2.2.Now),.dat (.bool (!aa.2.2)),.dat (.int .i64 x4.2.2.aJA),.row 100025 ((bg.h 100025).1+1),.row 500005 ((s1.h 500005).1+1),.dat (.int .i64 x4.2.2.aJG),.row 700005 ((s1.h 700005).1+1),.row 800005 ((s1.h 800005).1+1),.row 900005 ((s1.h 900005).1+1),.row 1000005 ((s1.h 1000005).1+1)])]) (by simp[LN,LI,D9,EN,f63,ah,ak,al,ao])
  ·simp +decide only[Mn,LN,LI,E,reduceIte,Nat.reduceAdd,Nat.reduceMul,qB,qC,L,D9,EN, *,-h];exact Is.mk _
  refine an (rt ?_)
  cases h
  simp[JO,Ret,LN,LI,TB,EN, *]
 replace h:=bY ao h
 refine Ev (by simp +decide only[LN,LI,F,reduceIte,Nat.reduceAdd,qB,qC,EN, *,-h]) ?_
 refine sq ?_
 apply bJ
 ·simp +decide only[LN,LI,E,reduceIte,Nat.reduceAdd,Nat.reduceMul,qB,qC,L,EN, *,-h];exact Is.mk _
 refine an ?_
 rcases mT (aj.2.2==4)with ae | ae
 ·replace h:=bZ ae h
  refine CF (by simp +decide only[LN,LI,F,reduceIte,Nat.reduceAdd,qB,qC,EN, *,-h]) ?_
  obtain⟨bo,aw,h⟩:=bind_some h
  obtain⟨bq,ax,h⟩:=bind_some h
  apply BH mixed
  ·simp +decide only[LN,LI,E,reduceIte,Nat.reduceAdd,Nat.reduceMul,qB,qC,L,Y7,D9,Za,M.bG.en,EN, *,-h]
   refine⟨_,aIW _ _ aw,?_⟩
   try simp +decide only[LN,LI,E,reduceIte,Nat.reduceAdd,Nat.reduceMul,qB,qC,L,Y7,D9,Za,M.bG.en,EN, *,-h]
   refine⟨by(have hb:=gO ax);simp[M.bG.en,qE,aO]at hb ⊢ <;> omega,?_⟩
   try simp +decide only[LN,LI,E,reduceIte,Nat.reduceAdd,Nat.reduceMul,qB,qC,L,Y7,D9,Za,M.bG.en,EN, *,-h]
   exact⟨.mk jF,Is.mk _⟩
  refine ab (an (sq ?_))
  apply bJ
  ·simp +decide only[LN,LI,E,reduceIte,Nat.reduceAdd,Nat.reduceMul,qB,qC,L,D9,EN, *,-h];exact Is.mk _
  refine an (rt ?_)
  apply UK.mk (l:=[(true,[.dat (.int .i64 x4.2.2.Now),.dat (.bool (!aa.2.2)),.dat (.int .i64 x4.2.2.aJA),.row 400005 ((s1.h 400005).1+1),.row 500005 (((s1.h 500005).1+1)+1),.dat (.int .i64 x4.2.2.aJG),.row 700005 ((s1.h 700005).1+1),.row 800005 ((s1.h 800005).1+1),.row 900005 ((s1.h 900005).1+1),.row 1000005 ((s1.h 1000005).1+1)])]) (by simp[LN,LI,D9,EN,f63,ah,ak,al,ao,ae])
  ·simp +decide only[Mn,LN,LI,E,reduceIte,Nat.reduceAdd,Nat.reduceMul,qB,qC,L,D9,EN, *,-h];exact Is.mk _
  refine an (rt ?_)
  cases h
  simp[JO,Ret,LN,LI,TB,EN, *]
 replace h:=bY ae h
 refine Ev (by simp +decide only[LN,LI,F,reduceIte,Nat.reduceAdd,qB,qC,EN, *,-h]) ?_
 refine sq ?_
 apply bJ
 ·simp +decide only[LN,LI,E,reduceIte,Nat.reduceAdd,Nat.reduceMul,qB,qC,L,EN, *,-h];exact Is.mk _
 refine an ?_
 rcases mT (aj.2.2==5)with af | af
 ·replace h:=bZ af h;refine CF (by simp +decide only[LN,LI,F,reduceIte,Nat.reduceAdd,qB,qC,EN, *,-h]) ?_;apply bJ;(simp +decide only[LN,LI,E,reduceIte,Nat.reduceAdd,Nat.reduceMul,qB,qC,L,ti3,D9,EN, *,-h];exact Is.mk _);refine ab (an (sq ?_));apply bJ;(simp +decide only[LN,LI,E,reduceIte,Nat.reduceAdd,Nat.reduceMul,qB,qC,L,D9,EN, *,-h];exact Is.mk _);refine an (rt ?_);apply UK.mk (l:=[(true,[.dat (.int .i64 x4.2.2.Now),.dat (.bool (!aa.2.2)),.dat (.int .i64 x4.2.2.aJA),.row 400005 ((s1.h 400005).1+1),.row 500005 ((s1.h 500005).1+1),.dat (.int .i64 0),.row 700005 ((s1.h 700005).1+1),.row 800005 ((s1.h 800005).1+1),.row 900005 ((s1.h 900005).1+1),.row 1000005 ((s1.h 1000005).1+1)])]) (by simp[LN,LI,D9,EN,f63,ah,ak,al,ao,ae,af]);(simp +decide only[Mn,LN,LI,E,reduceIte,Nat.reduceAdd,Nat.reduceMul,qB,qC,L,D9,EN, *,-h];exact Is.mk _);refine an (rt ?_);cases h;simp[JO,Ret,LN,LI,TB,EN, *]
 replace h:=bY af h
 refine Ev (by simp +decide only[LN,LI,F,reduceIte,Nat.reduceAdd,qB,qC,EN, *,-h]) ?_
 refine sq ?_
 apply bJ
 ·simp +decide only[LN,LI,E,reduceIte,Nat.reduceAdd,Nat.reduceMul,qB,qC,L,EN, *,-h];exact Is.mk _
 refine an ?_
 rcases C1 (aj.2.2==6)with ai | ai
 ·replace h:=bY ai h;refine Ev (by simp +decide only[LN,LI,F,reduceIte,Nat.reduceAdd,qB,qC,EN, *,-h]) ?_;refine sk (ab (an (sq ?_)));apply bJ;(simp +decide only[LN,LI,E,reduceIte,Nat.reduceAdd,Nat.reduceMul,qB,qC,L,D9,EN, *,-h];exact Is.mk _);refine an (rt ?_);apply UK.mk (l:=[(true,[.dat (.int .i64 x4.2.2.Now),.dat (.bool (!aa.2.2)),.dat (.int .i64 x4.2.2.aJA),.row 400005 ((s1.h 400005).1+1),.row 500005 ((s1.h 500005).1+1),.dat (.int .i64 x4.2.2.aJG),.row 700005 ((s1.h 700005).1+1),.row 800005 ((s1.h 800005).1+1),.row 900005 ((s1.h 900005).1+1),.row 1000005 ((s1.h 1000005).1+1)])]) (by simp[LN,LI,D9,EN,f63,ah,ak,al,ao,ae,af,ai]);(simp +decide only[Mn,LN,LI,E,reduceIte,Nat.reduceAdd,Nat.reduceMul,qB,qC,L,D9,EN, *,-h];exact Is.mk _);refine an (rt ?_);cases h;simp[JO,Ret,LN,LI,TB,EN, *]
 replace h:=bZ ai h
 refine CF (by simp +decide only[LN,LI,F,reduceIte,Nat.reduceAdd,qB,qC,EN, *,-h]) ?_
 obtain⟨br,ay,h⟩:=bind_some h
 obtain⟨bt,az,h⟩:=bind_some h
 obtain⟨ba,bd,bf⟩:=wM az
 apply BH mixed
 ·simp +decide only[LN,LI,E,reduceIte,Nat.reduceAdd,Nat.reduceMul,qB,qC,L,aCa,D9,ZS,M.aJC.en,EN, *,-h]
  refine⟨_,aIR _ _ ay,?_⟩
  try simp +decide only[LN,LI,E,reduceIte,Nat.reduceAdd,Nat.reduceMul,qB,qC,L,aCa,D9,ZS,M.aJC.en,EN, *,-h]
  exact⟨.mk jF,Is.mk _⟩
 refine ab (an (sq ?_))
 apply bJ
 ·simp +decide only[LN,LI,E,reduceIte,Nat.reduceAdd,Nat.reduceMul,qB,qC,L,D9,EN, *,-h];exact Is.mk _
 refine an (rt ?_)
 apply UK.mk (l:=[(true,[.dat (.int .i64 x4.2.2.Now),.dat (.bool (!aa.2.2)),.dat (.int .i64 x4.2.2.aJA),.row 400005 ((s1.h 400005).1+1),.row 500005 ((s1.h 500005).1+1),.dat (.int .i64 x4.2.2.aJG),.row 700005 ((s1.h 700005).1+1),.row 800005 ((s1.h 800005).1+1),.row 900005 ((s1.h 900005).1+1),.row 1000005 ((s1.h 1000005).1+1)])]) (by simp[LN,LI,D9,EN,f63,ah,ak,al,ao,ae,af,ai,ba,bd,bf])
 ·simp +decide only[Mn,LN,LI,E,reduceIte,Nat.reduceAdd,Nat.reduceMul,qB,qC,L,D9,EN, *,-h];exact Is.mk _
 refine an (rt ?_)
 cases h
 simp[JO,Ret,LN,LI,TB,EN, *]⟩
instance:bE 132 (∀p0 r (h:Bi p0=some r),Sc 132 [(false,[.ptr [.sl (List.map enB p0.b),.int .i64 p0.i,.int .i64 p0.h]])] [(false,[.edit (.lend 304 [.int .i64 r.1,.int .i64 r.2.1])]),(true,M.World.rs r.2.2.1),rS r.2.2.2.1,rS r.2.2.2.2]):=⟨λp0 r h=>by
 unfold Bi at h
 simp only[EN]
 refine sgB 42 [.cell 2 58,.tmp 3,.tmp 4] Tryz.func132 λbase wd B0 u0 hw0=> ?_
 refine dR (J:=λs=>s.t 0=vP 7059000 1 0/\s.h 7059000=(1,oB 304 [.old B0 (.sl (List.map enB p0.b)) (some u0),cI p0.i,cI p0.h])/\True) ?_ ?_
 ·and_intros<;>(try simp only[LN,List.map_cons,List.map_nil])<;>rfl
 rintro s1 f2
 exact sgX⟩
theorem c27(p0 r)(h:oD p0=some r):Sc 27 [aL enB p0] [(true,M.World.rs r.1),rS r.2.1,rS r.2.2]:=by unfold oD at h;exact sgo 13 [.cell 2 58,.tmp 3,.tmp 4] Tryz.func27
