/-
  Helper text. No conditions.
-/
import Derived.Test.YtbpbocchokbggaaGreatOpenedWspec8
set_option linter.all false
namespace Go.Sh
open Go.RowKit
section
variable {P : Program} {base N : Nat} {w0 : W0} {s : St}

theorem move_box {g : Gh} {a : Act} {w : World} {j K vj : Nat} {t : TypeId} {cells : List SC} (R : nI P base w0 N g s a w []) (h2 : s.h j = (vj, .box t cells)) :
    ∃ g', nI P base w0 N g' ((s.fP j (vj, .none)).fP K ((s.h K).1 + 1, .box t cells)) a w [] ∧
      ∀ v, Aw g s.h w (.bp j vj 0) v → Aw g' ((s.fP j (vj, .none)).fP K ((s.h K).1 + 1, .box t cells)).h w (.bp K ((s.h K).1 + 1) 0) v := by
  have hj1 : (s.h j).1 = vj := by rw [h2]
  have hj2 : (s.h j).2 = .box t cells := by rw [h2]
  have hob := R.inv.obj j
  rw [hj2] at hob
  obtain ⟨b, vals, p1, p2, p3, p4⟩ := hob
  have hlive : live s.h j := by unfold live; rw [hj2]; simp
  have I1 := R.inv.drop j
  rw [hj1] at I1
  have hfr : ∀ x, Bo (g.val j) = some x → Ex g (tR s.h j (vj, .none)) x := by
    intro x hx
    refine ⟨R.inv.mtb j x hlive hx, fun i hl hb' => ?_⟩
    obtain ⟨hne, hl⟩ := AN hl
    exact R.inv.inj i j x hne hl hlive hb' hx
  have T1 : lH g g s.h (tR s.h j (vj, .none)) w w := by have := lH.drop (g := g) (h := s.h) (w := w) j g.S fun _ x => x; rw [hj1] at this; exact this
  have hver : (tR s.h j (vj, .none) K).1 = (s.h K).1 := by
    by_cases hk : K = j
    · subst hk; rw [bM, hj1]
    · rw [fU _ _ _ _ hk]
  have T2 := lH.create (g := g) (h := tR s.h j (vj, .none)) (w := w) K (g.val j) [] (.box t cells)
  have I2 := I1.PE (i := K) (v := g.val j) (F := []) (o := .box t cells) (pool' := []) ⟨b, vals, by rw [show (MU g K (g.val j) []).val K = g.val j from dQ _ _ _]; exact p1, p2, p3, p4.turn (T1.trans T2)⟩ hfr (fun _ x => x) List.nodup_nil (by rintro ⟨_, _, _, h⟩; cases h)
  rw [hver] at I2 T2
  refine ⟨_, R.turn (T1.trans T2) rfl R.below I2, ?_⟩
  rintro v ⟨h0, _, hv⟩
  refine ⟨h0, ?_, ?_⟩
  · show _ ≤ (tR _ K _ K).1
    rw [bM]; exact Nat.le_refl _
  · intro _ t' cs' _
    obtain ⟨b0, e1, e2⟩ := hv hj1 t cells hj2
    exact ⟨b0, by show FH g.val K (g.val j) K = _; rw [dQ]; exact e1, e2⟩

theorem Gho.ren_x {i b K vb : Nat} {t : TypeId} {cells : List SC} (h1 : s.t i = .v false [.bp b vb 0]) (h2 : s.h b = (vb, .box t cells)) :
    Gho P base w0 N s (((s.fP b (vb, .none)).fP K ((s.h K).1 + 1, .box t cells)).GW i (.v false [.bp K ((s.h K).1 + 1) 0])) := by
  rintro a w ⟨g, R⟩
  have ht := R.tmp i
  rw [h1] at ht
  obtain ⟨g', R', hc⟩ := move_box (K := K) R h2
  exact ⟨g', OA R' ⟨_, [], rfl, hc _ (eD ht), rfl⟩⟩
end
end Go.Sh
namespace Go.Proofs.YtbpbocchokbggaaGreat.gen
open Go Go.Sh
set_option maxRecDepth 20000
set_option maxHeartbeats 4000000
theorem aGn(p0 r)(h:AG p0=some r):Sc 236 [(false,[.ptr [.sl (List.map enB p0.b),.int .i64 p0.i,.int .i64 p0.h]])] [(false,[.edit (.lend 304 [.int .i64 r.1,.int .i64 r.2.1])]),(true,M.World.rs r.2.2)]:=by
 unfold AG at h
 simp only[EN]
 refine sgB 68 [.cell 2 58] Tryz.func236 λbase wd j u0 hw0=> ?_
 refine eE (J:=λs=>s.t 0=vP 7059000 1 0/\s.h 7059000=(1,oB 304 [.old j (.sl (List.map enB p0.b)) (some u0),cI p0.i,cI p0.h])/\True) ?_ ?_
 ·and_intros<;>(try simp only[LN,List.map_cons,List.map_nil])<;>rfl
 rintro s1 f2
 have i1:=ES [.b 3 3 7050000 126 24,.b 3 4 7050001 67 11,.b 3 6 7050002 196 4,.b 3 7 7050003 199 3,.b 3 8 7050004 92 4,.b 3 9 7050005 205 5] λm s=>∃v4:Int,∃ay:Int,∃az:Bool,∃ba:Int,∃bd:Int,∃C:Int,∃I:Int,∃U:List M.aHD,∃ah:List M.bC,∃ai:List M.dO,∃aj:List M.mI,∃ak:List M.aHL,∃al:List M.aHO,∃ao:Nat,∃aq:Nat,∃ar:Nat,∃av:Nat,∃aw:Nat,∃ax:Nat,(s.t 0=vP 7059000 1 0/\s.t 2=vP 2 ((s1.h 2).1+1) 0/\s.t 3=vP 3 ((s1.h 3).1+1) 0/\s.t 4=vI v4/\s.h 2=((s1.h 2).1+1,My)/\s.h 3=((s1.h 3).1+1,oB 58 [cI ay,cB az,cI ba,.row 7050000 ao,.row 7050001 aq,cI bd,.row 7050002 ar,.row 7050003 av,.row 7050004 aw,.row 7050005 ax])/\s.h 7050000=(ao,oW 126 24 M.aHD.en U)/\s.h 7050001=(aq,oW 67 11 M.bC.en ah)/\s.h 7050002=(ar,oW 196 4 M.dO.en ai)/\s.h 7050003=(av,oW 199 3 M.mI.en aj)/\s.h 7050004=(aw,oW 92 4 M.aHL.en ak)/\s.h 7050005=(ax,oW 205 5 M.aHO.en al)/\s.h 7059000=(1,oB 304 [.old j (.sl (List.map enB p0.b)) (some u0),cI C,cI I]))/\fS p0 m v4 ay az ba bd C I U ah ai aj ak al=some r
 have e1:=@fS.eq_2
 exact sgX
instance:bK 549 (∀p0 r (h:Cl p0=some r),Sc 549 [(false,[.ptr [.sl (List.map enB p0.b),.int .i64 p0.i,.int .i64 p0.h]])] [(false,[.edit (.lend 304 [.int .i64 r.1,.int .i64 r.2.1])]),(true,M.bP.rs r.2.2)]):=⟨λp0 r h=>by
 unfold Cl at h
 simp only[EN]
 refine sgB 38 [.cell 2 114] Tryz.func549 λbase wd B0 u0 hw0=> ?_
 refine eE (J:=λs=>s.t 0=vP 7059000 1 0/\s.h 7059000=(1,oB 304 [.old B0 (.sl (List.map enB p0.b)) (some u0),cI p0.i,cI p0.h])/\True) ?_ ?_
 ·and_intros<;>(try simp only[LN,List.map_cons,List.map_nil])<;>rfl
 rintro s1 f2
 exact sgX⟩
instance:bK 471 (∀p0 r (h:Cp p0=some r),Sc 471 [(false,[.ptr [.sl (List.map enB p0.b),.int .i64 p0.i,.int .i64 p0.h]])] [(false,[.edit (.lend 304 [.int .i64 r.1,.int .i64 r.2.1])]),(true,M.aHD.rs r.2.2)]):=⟨λp0 r h=>by
 unfold Cp at h
 simp only[EN]
 refine sgB 50 [.cell 2 126] Tryz.func471 λbase wd B0 u0 hw0=> ?_
 refine eE (J:=λs=>s.t 0=vP 7059000 1 0/\s.h 7059000=(1,oB 304 [.old B0 (.sl (List.map enB p0.b)) (some u0),cI p0.i,cI p0.h])/\True) ?_ ?_
 ·and_intros<;>(try simp only[LN,List.map_cons,List.map_nil])<;>rfl
 rintro s1 f2
 have i1:=λ(x4:(Int×Int×M.aHD)) (ae:(Int×Int×Int)) (aa:St)=>inv λm s=>∃r5:List Int,∃u5:Nat,(s.h 2000005=aa.h 2000005/\s.h 7059000=aa.h 7059000/\s.t 0=vP 7059000 1 0/\s.t 2=vP 2 ((s1.h 2).1+1) 0/\s.t 3=vP 3 ((s1.h 3).1+1) 0/\s.h 2=((s1.h 2).1+1,GY)/\s.h 3=((s1.h 3).1+1,oB 126 [cS x4.2.2.aHL,cS x4.2.2.Top,cS x4.2.2.aG9.aHL,cI x4.2.2.aG9.aHf,cI x4.2.2.aG9.aHm,cI x4.2.2.aG9.aHp,.row 700005 ((s1.h 700005).1+1),cS x4.2.2.bP.aHa.Name,cI x4.2.2.bP.aHa.aHA,.row 1000005 ((s1.h 1000005).1+1),.row 1100005 ((s1.h 1100005).1+1),.row 1200005 u5,cI x4.2.2.bP.aHs,cS x4.2.2.aE.aHa.Name,.row 1500005 ((s1.h 1500005).1+1),cI x4.2.2.aE.aHa.aHg,cI x4.2.2.aE.aHw,cI x4.2.2.aE.aHY.aJ.aHI,cI x4.2.2.aE.aHY.aJ.aHj,.row 2000005 ((s1.h 2000005).1+1),cI x4.2.2.aE.aHY.aHr,cI x4.2.2.aE.aHY.aHe,cI x4.2.2.aHk,cB x4.2.2.aHh])/\s.h 700005=((s1.h 700005).1+1,oW 345 2 M.aHM.en x4.2.2.aHC.aHC)/\s.h 1000005=((s1.h 1000005).1+1,oW 117 3 M.aC.en x4.2.2.bP.aHa.aHP)/\s.h 1100005=((s1.h 1100005).1+1,oW 471 2 M.aN.en x4.2.2.bP.aHa.aHX)/\s.h 1200005=(u5,oW 5 1 enB r5)/\s.h 1500005=((s1.h 1500005).1+1,oW 260 4 M.aHV.en x4.2.2.aE.aHa.aHF))/\pE x4 ae m r5=some r
 have e1:=@pE.eq_2
 exact sgX⟩
theorem aG1(p0 r)(h:uT p0=some r):Sc 376 [(false,[.ptr [.sl (List.map enB p0.b),.int .i64 p0.i,.int .i64 p0.h]])] [(false,[.edit (.lend 304 [.int .i64 r.1,.int .i64 r.2.1])]),(true,M.aA.rs r.2.2)]:=by
 unfold uT at h
 simp only[EN]
 refine sgB 29 [.cell 2 47] Tryz.func376 λbase wd j u0 hw0=> ?_
 refine eE (J:=λs=>s.t 0=vP 7059000 1 0/\s.h 7059000=(1,oB 304 [.old j (.sl (List.map enB p0.b)) (some u0),cI p0.i,cI p0.h])/\True) ?_ ?_
 ·and_intros<;>(try simp only[LN,List.map_cons,List.map_nil])<;>rfl
 rintro s1 f2
 have i1:=ES [.b 3 0 7050000 126 24] λm s=>∃v4:Int,∃C:Int,∃I:Int,∃U:List M.aHD,∃ah:Nat,(s.t 0=vP 7059000 1 0/\s.t 2=vP 2 ((s1.h 2).1+1) 0/\s.t 3=vP 3 ((s1.h 3).1+1) 0/\s.t 4=vI v4/\s.h 2=((s1.h 2).1+1,oB 47 [.nil])/\s.h 3=((s1.h 3).1+1,oB 47 [.row 7050000 ah])/\s.h 7050000=(ah,oW 126 24 M.aHD.en U)/\s.h 7059000=(1,oB 304 [.old j (.sl (List.map enB p0.b)) (some u0),cI C,cI I]))/\kN p0 m v4 C I U=some r
 have e1:=@kN.eq_2
 exact sgX
instance:bK 90 (∀p0 r (h:Cu p0=some r),Sc 90 [(false,[.ptr [.sl (List.map enB p0.b),.int .i64 p0.i,.int .i64 p0.h]])] [(false,[.edit (.lend 304 [.int .i64 r.1,.int .i64 r.2.1])]),(true,M.World.rs r.2.2)]):=⟨λp0 r h=>by
 unfold Cu at h
 simp only[EN]
 refine sgB 13 [.cell 2 58] Tryz.func90 λbase wd B0 u0 hw0 => ?_
 refine eE (J:=λs=>s.t 0=vP 7059000 1 0/\s.h 7059000=(1,oB 304 [.old B0 (.sl (List.map enB p0.b)) (some u0),cI p0.i,cI p0.h])/\True) ?_ ?_
 ·and_intros<;>(try simp only[LN,List.map_cons,List.map_nil])<;>rfl
 rintro s1 f2
 refine sq ?_
 apply bE
 ·simp +decide only[LN,LI,E,reduceIte,Nat.reduceAdd,Nat.reduceMul,qB,qC,L,BM,EN,f2];exact Is.mk _
 refine an (sq ?_)
 obtain⟨x4,h5,h⟩:=bind_some h
 apply bE
 ·simp +decide only[LN,LI,E,reduceIte,Nat.reduceAdd,Nat.reduceMul,qB,qC,L,BM,EN,f2]
  refine⟨_,aGn _ _ h5,?_⟩
  try simp +decide only[LN,LI,E,reduceIte,Nat.reduceAdd,Nat.reduceMul,qB,qC,L,BM,EN,f2]
  exact Is.mk _
 refine an (sq ?_)
 refine eE (J:=λs=>s.t 0=vP 7059000 1 0/\s.t 2=vP 2 ((s1.h 2).1+1) 0/\s.t 3=vP 3 ((s1.h 3).1+1) 0/\s.h 2=((s1.h 2).1+1,My)/\s.h 3=((s1.h 3).1+1,oB 58 [cI x4.2.2.Now,cB x4.2.2.aHc,cI x4.2.2.aHI,.row 400005 ((s1.h 400005).1+1),.row 500005 ((s1.h 500005).1+1),cI x4.2.2.aHK,.row 700005 ((s1.h 700005).1+1),.row 800005 ((s1.h 800005).1+1),.row 900005 ((s1.h 900005).1+1),.row 1000005 ((s1.h 1000005).1+1)])/\s.h 400005=((s1.h 400005).1+1,oW 126 24 M.aHD.en x4.2.2.aA.aHE)/\s.h 500005=((s1.h 500005).1+1,oW 67 11 M.bC.en x4.2.2.aHQ)/\s.h 700005=((s1.h 700005).1+1,oW 196 4 M.dO.en x4.2.2.aHR.aHR)/\s.h 800005=((s1.h 800005).1+1,oW 199 3 M.mI.en x4.2.2.aHN.aHn)/\s.h 900005=((s1.h 900005).1+1,oW 92 4 M.aHL.en x4.2.2.aHZ)/\s.h 1000005=((s1.h 1000005).1+1,oW 205 5 M.aHO.en x4.2.2.aHT)/\s.h 7059000=(1,oB 304 [.old B0 (.sl (List.map enB p0.b)) (some u0),cI x4.1,cI x4.2.1])/\True) ?_ ?_
 ·and_intros<;>(try simp +decide only[LN,LI,F,reduceIte,Nat.reduceAdd,qB,qC,EN,M.aHD.en,M.dO.en,M.mI.en,M.bC.en,M.aHO.en,M.aHL.en,f2])
 rintro s6 f7
 obtain⟨aa,bh,h⟩:=bind_some h
 apply bE
 ·simp +decide only[LN,LI,E,reduceIte,Nat.reduceAdd,Nat.reduceMul,qB,qC,L,ti4,BM,EN, *,-h]
  refine⟨_,c92.1 _ _ _ bh,?_⟩
  try simp +decide only[LN,LI,E,reduceIte,Nat.reduceAdd,Nat.reduceMul,qB,qC,L,ti4,BM,EN, *,-h]
  exact Is.mk _
 refine an (sq ?_)
 refine eE (J:=λs=>s.t 0=vP 7059000 1 0/\s.t 2=vP 2 ((s1.h 2).1+1) 0/\s.t 3=vP 3 ((s1.h 3).1+1) 0/\s.h 2=((s1.h 2).1+1,My)/\s.h 3=((s1.h 3).1+1,oB 58 [cI x4.2.2.Now,cB (!aa.2.2),cI x4.2.2.aHI,.row 400005 ((s1.h 400005).1+1),.row 500005 ((s1.h 500005).1+1),cI x4.2.2.aHK,.row 700005 ((s1.h 700005).1+1),.row 800005 ((s1.h 800005).1+1),.row 900005 ((s1.h 900005).1+1),.row 1000005 ((s1.h 1000005).1+1)])/\s.h 400005=((s1.h 400005).1+1,oW 126 24 M.aHD.en x4.2.2.aA.aHE)/\s.h 500005=((s1.h 500005).1+1,oW 67 11 M.bC.en x4.2.2.aHQ)/\s.h 700005=((s1.h 700005).1+1,oW 196 4 M.dO.en x4.2.2.aHR.aHR)/\s.h 800005=((s1.h 800005).1+1,oW 199 3 M.mI.en x4.2.2.aHN.aHn)/\s.h 900005=((s1.h 900005).1+1,oW 92 4 M.aHL.en x4.2.2.aHZ)/\s.h 1000005=((s1.h 1000005).1+1,oW 205 5 M.aHO.en x4.2.2.aHT)/\s.h 7059000=(1,oB 304 [.old B0 (.sl (List.map enB p0.b)) (some u0),cI aa.1,cI aa.2.1])/\True) ?_ ?_
 ·and_intros<;>(try simp +decide only[LN,LI,F,reduceIte,Nat.reduceAdd,qB,qC,EN,M.aHD.en,M.dO.en,M.mI.en,M.bC.en,M.aHO.en,M.aHL.en, *,-h])
 rintro av f22
 refine G7 (Gho.ren_x (i:=3) (b:=3) (K:=7065003) (by first | (simp +decide only[LN,LI,F,reduceIte,Nat.reduceAdd,qB,qC,EN, *,-h];done)| (simp +decide only[LN,LI,F,reduceIte,Nat.reduceAdd,qB,qC,EN, *,-h];rfl)| rfl) (by first | (simp +decide only[LN,LI,F,reduceIte,Nat.reduceAdd,qB,qC,EN, *,-h];done)| (simp +decide only[LN,LI,F,reduceIte,Nat.reduceAdd,qB,qC,EN, *,-h];rfl)| rfl)) ?_
 refine eE (J:=λs=>s.h 7059000=av.h 7059000/\s.t 0=vP 7059000 1 0/\s.t 2=vP 2 ((s1.h 2).1+1) 0/\s.t 3=vP 7065003 ((av.h 7065003).1+1) 0/\s.h 2=((s1.h 2).1+1,My)/\s.h 400005=((s1.h 400005).1+1,oW 126 24 M.aHD.en x4.2.2.aA.aHE)/\s.h 500005=((s1.h 500005).1+1,oW 67 11 M.bC.en x4.2.2.aHQ)/\s.h 700005=((s1.h 700005).1+1,oW 196 4 M.dO.en x4.2.2.aHR.aHR)/\s.h 800005=((s1.h 800005).1+1,oW 199 3 M.mI.en x4.2.2.aHN.aHn)/\s.h 900005=((s1.h 900005).1+1,oW 92 4 M.aHL.en x4.2.2.aHZ)/\s.h 1000005=((s1.h 1000005).1+1,oW 205 5 M.aHO.en x4.2.2.aHT)/\s.h 7065003=((av.h 7065003).1+1,oB 58 [cI x4.2.2.Now,cB (!aa.2.2),cI x4.2.2.aHI,.row 400005 ((s1.h 400005).1+1),.row 500005 ((s1.h 500005).1+1),cI x4.2.2.aHK,.row 700005 ((s1.h 700005).1+1),.row 800005 ((s1.h 800005).1+1),.row 900005 ((s1.h 900005).1+1),.row 1000005 ((s1.h 1000005).1+1)])/\True) ?_ ?_
 ·and_intros<;>(try simp +decide only[LN,LI,F,reduceIte,Nat.reduceAdd,qB,qC,EN,M.aHD.en,M.dO.en,M.mI.en,M.bC.en,M.aHO.en,M.aHL.en, *,-h])
 rintro bu ⟨f45,f35⟩
 replace f45:=f45.trans f22.2.2.2.2.2.2.2.2.2.2.2.1
 apply TD (n:=2) (f:=237) (d:=12) (N':=47) (vars:=[.cell 4 58]) rfl rfl rfl rfl jI Tryz.func237 rfl rfl rfl jJ jI
 ·simp +decide only[LN,LI,E,reduceIte,Nat.reduceAdd,Nat.reduceMul,qB,qC,L,BM,EN, *,-h];exact Is.mk _
 intro fv
 refine eE (J:=λs=>s.t 0=vP 7059000 1 0/\s.t 1 = .v true [.dat (.int .i64 x4.2.2.Now),.dat (.bool (!aa.2.2)),.dat (.int .i64 x4.2.2.aHI),.row 400005 ((s1.h 400005).1+1),.row 500005 ((s1.h 500005).1+1),.dat (.int .i64 x4.2.2.aHK),.row 700005 ((s1.h 700005).1+1),.row 800005 ((s1.h 800005).1+1),.row 900005 ((s1.h 900005).1+1),.row 1000005 ((s1.h 1000005).1+1)]/\s.fr 0=vP 7059000 1 0/\s.fr 2=vP 2 ((s1.h 2).1+1) 0/\s.h 2=((s1.h 2).1+1,My)/\s.h 400005=((s1.h 400005).1+1,oW 126 24 M.aHD.en x4.2.2.aA.aHE)/\s.h 500005=((s1.h 500005).1+1,oW 67 11 M.bC.en x4.2.2.aHQ)/\s.h 700005=((s1.h 700005).1+1,oW 196 4 M.dO.en x4.2.2.aHR.aHR)/\s.h 800005=((s1.h 800005).1+1,oW 199 3 M.mI.en x4.2.2.aHN.aHn)/\s.h 900005=((s1.h 900005).1+1,oW 92 4 M.aHL.en x4.2.2.aHZ)/\s.h 1000005=((s1.h 1000005).1+1,oW 205 5 M.aHO.en x4.2.2.aHT)/\s.h 7059000=(1,oB 304 [.old B0 (.sl (List.map enB p0.b)) (some u0),cI aa.1,cI aa.2.1])/\True) ?_ ?_
 ·and_intros<;>(try first | (simp +decide only[LN,LI,F,reduceIte,Nat.reduceAdd,qB,qC,EN,M.aHD.en,M.dO.en,M.mI.en,M.bC.en,M.aHO.en,M.aHL.en, *,-h];done)| (simp +decide only[LN,LI,F,reduceIte,Nat.reduceAdd,qB,qC,EN,M.aHD.en,M.dO.en,M.mI.en,M.bC.en,M.aHO.en,M.aHL.en, *,-h];rfl)| rfl)
 rintro aq f48
 refine sq ?_
 apply bE
 ·simp +decide only[LN,LI,E,reduceIte,Nat.reduceAdd,Nat.reduceMul,qB,qC,L,BM,EN, *,-h];exact Is.mk _
 refine an (sq (sq ?_))
 obtain⟨aj,bj,h⟩:=bind_some h
 apply bE
 ·simp +decide only[LN,LI,E,reduceIte,Nat.reduceAdd,Nat.reduceMul,qB,qC,L,EN, *,-h]
  refine⟨_,Ob.1 _ _ _ bj,?_⟩
  try simp +decide only[LN,LI,E,reduceIte,Nat.reduceAdd,Nat.reduceMul,qB,qC,L,EN, *,-h]
  exact Is.mk _
 refine an (bk (sq ?_))
 refine eE (J:=λs=>s.t 0=vP 7059000 1 0/\s.t 3=vP 3 ((aq.h 3).1+1) 0/\s.t 4=vP 4 ((aq.h 4).1+1) 0/\s.t 6=vI aj.2.2/\s.fr 0=vP 7059000 1 0/\s.fr 2=vP 2 ((s1.h 2).1+1) 0/\s.h 2=((s1.h 2).1+1,My)/\s.h 3=((aq.h 3).1+1,oB 58 [cI x4.2.2.Now,cB (!aa.2.2),cI x4.2.2.aHI,.row 400005 ((s1.h 400005).1+1),.row 500005 ((s1.h 500005).1+1),cI x4.2.2.aHK,.row 700005 ((s1.h 700005).1+1),.row 800005 ((s1.h 800005).1+1),.row 900005 ((s1.h 900005).1+1),.row 1000005 ((s1.h 1000005).1+1)])/\s.h 4=((aq.h 4).1+1,My)/\s.h 400005=((s1.h 400005).1+1,oW 126 24 M.aHD.en x4.2.2.aA.aHE)/\s.h 500005=((s1.h 500005).1+1,oW 67 11 M.bC.en x4.2.2.aHQ)/\s.h 700005=((s1.h 700005).1+1,oW 196 4 M.dO.en x4.2.2.aHR.aHR)/\s.h 800005=((s1.h 800005).1+1,oW 199 3 M.mI.en x4.2.2.aHN.aHn)/\s.h 900005=((s1.h 900005).1+1,oW 92 4 M.aHL.en x4.2.2.aHZ)/\s.h 1000005=((s1.h 1000005).1+1,oW 205 5 M.aHO.en x4.2.2.aHT)/\s.h 7059000=(1,oB 304 [.old B0 (.sl (List.map enB p0.b)) (some u0),cI aj.1,cI aj.2.1])/\True) ?_ ?_
 ·and_intros<;>(try simp +decide only[LN,LI,F,reduceIte,Nat.reduceAdd,qB,qC,EN,M.aHD.en,M.dO.en,M.mI.en,M.bC.en,M.aHO.en,M.aHL.en, *,-h])
 rintro bg f63
 apply bE
 ·simp +decide only[LN,LI,E,reduceIte,Nat.reduceAdd,Nat.reduceMul,qB,qC,L,EN, *,-h];exact Is.mk _
 refine an ?_
 rcases dP (aj.2.2==0)with ah | ah
 ·replace h:=bG ah h
  refine CE (by simp +decide only[LN,LI,F,reduceIte,Nat.reduceAdd,qB,qC,EN, *,-h]) ?_
  obtain⟨bl,bm,h⟩:=bind_some h
  apply bE
  ·simp +decide only[LN,LI,E,reduceIte,Nat.reduceAdd,Nat.reduceMul,qB,qC,L,ti3,X9,BM,enI,EN, *,-h]
   have hc:=Zw.1 _ _ _ bm
   simp only[List.map_append,List.map_cons,List.map_nil,enI]at hc
   refine⟨_,hc,?_⟩
   try simp +decide only[LN,LI,E,reduceIte,Nat.reduceAdd,Nat.reduceMul,qB,qC,L,ti3,X9,BM,enI,EN, *,-h]
   exact Is.mk _
  refine ab (an (sq ?_))
  apply bE
  ·simp +decide only[LN,LI,E,reduceIte,Nat.reduceAdd,Nat.reduceMul,qB,qC,L,BM,EN, *,-h];exact Is.mk _
  refine an (rt ?_)
  apply Tx.mk (l:=[(true,[.dat (.int .i64 bl.2.2),.dat (.bool (!aa.2.2)),.dat (.int .i64 x4.2.2.aHI),.row 400005 ((s1.h 400005).1+1),.row 500005 ((s1.h 500005).1+1),.dat (.int .i64 x4.2.2.aHK),.row 700005 ((s1.h 700005).1+1),.row 800005 ((s1.h 800005).1+1),.row 900005 ((s1.h 900005).1+1),.row 1000005 ((s1.h 1000005).1+1)])]) (by simp[LN,LI,BM,EN,f63,ah])
  ·simp +decide only[Ly,LN,LI,E,reduceIte,Nat.reduceAdd,Nat.reduceMul,qB,qC,L,BM,EN, *,-h];exact Is.mk _
  refine an (rt ?_)
  cases h
  simp[I5,Ret,LN,LI,TB,EN, *]
 replace h:=bF ah h
 refine Dk (by simp +decide only[LN,LI,F,reduceIte,Nat.reduceAdd,qB,qC,EN, *,-h]) ?_
 refine sq ?_
 apply bE
 ·simp +decide only[LN,LI,E,reduceIte,Nat.reduceAdd,Nat.reduceMul,qB,qC,L,EN, *,-h];exact Is.mk _
 refine an ?_
 rcases dP (aj.2.2==1)with ak | ak
 ·replace h:=bG ak h;refine CE (by simp +decide only[LN,LI,F,reduceIte,Nat.reduceAdd,qB,qC,EN, *,-h]) ?_;apply bE;(simp +decide only[LN,LI,E,reduceIte,Nat.reduceAdd,Nat.reduceMul,qB,qC,L,ti3,BM,EN, *,-h];exact Is.mk _);refine ab (an (sq ?_));apply bE;(simp +decide only[LN,LI,E,reduceIte,Nat.reduceAdd,Nat.reduceMul,qB,qC,L,BM,EN, *,-h];exact Is.mk _);refine an (rt ?_);apply Tx.mk (l:=[(true,[.dat (.int .i64 x4.2.2.Now),.dat (.bool (!aa.2.2)),.dat (.int .i64 0),.row 400005 ((s1.h 400005).1+1),.row 500005 ((s1.h 500005).1+1),.dat (.int .i64 x4.2.2.aHK),.row 700005 ((s1.h 700005).1+1),.row 800005 ((s1.h 800005).1+1),.row 900005 ((s1.h 900005).1+1),.row 1000005 ((s1.h 1000005).1+1)])]) (by simp[LN,LI,BM,EN,f63,ah,ak]);(simp +decide only[Ly,LN,LI,E,reduceIte,Nat.reduceAdd,Nat.reduceMul,qB,qC,L,BM,EN, *,-h];exact Is.mk _);refine an (rt ?_);cases h;simp[I5,Ret,LN,LI,TB,EN, *]
 replace h:=bF ak h
 refine Dk (by simp +decide only[LN,LI,F,reduceIte,Nat.reduceAdd,qB,qC,EN, *,-h]) ?_
 refine sq ?_
 apply bE
 ·simp +decide only[LN,LI,E,reduceIte,Nat.reduceAdd,Nat.reduceMul,qB,qC,L,EN, *,-h];exact Is.mk _
 refine an ?_
 rcases dP (aj.2.2==2)with al | al
 ·replace h:=bG al h
  refine CE (by simp +decide only[LN,LI,F,reduceIte,Nat.reduceAdd,qB,qC,EN, *,-h]) ?_
  obtain⟨bw,ar,h⟩:=bind_some h
  apply bE
  ·simp +decide only[LN,LI,E,reduceIte,Nat.reduceAdd,Nat.reduceMul,qB,qC,<-List.map_take,<-List.map_drop,L,aBD,BM,aBg,M.aHL.en,EN, *,-h]
   refine⟨by first | exact rM ar | exact(rM ar).2 | exact(rM ar).2.2,?_⟩
   try simp +decide only[LN,LI,E,reduceIte,Nat.reduceAdd,Nat.reduceMul,qB,qC,<-List.map_take,<-List.map_drop,L,aBD,BM,aBg,M.aHL.en,EN, *,-h]
   exact Is.mk _
  refine ab (an (sq ?_))
  apply bE
  ·simp +decide only[LN,LI,E,reduceIte,Nat.reduceAdd,Nat.reduceMul,qB,qC,L,BM,EN, *,-h];exact Is.mk _
  refine an (rt ?_)
  apply Tx.mk (l:=[(true,[.dat (.int .i64 x4.2.2.Now),.dat (.bool (!aa.2.2)),.dat (.int .i64 x4.2.2.aHI),.row 400005 ((s1.h 400005).1+1),.row 500005 ((s1.h 500005).1+1),.dat (.int .i64 x4.2.2.aHK),.row 700005 ((s1.h 700005).1+1),.row 800005 ((s1.h 800005).1+1),.part 900005 ((s1.h 900005).1+1) 0 (2:Int).toNat,.row 1000005 ((s1.h 1000005).1+1)])]) (by simp[LN,LI,BM,EN,f63,ah,ak,al])
  ·simp +decide only[Ly,LN,LI,E,reduceIte,Nat.reduceAdd,Nat.reduceMul,qB,qC,L,BM,EN, *,-h];exact Is.mk _
  refine an ?_
  refine G7 (Gho.Zn (b:=2) (vb:=(s1.h 2).1+1) (t:=58) (cells:=[.dat (.int .i64 x4.2.2.Now),.dat (.bool (!aa.2.2)),.dat (.int .i64 x4.2.2.aHI),.row 400005 ((s1.h 400005).1+1),.row 500005 ((s1.h 500005).1+1),.dat (.int .i64 x4.2.2.aHK),.row 700005 ((s1.h 700005).1+1),.row 800005 ((s1.h 800005).1+1),.part 900005 ((s1.h 900005).1+1) 0 (2:Int).toNat,.row 1000005 ((s1.h 1000005).1+1)]) (c:=8) (j:=900005) (vj:=(s1.h 900005).1+1) (K:=900005) (n:=(2:Int).toNat) (e:=92) (sz:=4) (dp:=true) (xs:=List.map M.aHL.en x4.2.2.aHZ) (List.map M.aHL.en (List.take (2:Int).toNat x4.2.2.aHZ)) (by first | (simp +decide only[LN,LI,F,reduceIte,Nat.reduceAdd,qB,qC,EN,M.aHL.en, *,-h];done)| (simp +decide only[LN,LI,F,reduceIte,Nat.reduceAdd,qB,qC,EN,M.aHL.en, *,-h];rfl)| rfl) rfl (by first | (simp +decide only[LN,LI,F,reduceIte,Nat.reduceAdd,qB,qC,EN,M.aHL.en, *,-h];done)| (simp +decide only[LN,LI,F,reduceIte,Nat.reduceAdd,qB,qC,EN,M.aHL.en, *,-h];rfl)| rfl) jI (by rw[qU];exact(rM ar).2) (by rw[List.map_take])) ?_
  refine eE (J:=λs=>s.h 7059000=bg.h 7059000/\s.t 0=vP 7059000 1 0/\s.t 2=vP 2 ((s1.h 2).1+1) 0/\s.h 2=((s1.h 2).1+1,oB 58 [cI x4.2.2.Now,cB (!aa.2.2),cI x4.2.2.aHI,.row 400005 ((s1.h 400005).1+1),.row 500005 ((s1.h 500005).1+1),cI x4.2.2.aHK,.row 700005 ((s1.h 700005).1+1),.row 800005 ((s1.h 800005).1+1),.row 900005 (((s1.h 900005).1+1)+1),.row 1000005 ((s1.h 1000005).1+1)])/\s.h 400005=((s1.h 400005).1+1,oW 126 24 M.aHD.en x4.2.2.aA.aHE)/\s.h 500005=((s1.h 500005).1+1,oW 67 11 M.bC.en x4.2.2.aHQ)/\s.h 700005=((s1.h 700005).1+1,oW 196 4 M.dO.en x4.2.2.aHR.aHR)/\s.h 800005=((s1.h 800005).1+1,oW 199 3 M.mI.en x4.2.2.aHN.aHn)/\s.h 900005=(((s1.h 900005).1+1)+1,oW 92 4 M.aHL.en (List.take (2:Int).toNat x4.2.2.aHZ))/\s.h 1000005=((s1.h 1000005).1+1,oW 205 5 M.aHO.en x4.2.2.aHT)/\True) ?_ ?_
  ·and_intros<;>(try simp +decide only[LN,LI,F,reduceIte,Nat.reduceAdd,qB,qC,EN,M.aHD.en,M.dO.en,M.mI.en,M.bC.en,M.aHO.en,M.aHL.en, *,-h])
  rintro bx ⟨f96,f87⟩
  replace f96:=f96.trans f63.2.2.2.2.2.2.2.2.2.2.2.2.2.2.2.1
  refine rt ?_
  cases h
  simp[I5,Ret,LN,LI,TB,EN, *]
 replace h:=bF al h
 refine Dk (by simp +decide only[LN,LI,F,reduceIte,Nat.reduceAdd,qB,qC,EN, *,-h]) ?_
 refine sq ?_
 apply bE
 ·simp +decide only[LN,LI,E,reduceIte,Nat.reduceAdd,Nat.reduceMul,qB,qC,L,EN, *,-h];exact Is.mk _
 refine an ?_
 rcases dP (aj.2.2==3)with ao | ao
 ·replace h:=bG ao h
  refine CE (by simp +decide only[LN,LI,F,reduceIte,Nat.reduceAdd,qB,qC,EN, *,-h]) ?_
  obtain⟨bz,bn,h⟩:=bind_some h
  apply bE
  ·simp +decide only[LN,LI,E,reduceIte,Nat.reduceAdd,Nat.reduceMul,qB,qC,L,RL,BM,EN, *,-h]
   refine⟨_,aG1 _ _ bn,?_⟩
   try simp +decide only[LN,LI,E,reduceIte,Nat.reduceAdd,Nat.reduceMul,qB,qC,L,RL,BM,EN, *,-h]
   exact Is.mk _
  refine ab (an (sq ?_))
  apply bE
  ·simp +decide only[LN,LI,E,reduceIte,Nat.reduceAdd,Nat.reduceMul,qB,qC,L,BM,EN, *,-h];exact Is.mk _
  refine an (rt ?_)
  apply Tx.mk (l:=[(true,[.dat (.int .i64 x4.2.2.Now),.dat (.bool (!aa.2.2)),.dat (.int .i64 x4.2.2.aHI),.row 100025 ((bg.h 100025).1+1),.row 500005 ((s1.h 500005).1+1),.dat (.int .i64 x4.2.2.aHK),.row 700005 ((s1.h 700005).1+1),.row 800005 ((s1.h 800005).1+1),.row 900005 ((s1.h 900005).1+1),.row 1000005 ((s1.h 1000005).1+1)])]) (by simp[LN,LI,BM,EN,f63,ah,ak,al,ao])
  ·simp +decide only[Ly,LN,LI,E,reduceIte,Nat.reduceAdd,Nat.reduceMul,qB,qC,L,BM,EN, *,-h];exact Is.mk _
  refine an (rt ?_)
  cases h
  simp[I5,Ret,LN,LI,TB,EN, *]
 replace h:=bF ao h
 refine Dk (by simp +decide only[LN,LI,F,reduceIte,Nat.reduceAdd,qB,qC,EN, *,-h]) ?_
 refine sq ?_
 apply bE
 ·simp +decide only[LN,LI,E,reduceIte,Nat.reduceAdd,Nat.reduceMul,qB,qC,L,EN, *,-h];exact Is.mk _
 refine an ?_
 rcases dP (aj.2.2==4)with ae | ae
 ·replace h:=bG ae h
  refine CE (by simp +decide only[LN,LI,F,reduceIte,Nat.reduceAdd,qB,qC,EN, *,-h]) ?_
  obtain⟨bo,aw,h⟩:=bind_some h
  obtain⟨bq,ax,h⟩:=bind_some h
  apply BO mixed
  ·simp +decide only[LN,LI,E,reduceIte,Nat.reduceAdd,Nat.reduceMul,qB,qC,L,O2,BM,Tu,M.bC.en,EN, *,-h]
   refine⟨_,aGd _ _ aw,?_⟩
   try simp +decide only[LN,LI,E,reduceIte,Nat.reduceAdd,Nat.reduceMul,qB,qC,L,O2,BM,Tu,M.bC.en,EN, *,-h]
   refine⟨by(have hb:=gO ax);simp[M.bC.en,qE,aP]at hb ⊢ <;> omega,?_⟩
   try simp +decide only[LN,LI,E,reduceIte,Nat.reduceAdd,Nat.reduceMul,qB,qC,L,O2,BM,Tu,M.bC.en,EN, *,-h]
   exact⟨.mk jJ,Is.mk _⟩
  refine ab (an (sq ?_))
  apply bE
  ·simp +decide only[LN,LI,E,reduceIte,Nat.reduceAdd,Nat.reduceMul,qB,qC,L,BM,EN, *,-h];exact Is.mk _
  refine an (rt ?_)
  apply Tx.mk (l:=[(true,[.dat (.int .i64 x4.2.2.Now),.dat (.bool (!aa.2.2)),.dat (.int .i64 x4.2.2.aHI),.row 400005 ((s1.h 400005).1+1),.row 500005 (((s1.h 500005).1+1)+1),.dat (.int .i64 x4.2.2.aHK),.row 700005 ((s1.h 700005).1+1),.row 800005 ((s1.h 800005).1+1),.row 900005 ((s1.h 900005).1+1),.row 1000005 ((s1.h 1000005).1+1)])]) (by simp[LN,LI,BM,EN,f63,ah,ak,al,ao,ae])
  ·simp +decide only[Ly,LN,LI,E,reduceIte,Nat.reduceAdd,Nat.reduceMul,qB,qC,L,BM,EN, *,-h];exact Is.mk _
  refine an (rt ?_)
  cases h
  simp[I5,Ret,LN,LI,TB,EN, *]
 replace h:=bF ae h
 refine Dk (by simp +decide only[LN,LI,F,reduceIte,Nat.reduceAdd,qB,qC,EN, *,-h]) ?_
 refine sq ?_
 apply bE
 ·simp +decide only[LN,LI,E,reduceIte,Nat.reduceAdd,Nat.reduceMul,qB,qC,L,EN, *,-h];exact Is.mk _
 refine an ?_
 rcases dP (aj.2.2==5)with af | af
 ·replace h:=bG af h;refine CE (by simp +decide only[LN,LI,F,reduceIte,Nat.reduceAdd,qB,qC,EN, *,-h]) ?_;apply bE;(simp +decide only[LN,LI,E,reduceIte,Nat.reduceAdd,Nat.reduceMul,qB,qC,L,ti3,BM,EN, *,-h];exact Is.mk _);refine ab (an (sq ?_));apply bE;(simp +decide only[LN,LI,E,reduceIte,Nat.reduceAdd,Nat.reduceMul,qB,qC,L,BM,EN, *,-h];exact Is.mk _);refine an (rt ?_);apply Tx.mk (l:=[(true,[.dat (.int .i64 x4.2.2.Now),.dat (.bool (!aa.2.2)),.dat (.int .i64 x4.2.2.aHI),.row 400005 ((s1.h 400005).1+1),.row 500005 ((s1.h 500005).1+1),.dat (.int .i64 0),.row 700005 ((s1.h 700005).1+1),.row 800005 ((s1.h 800005).1+1),.row 900005 ((s1.h 900005).1+1),.row 1000005 ((s1.h 1000005).1+1)])]) (by simp[LN,LI,BM,EN,f63,ah,ak,al,ao,ae,af]);(simp +decide only[Ly,LN,LI,E,reduceIte,Nat.reduceAdd,Nat.reduceMul,qB,qC,L,BM,EN, *,-h];exact Is.mk _);refine an (rt ?_);cases h;simp[I5,Ret,LN,LI,TB,EN, *]
 replace h:=bF af h
 refine Dk (by simp +decide only[LN,LI,F,reduceIte,Nat.reduceAdd,qB,qC,EN, *,-h]) ?_
 refine sq ?_
 apply bE
 ·simp +decide only[LN,LI,E,reduceIte,Nat.reduceAdd,Nat.reduceMul,qB,qC,L,EN, *,-h];exact Is.mk _
 refine an ?_
 rcases Cw (aj.2.2==6)with ai | ai
 ·replace h:=bF ai h;refine Dk (by simp +decide only[LN,LI,F,reduceIte,Nat.reduceAdd,qB,qC,EN, *,-h]) ?_;refine sk (ab (an (sq ?_)));apply bE;(simp +decide only[LN,LI,E,reduceIte,Nat.reduceAdd,Nat.reduceMul,qB,qC,L,BM,EN, *,-h];exact Is.mk _);refine an (rt ?_);apply Tx.mk (l:=[(true,[.dat (.int .i64 x4.2.2.Now),.dat (.bool (!aa.2.2)),.dat (.int .i64 x4.2.2.aHI),.row 400005 ((s1.h 400005).1+1),.row 500005 ((s1.h 500005).1+1),.dat (.int .i64 x4.2.2.aHK),.row 700005 ((s1.h 700005).1+1),.row 800005 ((s1.h 800005).1+1),.row 900005 ((s1.h 900005).1+1),.row 1000005 ((s1.h 1000005).1+1)])]) (by simp[LN,LI,BM,EN,f63,ah,ak,al,ao,ae,af,ai]);(simp +decide only[Ly,LN,LI,E,reduceIte,Nat.reduceAdd,Nat.reduceMul,qB,qC,L,BM,EN, *,-h];exact Is.mk _);refine an (rt ?_);cases h;simp[I5,Ret,LN,LI,TB,EN, *]
 replace h:=bG ai h
 refine CE (by simp +decide only[LN,LI,F,reduceIte,Nat.reduceAdd,qB,qC,EN, *,-h]) ?_
 obtain⟨br,ay,h⟩:=bind_some h
 obtain⟨bt,az,h⟩:=bind_some h
 obtain⟨ba,bd,bf⟩:=rR az
 apply BO mixed
 ·simp +decide only[LN,LI,E,reduceIte,Nat.reduceAdd,Nat.reduceMul,qB,qC,L,aAw,BM,Yu,M.aHO.en,EN, *,-h]
  refine⟨_,aGZ _ _ ay,?_⟩
  try simp +decide only[LN,LI,E,reduceIte,Nat.reduceAdd,Nat.reduceMul,qB,qC,L,aAw,BM,Yu,M.aHO.en,EN, *,-h]
  exact⟨.mk jJ,Is.mk _⟩
 refine ab (an (sq ?_))
 apply bE
 ·simp +decide only[LN,LI,E,reduceIte,Nat.reduceAdd,Nat.reduceMul,qB,qC,L,BM,EN, *,-h];exact Is.mk _
 refine an (rt ?_)
 apply Tx.mk (l:=[(true,[.dat (.int .i64 x4.2.2.Now),.dat (.bool (!aa.2.2)),.dat (.int .i64 x4.2.2.aHI),.row 400005 ((s1.h 400005).1+1),.row 500005 ((s1.h 500005).1+1),.dat (.int .i64 x4.2.2.aHK),.row 700005 ((s1.h 700005).1+1),.row 800005 ((s1.h 800005).1+1),.row 900005 ((s1.h 900005).1+1),.row 1000005 ((s1.h 1000005).1+1)])]) (by simp[LN,LI,BM,EN,f63,ah,ak,al,ao,ae,af,ai,ba,bd,bf])
 ·simp +decide only[Ly,LN,LI,E,reduceIte,Nat.reduceAdd,Nat.reduceMul,qB,qC,L,BM,EN, *,-h];exact Is.mk _
 refine an (rt ?_)
 cases h
 simp[I5,Ret,LN,LI,TB,EN, *]⟩
theorem zc20:type_of% (bK.pf (n:=20)):=bK.pf (n:=20)
theorem zc89:type_of% (bK.pf (n:=89)):=bK.pf (n:=89)
theorem zc90:type_of% (bK.pf (n:=90)):=bK.pf (n:=90)
theorem zc91:type_of% (bK.pf (n:=91)):=bK.pf (n:=91)
theorem zc92:type_of% (bK.pf (n:=92)):=bK.pf (n:=92)
theorem zc93:type_of% (bK.pf (n:=93)):=bK.pf (n:=93)
theorem c18 (p0 r) (h : vU p0 = some r) : Sc 18 [aL enB p0] [(true, M.World.rs r.1), rS r.2.1, rS r.2.2.1, rW 308 4 M.Instr.en r.2.2.2] := by
 unfold vU at h
 simp only [EN]
 refine sgn 38 [.cell 2 58, .tmp 3, .tmp 4, .tmp 5] Tryz.func18 λbase wd => ?_
 refine sq (rn ?_)
 refine an (sq ?_)
 obtain ⟨x1, h2, h⟩ := bind_some h
 refine rn1 (zc89 _ _ h2) ?_
 refine an (sq ?_)
 refine cu (λs => s.t 2 = vP 2 1 0 /\ s.t 6 = vP 12 1 0 /\ s.h 2 = (1, My) /\ s.h 12 = (1, oX 304 (M.aQ.en x1)) /\ True) ?_
 rintro s3 ⟨f4, f5, f6, f7, _⟩
 obtain ⟨x8, h9, h⟩ := bind_some h
 refine rn1 (zc90 _ _ h9) ?_
 refine an (sq ?_)
 refine cu (λs => s.t 2 = vP 2 1 0 /\ s.t 6 = vP 12 1 0 /\ s.t 7 = vP 7 ((s3.h 7).1 + 1) 0 /\ s.h 2 = (1, My) /\ s.h 7 = (((s3.h 7).1 + 1), oB 58 [cI x8.2.2.Now, cB x8.2.2.aHc, cI x8.2.2.aHI, .row 400014 ((s3.h 400014).1 + 1), .row 500014 ((s3.h 500014).1 + 1), cI x8.2.2.aHK, .row 700014 ((s3.h 700014).1 + 1), .row 800014 ((s3.h 800014).1 + 1), .row 900014 ((s3.h 900014).1 + 1), .row 1000014 ((s3.h 1000014).1 + 1)]) /\ s.h 12 = (1, oB 304 [cL enB x1.b, cI x8.1, cI x8.2.1]) /\ s.h 400014 = (((s3.h 400014).1 + 1), oW 126 24 M.aHD.en x8.2.2.aA.aHE) /\ s.h 500014 = (((s3.h 500014).1 + 1), oW 67 11 M.bC.en x8.2.2.aHQ) /\ s.h 700014 = (((s3.h 700014).1 + 1), oW 196 4 M.dO.en x8.2.2.aHR.aHR) /\ s.h 800014 = (((s3.h 800014).1 + 1), oW 199 3 M.mI.en x8.2.2.aHN.aHn) /\ s.h 900014 = (((s3.h 900014).1 + 1), oW 92 4 M.aHL.en x8.2.2.aHZ) /\ s.h 1000014 = (((s3.h 1000014).1 + 1), oW 205 5 M.aHO.en x8.2.2.aHT) /\ True) ?_
 rintro s10 ⟨f11, f12, f13, f14, f15, f16, f17, f18, f19, f20, f21, f22, _⟩
 obtain ⟨x23, h24, h⟩ := bind_some h
 refine rn1 (zc91 _ _ _ h24) ?_
 refine an (sq ?_)
 refine cu (λs => s.t 2 = vP 2 1 0 /\ s.t 6 = vP 12 1 0 /\ s.t 7 = vP 7 ((s3.h 7).1 + 1) 0 /\ s.t 8 = vS x23.2.2 /\ s.h 2 = (1, My) /\ s.h 7 = (((s3.h 7).1 + 1), oB 58 [cI x8.2.2.Now, cB x8.2.2.aHc, cI x8.2.2.aHI, .row 400014 ((s3.h 400014).1 + 1), .row 500014 ((s3.h 500014).1 + 1), cI x8.2.2.aHK, .row 700014 ((s3.h 700014).1 + 1), .row 800014 ((s3.h 800014).1 + 1), .row 900014 ((s3.h 900014).1 + 1), .row 1000014 ((s3.h 1000014).1 + 1)]) /\ s.h 12 = (1, oB 304 [cL enB x1.b, cI x23.1, cI x23.2.1]) /\ s.h 400014 = (((s3.h 400014).1 + 1), oW 126 24 M.aHD.en x8.2.2.aA.aHE) /\ s.h 500014 = (((s3.h 500014).1 + 1), oW 67 11 M.bC.en x8.2.2.aHQ) /\ s.h 700014 = (((s3.h 700014).1 + 1), oW 196 4 M.dO.en x8.2.2.aHR.aHR) /\ s.h 800014 = (((s3.h 800014).1 + 1), oW 199 3 M.mI.en x8.2.2.aHN.aHn) /\ s.h 900014 = (((s3.h 900014).1 + 1), oW 92 4 M.aHL.en x8.2.2.aHZ) /\ s.h 1000014 = (((s3.h 1000014).1 + 1), oW 205 5 M.aHO.en x8.2.2.aHT) /\ True) ?_
 rintro s25 ⟨f26, f27, f28, f29, f30, f31, f32, f33, f34, f35, f36, f37, f38, _⟩
 obtain ⟨x39, h40, h⟩ := bind_some h
 refine rn1 (zc91 _ _ _ h40) ?_
 refine an (sq (sq ?_))
 refine cu (λs => s.t 2 = vP 2 1 0 /\ s.t 6 = vP 12 1 0 /\ s.t 7 = vP 7 ((s3.h 7).1 + 1) 0 /\ s.t 8 = vS x23.2.2 /\ s.t 9 = vS x39.2.2 /\ s.h 2 = (1, My) /\ s.h 7 = (((s3.h 7).1 + 1), oB 58 [cI x8.2.2.Now, cB x8.2.2.aHc, cI x8.2.2.aHI, .row 400014 ((s3.h 400014).1 + 1), .row 500014 ((s3.h 500014).1 + 1), cI x8.2.2.aHK, .row 700014 ((s3.h 700014).1 + 1), .row 800014 ((s3.h 800014).1 + 1), .row 900014 ((s3.h 900014).1 + 1), .row 1000014 ((s3.h 1000014).1 + 1)]) /\ s.h 12 = (1, oB 304 [cL enB x1.b, cI x39.1, cI x39.2.1]) /\ s.h 400014 = (((s3.h 400014).1 + 1), oW 126 24 M.aHD.en x8.2.2.aA.aHE) /\ s.h 500014 = (((s3.h 500014).1 + 1), oW 67 11 M.bC.en x8.2.2.aHQ) /\ s.h 700014 = (((s3.h 700014).1 + 1), oW 196 4 M.dO.en x8.2.2.aHR.aHR) /\ s.h 800014 = (((s3.h 800014).1 + 1), oW 199 3 M.mI.en x8.2.2.aHN.aHn) /\ s.h 900014 = (((s3.h 900014).1 + 1), oW 92 4 M.aHL.en x8.2.2.aHZ) /\ s.h 1000014 = (((s3.h 1000014).1 + 1), oW 205 5 M.aHO.en x8.2.2.aHT) /\ True) ?_
 rintro s41 ⟨f42, f43, f44, f45, f46, f47, f48, f49, f50, f51, f52, f53, f54, f55, _⟩
 obtain ⟨x56, h57, h⟩ := bind_some h
 refine rn1 (zc92 _ _ _ h57) ?_
 refine an ?_
 refine cu (λs => s.t 2 = vP 2 1 0 /\ s.t 6 = vP 12 1 0 /\ s.t 7 = vP 7 ((s3.h 7).1 + 1) 0 /\ s.t 8 = vS x23.2.2 /\ s.t 9 = vS x39.2.2 /\ s.t 22 = vB x56.2.2 /\ s.h 2 = (1, My) /\ s.h 7 = (((s3.h 7).1 + 1), oB 58 [cI x8.2.2.Now, cB x8.2.2.aHc, cI x8.2.2.aHI, .row 400014 ((s3.h 400014).1 + 1), .row 500014 ((s3.h 500014).1 + 1), cI x8.2.2.aHK, .row 700014 ((s3.h 700014).1 + 1), .row 800014 ((s3.h 800014).1 + 1), .row 900014 ((s3.h 900014).1 + 1), .row 1000014 ((s3.h 1000014).1 + 1)]) /\ s.h 12 = (1, oB 304 [cL enB x1.b, cI x56.1, cI x56.2.1]) /\ s.h 400014 = (((s3.h 400014).1 + 1), oW 126 24 M.aHD.en x8.2.2.aA.aHE) /\ s.h 500014 = (((s3.h 500014).1 + 1), oW 67 11 M.bC.en x8.2.2.aHQ) /\ s.h 700014 = (((s3.h 700014).1 + 1), oW 196 4 M.dO.en x8.2.2.aHR.aHR) /\ s.h 800014 = (((s3.h 800014).1 + 1), oW 199 3 M.mI.en x8.2.2.aHN.aHn) /\ s.h 900014 = (((s3.h 900014).1 + 1), oW 92 4 M.aHL.en x8.2.2.aHZ) /\ s.h 1000014 = (((s3.h 1000014).1 + 1), oW 205 5 M.aHO.en x8.2.2.aHT) /\ True) ?_
 rintro s58 ⟨f59, f60, f61, f62, f63, f64, f65, f66, f67, f68, f69, f70, f71, f72, f73, _⟩
 rcases Cw x56.2.2 with b74 | b74
 ·replace h := bF b74 h
  refine cf (sk (an (sq ?_)))
  obtain ⟨x96, h97, h⟩ := bind_some h
  refine rd1 mixed (zc93 _ _ h97) ?_
  refine an (rt ?_)
  cases h
  simp [Ret, TB, EN, *]
 replace h := bG b74 h
 refine ct (sq (rn ?_))
 refine an (bk ?_)
 refine G7 ((Gho.trans (Gho.trans (Gho.trans (Gho.trans (Gho.trans (ghB 7 3 7050000 400014) (ghB 7 4 7050001 500014)) (ghB 7 6 7050002 700014)) (ghB 7 7 7050003 800014)) (ghB 7 8 7050004 900014)) (ghB 7 9 7050005 1000014))) ?_
 refine GI (λm s => ∃ v10 : Int, ∃ w7_0 : Int, ∃ w7_1 : Bool, ∃ w7_2 : Int, ∃ w7_5 : Int, ∃ r50000 : List M.aHD, ∃ r50001 : List M.bC, ∃ r50002 : List M.dO, ∃ r50003 : List M.mI, ∃ r50004 : List M.aHL, ∃ r50005 : List M.aHO, ∃ u50000 : Nat, ∃ u50001 : Nat, ∃ u50002 : Nat, ∃ u50003 : Nat, ∃ u50004 : Nat, ∃ u50005 : Nat, s.t 2 = vP 2 1 0 /\ s.t 6 = vP 12 1 0 /\ s.t 7 = vP 7 ((s3.h 7).1 + 1) 0 /\ s.t 8 = vS x23.2.2 /\ s.t 9 = vS x39.2.2 /\ s.t 10 = vI v10 /\ s.h 2 = (1, My) /\ s.h 7 = (((s3.h 7).1 + 1), oB 58 [cI w7_0, cB w7_1, cI w7_2, .row 7050000 u50000, .row 7050001 u50001, cI w7_5, .row 7050002 u50002, .row 7050003 u50003, .row 7050004 u50004, .row 7050005 u50005]) /\ s.h 12 = (1, oB 304 [cL enB x1.b, cI x56.1, cI x56.2.1]) /\ s.h 7050000 = (u50000, oW 126 24 M.aHD.en r50000) /\ s.h 7050001 = (u50001, oW 67 11 M.bC.en r50001) /\ s.h 7050002 = (u50002, oW 196 4 M.dO.en r50002) /\ s.h 7050003 = (u50003, oW 199 3 M.mI.en r50003) /\ s.h 7050004 = (u50004, oW 92 4 M.aHL.en r50004) /\ s.h 7050005 = (u50005, oW 205 5 M.aHO.en r50005) /\ kY x1 x23 x39 x56 m v10 w7_0 w7_1 w7_2 w7_5 r50000 r50001 r50002 r50003 r50004 r50005 = some r) fuel ?_ ?_
 ·refine ⟨0, x8.2.2.Now, x8.2.2.aHc, x8.2.2.aHI, x8.2.2.aHK, x8.2.2.aA.aHE, x8.2.2.aHQ, x8.2.2.aHR.aHR, x8.2.2.aHN.aHn, x8.2.2.aHZ, x8.2.2.aHT, ((s58.h 7050000).1 + 1), ((s58.h 7050001).1 + 1), ((s58.h 7050002).1 + 1), ((s58.h 7050003).1 + 1), ((s58.h 7050004).1 + 1), ((s58.h 7050005).1 + 1), ?_, ?_, ?_, ?_, ?_, ?_, ?_, ?_, ?_, ?_, ?_, ?_, ?_, ?_, ?_, h⟩
  all_goals simp +decide only [F, reduceIte, Nat.reduceAdd, Bool.not_true, Bool.not_false, EN, *, -h]
 rintro mL1 s75 ⟨v10, w7_0, w7_1, w7_2, w7_5, r50000, r50001, r50002, r50003, r50004, r50005, u50000, u50001, u50002, u50003, u50004, u50005, f76, f77, f78, f79, f80, f81, f82, f83, f84, f85, f86, f87, f88, f89, f90, h⟩
 rcases mL1 with _ | mL1
 ·exact absurd h (by simp [kY])
 simp only [kY] at h
 refine sq (sq (rn ?_))
 refine an ?_
 rcases Cw (decide (v10 < 6)) with b91 | b91
 ·replace h := bF b91 h
  refine cf (xt (EP (EF (Js (an (sq ?_))))))
  obtain ⟨x94, h95, h⟩ := bind_some h
  refine rd1 mixed (zc93 _ _ h95) ?_
  refine an (rt ?_)
  cases h
  simp [Ret, TB, EN, *]
 replace h := bG b91 h
 refine ct (sk (an (sq (bk ?_))))
 obtain ⟨x92, h93, h⟩ := bind_some h
 refine rn1 (zc20 _ _ _ _ _ h93) ?_
 refine ab (an (rn ?_))
 refine dV ⟨_, (Gho.trans (Gho.trans (Gho.trans (Gho.trans (Gho.trans (ghB 7 3 7050000 400029) (ghB 7 4 7050001 500029)) (ghB 7 6 7050002 700029)) (ghB 7 7 7050003 800029)) (ghB 7 8 7050004 900029)) (ghB 7 9 7050005 1000029)), mL1, by omega, (IntKind.i64.wrap (v10 + 1)), x92.1.Now, x92.1.aHc, x92.1.aHI, x92.1.aHK, x92.1.aA.aHE, x92.1.aHQ, x92.1.aHR.aHR, x92.1.aHN.aHn, x92.1.aHZ, x92.1.aHT, (u50000 + 1), (u50001 + 1), (u50002 + 1), (u50003 + 1), (u50004 + 1), (u50005 + 1), ?_, ?_, ?_, ?_, ?_, ?_, ?_, ?_, ?_, ?_, ?_, ?_, ?_, ?_, ?_, h⟩
 all_goals simp +decide only [F, reduceIte, Nat.reduceAdd, Bool.not_true, Bool.not_false, EN, *, -h]
