/-
  Helper text. No conditions.
-/
import Derived.Test.YtblghjofnielnaaChannelsTi
import Derived.Test.YtblghjofnielnaaChannelsWspec0
import Derived.Test.YtblghjofnielnaaChannelsWspec1
namespace Go.Proofs.Ytblghjofnielnaa.gen
open Go Go.Sh
set_option linter.unusedVariables false
set_option linter.unusedSimpArgs false
set_option maxRecDepth 20000
set_option maxHeartbeats 4000000
theorem c14 (p0 r) (h:dV p0=some r):Sc 14 [(false,[.ptr [.sl (List.map enB p0.b),.int .i64 p0.i,.int .i64 p0.h]])] [(false,[.edit (.lend 60 [.int .i64 r.1,.int .i64 r.2.1])]),rW 38 11 M.aO.en r.2.2]:=by
 unfold dV at h
 simp only [EN]
 refine sgB 32 [.tmp 2] Try.func14 fun base wd B0 u0 hw0 => ?_
 refine gU (J:=fun s=>s.t 0=vP 7059000 1 0∧s.h 7059000=(1,oB 60 [.old B0 (.sl (List.map enB p0.b)) (some u0),cI p0.i,cI p0.h])∧True) ?_ ?_
 ·refine ⟨?_,?_,trivial⟩<;>(try simp only [LN,List.map_cons,List.map_nil])<;>rfl
 rintro s1 ⟨f2,f3,_⟩
 refine sq (rn ?_)
 refine an (sq (rn ?_))
 refine an (sq (sq ?_))
 refine cu (fun s=>s.t 0=vP 7059000 1 0∧s.t 3=vR 100006 ((s1.h 100006).1+1)∧s.h 100006=(((s1.h 100006).1+1),oW 38 11 M.aO.en ([]:List M.aO))∧s.h 7059000=(1,oB 60 [.old B0 (.sl (List.map enB p0.b)) (some u0),cI p0.i,cI p0.h])∧True) ?_
 rintro s4 ⟨f5,f6,f7,f8,_⟩
 obtain ⟨x9,h10,h⟩:=bind_some h
 refine rn1 (c15 _ _ _ h10) ?_
 refine an (bk ?_)
 refine cu (fun s=>s.t 0=vP 7059000 1 0∧s.t 3=vR 100006 ((s1.h 100006).1+1)∧s.t 4=vI x9.2.2∧s.h 100006=(((s1.h 100006).1+1),oW 38 11 M.aO.en ([]:List M.aO))∧s.h 7059000=(1,oB 60 [.old B0 (.sl (List.map enB p0.b)) (some u0),cI x9.1,cI x9.2.1])∧True) ?_
 rintro s11 ⟨f12,f13,f14,f15,f16,_⟩
 refine jI (fun m s=>∃v4:Int,∃r6:List M.aO,∃w7059000_1:Int,∃w7059000_2:Int,∃u6:Nat,s.t 0=vP 7059000 1 0∧s.t 3=vR 100006 u6∧s.t 4=vI v4∧s.h 100006=(u6,oW 38 11 M.aO.en r6)∧s.h 7059000=(1,oB 60 [.old B0 (.sl (List.map enB p0.b)) (some u0),cI w7059000_1,cI w7059000_2])∧bP p0 m v4 r6 w7059000_1 w7059000_2=some r) fuel ?_ ?_
 ·refine ⟨x9.2.2,([]:List M.aO),x9.1,x9.2.1,((s1.h 100006).1+1),?_,?_,?_,?_,?_,h⟩
  all_goals simp +decide only [F,reduceIte,Nat.reduceAdd,Bool.not_true,Bool.not_false,EN, *,-h]
 rintro mL1 s17 ⟨v4,r6,w7059000_1,w7059000_2,u6,f18,f19,f20,f21,f22,h⟩
 rcases mL1 with _ | mL1
 ·exact absurd h (by simp [bP])
 simp only [bP] at h
 refine sq (sq (rn ?_))
 refine an ?_
 rcases pB (decide (v4>0)) with b23 | b23
 ·replace h:=cO b23 h
  refine cf (xt (iR (iQ (mC (an (sq (rn ?_)))))))
  refine an (rt ?_)
  cases h
  simp [lA,Ret,TB,EN, *]
 replace h:=cP b23 h
 refine ct (sk (an (sq (bk (sq ?_)))))
 obtain ⟨x24,h25,h⟩:=bind_some h
 refine rn1 (c29 _ _ h25) ?_
 refine an (sq ?_)
 refine cu (fun s=>s.t 0=vP 7059000 1 0∧s.t 3=vR 100006 u6∧s.t 4=vI v4∧s.t 5=vP 5 ((s17.h 5).1+1) 0∧s.h 5=(((s17.h 5).1+1),oB 38 [cI x24.2.2.Id,cS x24.2.2.Site,cS x24.2.2.Top,cI x24.2.2.Version,.row 500014 ((s17.h 500014).1+1),.row 600014 ((s17.h 600014).1+1),cI x24.2.2.Machine.Pc,.row 800014 ((s17.h 800014).1+1),cI x24.2.2.Machine.Steps,cB x24.2.2.Machine.Done,cB x24.2.2.Machine.Wait])∧s.h 100006=(u6,oW 38 11 M.aO.en r6)∧s.h 500014=(((s17.h 500014).1+1),oW 81 2 M.aF.en x24.2.2.aF)∧s.h 600014=(((s17.h 600014).1+1),oW 77 4 M.Instr.en x24.2.2.Machine.Script)∧s.h 800014=(((s17.h 800014).1+1),oW 3 1 enI x24.2.2.Machine.Regs)∧s.h 7059000=(1,oB 60 [.old B0 (.sl (List.map enB p0.b)) (some u0),cI x24.1,cI x24.2.1])∧True) ?_
 rintro s26 ⟨f27,f28,f29,f30,f31,f32,f33,f34,f35,f36,_⟩
 refine rn ?_
 refine an (sq ?_)
 obtain ⟨x37,h38,h⟩:=bind_some h
 refine rn1 (c30 _ _ _ h38) ?_
 refine an (sq ?_)
 refine cu (fun s=>s.t 0=vP 7059000 1 0∧s.t 3=vR 100006 u6∧s.t 4=vI v4∧s.t 5=vP 5 ((s17.h 5).1+1) 0∧s.h 5=(((s17.h 5).1+1),oB 38 [cI (IntKind.i64.wrap ((List.length r6:Int)+1)),cS x37.2.2,cS x24.2.2.Top,cI x24.2.2.Version,.row 500014 ((s17.h 500014).1+1),.row 600014 ((s17.h 600014).1+1),cI x24.2.2.Machine.Pc,.row 800014 ((s17.h 800014).1+1),cI x24.2.2.Machine.Steps,cB x24.2.2.Machine.Done,cB x24.2.2.Machine.Wait])∧s.h 100006=(u6,oW 38 11 M.aO.en r6)∧s.h 500014=(((s17.h 500014).1+1),oW 81 2 M.aF.en x24.2.2.aF)∧s.h 600014=(((s17.h 600014).1+1),oW 77 4 M.Instr.en x24.2.2.Machine.Script)∧s.h 800014=(((s17.h 800014).1+1),oW 3 1 enI x24.2.2.Machine.Regs)∧s.h 7059000=(1,oB 60 [.old B0 (.sl (List.map enB p0.b)) (some u0),cI x37.1,cI x37.2.1])∧True) ?_
 rintro s39 ⟨f40,f41,f42,f43,f44,f45,f46,f47,f48,f49,_⟩
 obtain ⟨x50,h51,h⟩:=bind_some h
 refine rn1 (c30 _ _ _ h51) ?_
 refine an ?_
 refine cu (fun s=>s.t 0=vP 7059000 1 0∧s.t 3=vR 100006 u6∧s.t 4=vI v4∧s.t 5=vP 5 ((s17.h 5).1+1) 0∧s.h 5=(((s17.h 5).1+1),oB 38 [cI (IntKind.i64.wrap ((List.length r6:Int)+1)),cS x37.2.2,cS x50.2.2,cI x24.2.2.Version,.row 500014 ((s17.h 500014).1+1),.row 600014 ((s17.h 600014).1+1),cI x24.2.2.Machine.Pc,.row 800014 ((s17.h 800014).1+1),cI x24.2.2.Machine.Steps,cB x24.2.2.Machine.Done,cB x24.2.2.Machine.Wait])∧s.h 100006=(u6,oW 38 11 M.aO.en r6)∧s.h 500014=(((s17.h 500014).1+1),oW 81 2 M.aF.en x24.2.2.aF)∧s.h 600014=(((s17.h 600014).1+1),oW 77 4 M.Instr.en x24.2.2.Machine.Script)∧s.h 800014=(((s17.h 800014).1+1),oW 3 1 enI x24.2.2.Machine.Regs)∧s.h 7059000=(1,oB 60 [.old B0 (.sl (List.map enB p0.b)) (some u0),cI x50.1,cI x50.2.1])∧True) ?_
 rintro s52 ⟨f53,f54,f55,f56,f57,f58,f59,f60,f61,f62,_⟩
 obtain ⟨x63,h64,h⟩:=bind_some h
 refine rn1 h64 ?_
 refine ab (an ?_)
 refine cu (fun s=>s.t 0=vP 7059000 1 0∧s.t 3=vR 100006 (u6+1)∧s.t 4=vI v4∧s.h 100006=((u6+1),oW 38 11 M.aO.en (r6++[(⟨(IntKind.i64.wrap ((List.length r6:Int)+1)),x37.2.2,x50.2.2,x24.2.2.Version,x24.2.2.aF,x24.2.2.Machine⟩:M.aO)]))∧s.h 7059000=(1,oB 60 [.old B0 (.sl (List.map enB p0.b)) (some u0),cI x50.1,cI x50.2.1])∧True) ?_
 rintro s65 ⟨f66,f67,f68,f69,f70,_⟩
 refine rn ?_
 refine eP ⟨mL1,by omega,(IntKind.i64.wrap (v4-1)),(r6++[(⟨(IntKind.i64.wrap ((List.length r6:Int)+1)),x37.2.2,x50.2.2,x24.2.2.Version,x24.2.2.aF,x24.2.2.Machine⟩:M.aO)]),x50.1,x50.2.1,(u6+1),?_,?_,?_,?_,?_,h⟩
 all_goals simp +decide only [F,reduceIte,Nat.reduceAdd,Bool.not_true,Bool.not_false,EN, *,-h]
instance:gR 14 (type_of% @c14):=⟨@c14⟩
theorem c5 (p0 r) (h:cT p0=some r):Sc 5 [aL enB p0] [(true,M.Channel.rs r.1),rW 38 11 M.aO.en r.2.1,rI r.2.2.1,rI r.2.2.2]:=by
 unfold cT at h
 exact sgo 21 [.cell 2 26,.tmp 3,.tmp 4,.tmp 5] Try.func5
instance:gR 5 (type_of% @c5):=⟨@c5⟩
theorem c19 (p0 r) (h:fB p0=some r):Sc 19 [aX (M.Channel.en p0)] [(true,M.Channel.rs r)]:=by
 unfold fB at h
 exact sgo 8 [.cell 2 26] Try.func19
instance:gR 19 (type_of% @c19):=⟨@c19⟩
theorem c20 (p0 p1 r) (h:eW p0 p1=some r):Sc 20 [aL M.aO.en p0,aI p1] [rI r]:=by
 have i1:=inv fun m s=>∃v5:Int,(s.t 0=vL M.aO.en p0∧s.t 1=vI p1∧s.t 5=vI v5)∧cE p0 p1 m v5=some r
 have e1:=@cE.eq_2
 unfold eW at h
 exact sgo 20 [.tmp 4] Try.func20
instance:gR 20 (type_of% @c20):=⟨@c20⟩
theorem c21 (p0 p1 r) (h:fA p0 p1=some r):Sc 21 [aX (M.aO.en p0),aX (M.aO.en p1)] [rB r]:=by
 unfold fA at h
 exact sgo 24 [.tmp 4] Try.func21
instance:gR 21 (type_of% @c21):=⟨@c21⟩
theorem c22 (p0 p1 r) (h:eM p0 p1=some r):Sc 22 [aX (M.Channel.en p0),aI p1] [rW 40 3 M.bB.en r]:=by
 have i1:=inv fun m s=>∃v6:Int,∃r7:List M.bB,∃u7:Nat,(s.t 1=vI p1∧s.t 2=vP 2 1 0∧s.t 5=vR 100007 u7∧s.t 6=vI v6∧s.h 2=(1,oX 26 (M.Channel.en p0))∧s.h 100007=(u7,oW 40 3 M.bB.en r7))∧bN p0 p1 m v6 r7=some r
 have e1:=@bN.eq_2
 unfold eM at h
 exact sgo 32 [.tmp 4] Try.func22
instance:gR 22 (type_of% @c22):=⟨@c22⟩
theorem c7 (p0 p1 p2 p3 r) (h:eB p0 p1 p2 p3=some r):Sc 7 [aX (M.Channel.en p0),aL M.aO.en p1,aI p2,aI p3] [(true,M.Channel.rs r.1),rI r.2]:=by
 have i1:=fun (x3:Int)=>inv fun m s=>∃v12:Int,∃v13:Int,∃r15:List M.bB,∃u15:Nat,(s.t 1=vL M.aO.en p1∧s.t 2=vI p2∧s.t 3=vI p3∧s.t 8=vP 8 1 0∧s.t 10=vP 10 1 0∧s.t 11=vI x3∧s.t 12=vI v12∧s.t 13=vI v13∧s.h 8=(1,oB 26 [.nil])∧s.h 10=(1,oB 26 [.row 100015 u15])∧s.h 100015=(u15,oW 40 3 M.bB.en r15))∧aW p1 p2 p3 x3 m v12 v13 r15=some r
 have e1:=@aW.eq_2
 unfold eB at h
 exact sgo 65 [.cell 8 26,.tmp 9] Try.func7
instance:gR 7 (type_of% @c7):=⟨@c7⟩
end Go.Proofs.Ytblghjofnielnaa.gen
