/-
  Helper text. No conditions.
-/
import Derived.Test.YtblghjofnielnaaChannelsTi
import Derived.Test.YtblghjofnielnaaChannelsWspec0
namespace Go.Proofs.Ytblghjofnielnaa.gen
open Go Go.Sh
set_option linter.unusedVariables false
set_option linter.unusedSimpArgs false
set_option maxRecDepth 20000
set_option maxHeartbeats 4000000
theorem c48 (p0 p1 r) (h:dK p0 p1=some r):Sc 48 [aX (M.Instr.en p0),aI p1] [rB r]:=by
 unfold dK at h
 simp only [EN]
 refine sgn 74 [.tmp 4] Try.func48 fun base wd => ?_
 refine sq (rn ?_)
 refine an ?_
 obtain ⟨x1,h2,h⟩:=bind_some h
 refine kE (fun s=>s.t 1=vI p1∧s.t 2=vP 2 1 0∧s.t 5=vB x1∧s.h 2=(1,oX 77 (M.Instr.en p0))∧True) ?_ ?_
 ·replace h:=h2
  clear h2
  rcases fK (p0.Kind==5) with b8 | b8
  ·replace h:=cP b8 h
   refine rn ?_
   cases h
   refine eP ⟨?_,?_,?_,?_,trivial⟩<;>(try simp +decide only [F,reduceIte,Nat.reduceAdd,Bool.not_true,Bool.not_false,EN, *,-h])
  replace h:=cO b8 h
  obtain ⟨x9,h10,h⟩:=bind_some h
  refine rn1 (c45 _ _ _ _ h10) ?_
  cases h
  refine eP ⟨?_,?_,?_,?_,trivial⟩<;>(try simp +decide only [F,reduceIte,Nat.reduceAdd,Bool.not_true,Bool.not_false,EN, *,-h])
 clear h2
 rintro s3 ⟨f4,f5,f6,f7,_⟩
 refine sq (rn ?_)
 refine an ?_
 obtain ⟨x11,h12,h⟩:=bind_some h
 refine kE (fun s=>s.t 2=vP 2 1 0∧s.t 5=vB x1∧s.t 6=vI x11∧s.h 2=(1,oX 77 (M.Instr.en p0))∧True) ?_ ?_
 ·replace h:=h12
  clear h12
  refine sq (rn ?_)
  refine an (bk (sq (rn ?_)))
  refine an ?_
  rcases fK (p0.Kind==1) with b18 | b18
  ·replace h:=cP b18 h
   refine ct (rn ?_)
   refine ab ?_
   cases h
   refine eP ⟨?_,?_,?_,?_,trivial⟩<;>(try simp +decide only [F,reduceIte,Nat.reduceAdd,Bool.not_true,Bool.not_false,EN, *,-h])
  replace h:=cO b18 h
  refine cf (sq (rn ?_))
  refine an ?_
  rcases fK (p0.Kind==2) with b19 | b19
  ·replace h:=cP b19 h
   refine ct (rn ?_)
   refine ab ?_
   cases h
   refine eP ⟨?_,?_,?_,?_,trivial⟩<;>(try simp +decide only [F,reduceIte,Nat.reduceAdd,Bool.not_true,Bool.not_false,EN, *,-h])
  replace h:=cO b19 h
  refine cf ?_
  obtain ⟨x20,h21,h⟩:=bind_some h
  refine kE (fun s=>s.t 1=vI p1∧s.t 2=vP 2 1 0∧s.t 5=vB x1∧s.t 6=vI 0∧s.t 16=vI p0.Kind∧s.t 21=vB x20∧s.h 2=(1,oX 77 (M.Instr.en p0))∧True) ?_ ?_
  ·replace h:=h21
   clear h21
   refine sq (rn ?_)
   refine an ?_
   rcases fK (p0.Kind==3) with b30 | b30
   ·replace h:=cP b30 h
    refine ct (sk ?_)
    cases h
    refine eP ⟨?_,?_,?_,?_,?_,?_,?_,trivial⟩<;>(try simp +decide only [F,reduceIte,Nat.reduceAdd,Bool.not_true,Bool.not_false,EN, *,-h])
   replace h:=cO b30 h
   refine cf (rn ?_)
   cases h
   refine eP ⟨?_,?_,?_,?_,?_,?_,?_,trivial⟩<;>(try simp +decide only [F,reduceIte,Nat.reduceAdd,Bool.not_true,Bool.not_false,EN, *,-h])
  clear h21
  rintro s22 ⟨f23,f24,f25,f26,f27,f28,f29,_⟩
  rcases fK x20 with b31 | b31
  ·replace h:=cP b31 h
   refine ct (rn ?_)
   refine ab ?_
   cases h
   refine eP ⟨?_,?_,?_,?_,trivial⟩<;>(try simp +decide only [F,reduceIte,Nat.reduceAdd,Bool.not_true,Bool.not_false,EN, *,-h])
  replace h:=cO b31 h
  refine cf ?_
  obtain ⟨x32,h33,h⟩:=bind_some h
  refine kE (fun s=>s.t 2=vP 2 1 0∧s.t 5=vB x1∧s.t 6=vI 0∧s.t 25=vB x32∧s.h 2=(1,oX 77 (M.Instr.en p0))∧True) ?_ ?_
  ·replace h:=h33
   clear h33
   refine sq (rn ?_)
   refine an ?_
   rcases fK (p0.Kind==6) with b40 | b40
   ·replace h:=cP b40 h
    refine ct (sk ?_)
    cases h
    refine eP ⟨?_,?_,?_,?_,?_,trivial⟩<;>(try simp +decide only [F,reduceIte,Nat.reduceAdd,Bool.not_true,Bool.not_false,EN, *,-h])
   replace h:=cO b40 h
   refine cf (sq (rn ?_))
   refine an ?_
   rcases fK (p0.Kind==7) with b41 | b41
   ·replace h:=cP b41 h
    refine ct (sk ?_)
    cases h
    refine eP ⟨?_,?_,?_,?_,?_,trivial⟩<;>(try simp +decide only [F,reduceIte,Nat.reduceAdd,Bool.not_true,Bool.not_false,EN, *,-h])
   replace h:=cO b41 h
   refine cf (rn ?_)
   cases h
   refine eP ⟨?_,?_,?_,?_,?_,trivial⟩<;>(try simp +decide only [F,reduceIte,Nat.reduceAdd,Bool.not_true,Bool.not_false,EN, *,-h])
  clear h33
  rintro s34 ⟨f35,f36,f37,f38,f39,_⟩
  rcases pB x32 with b42 | b42
  ·replace h:=cO b42 h
   refine cf (sk (ab ?_))
   cases h
   refine eP ⟨?_,?_,?_,?_,trivial⟩<;>(try simp +decide only [F,reduceIte,Nat.reduceAdd,Bool.not_true,Bool.not_false,EN, *,-h])
  replace h:=cP b42 h
  refine ct (rn ?_)
  refine ab ?_
  cases h
  refine eP ⟨?_,?_,?_,?_,trivial⟩<;>(try simp +decide only [F,reduceIte,Nat.reduceAdd,Bool.not_true,Bool.not_false,EN, *,-h])
 clear h12
 rintro s13 ⟨f14,f15,f16,f17,_⟩
 refine sq ?_
 obtain ⟨x43,h44,h⟩:=bind_some h
 refine kE (fun s=>s.t 2=vP 2 1 0∧s.t 5=vB x1∧s.t 45=vB x43∧s.h 2=(1,oX 77 (M.Instr.en p0))∧True) ?_ ?_
 ·replace h:=h44
  clear h44
  obtain ⟨x50,h51,h⟩:=bind_some h
  rcases fK (!x50) with b52 | b52
  ·replace h:=cP b52 h
   refine rn1 (c45 _ _ _ _ h51) ?_
   cases h
   refine eP ⟨?_,?_,?_,?_,trivial⟩<;>(try simp +decide only [F,reduceIte,Nat.reduceAdd,Bool.not_true,Bool.not_false,EN, *,-h])
  replace h:=cO b52 h
  obtain ⟨x53,h54,h⟩:=bind_some h
  rcases fK (!x53) with b55 | b55
  ·replace h:=cP b55 h
   refine rn2 (c45 _ _ _ _ h51) (c45 _ _ _ _ h54) ?_
   cases h
   refine eP ⟨?_,?_,?_,?_,trivial⟩<;>(try simp +decide only [F,reduceIte,Nat.reduceAdd,Bool.not_true,Bool.not_false,EN, *,-h])
  replace h:=cO b55 h
  obtain ⟨x56,h57,h⟩:=bind_some h
  refine rn3 (c45 _ _ _ _ h51) (c45 _ _ _ _ h54) (c45 _ _ _ _ h57) ?_
  cases h
  refine eP ⟨?_,?_,?_,?_,trivial⟩<;>(try simp +decide only [F,reduceIte,Nat.reduceAdd,Bool.not_true,Bool.not_false,EN, *,-h])
 clear h44
 rintro s45 ⟨f46,f47,f48,f49,_⟩
 rcases fK x43 with b58 | b58
 ·replace h:=cP b58 h
  refine ct (sq (rn ?_))
  refine an (rt ?_)
  cases h
  simp [Ret,TB,EN, *]
 replace h:=cO b58 h
 refine cf (sk (an (sq ?_)))
 obtain ⟨x59,h60,h⟩:=bind_some h
 refine kE (fun s=>s.t 2=vP 2 1 0∧s.t 5=vB x1∧s.t 58=vB x59∧s.h 2=(1,oX 77 (M.Instr.en p0))∧True) ?_ ?_
 ·replace h:=h60
  clear h60
  rcases fK (p0.Kind==4) with b66 | b66
  ·replace h:=cP b66 h
   refine rn ?_
   cases h
   refine eP ⟨?_,?_,?_,?_,trivial⟩<;>(try simp +decide only [F,reduceIte,Nat.reduceAdd,Bool.not_true,Bool.not_false,EN, *,-h])
  replace h:=cO b66 h
  rcases fK (p0.Kind==9) with b67 | b67
  ·replace h:=cP b67 h
   refine rn ?_
   cases h
   refine eP ⟨?_,?_,?_,?_,trivial⟩<;>(try simp +decide only [F,reduceIte,Nat.reduceAdd,Bool.not_true,Bool.not_false,EN, *,-h])
  replace h:=cO b67 h
  refine rn ?_
  cases h
  refine eP ⟨?_,?_,?_,?_,trivial⟩<;>(try simp +decide only [F,reduceIte,Nat.reduceAdd,Bool.not_true,Bool.not_false,EN, *,-h])
 clear h60
 rintro s61 ⟨f62,f63,f64,f65,_⟩
 rcases fK x59 with b68 | b68
 ·replace h:=cP b68 h
  refine ct (sq (rn ?_))
  refine an (rt ?_)
  cases h
  simp [Ret,TB,EN, *]
 replace h:=cO b68 h
 refine cf (sk (an ?_))
 obtain ⟨x69,h70,h⟩:=bind_some h
 refine kE (fun s=>s.t 4=vB x69∧True) ?_ ?_
 ·replace h:=h70
  clear h70
  rcases pB x1 with b73 | b73
  ·replace h:=cO b73 h
   refine rn ?_
   cases h
   refine eP ⟨?_,trivial⟩<;>(try simp +decide only [F,reduceIte,Nat.reduceAdd,Bool.not_true,Bool.not_false,EN, *,-h])
  replace h:=cP b73 h
  obtain ⟨x74,h75,h⟩:=bind_some h
  rcases fK x74 with b76 | b76
  ·replace h:=cP b76 h
   refine rn1 (c44 _ _ h75) ?_
   cases h
   refine eP ⟨?_,trivial⟩<;>(try simp +decide only [F,reduceIte,Nat.reduceAdd,Bool.not_true,Bool.not_false,EN, *,-h])
  replace h:=cO b76 h
  refine rn1 (c44 _ _ h75) ?_
  cases h
  refine eP ⟨?_,trivial⟩<;>(try simp +decide only [F,reduceIte,Nat.reduceAdd,Bool.not_true,Bool.not_false,EN, *,-h])
 clear h70
 rintro s71 ⟨f72,_⟩
 refine rt ?_
 cases h
 simp [Ret,TB,EN, *]
instance:gR 48 (type_of% @c48):=⟨@c48⟩
theorem c42 (p0 r) (h:eJ p0=some r):Sc 42 [aL M.Instr.en p0] [rB r]:=by
 have i1:=inv fun m s=>∃v3:Int,(s.t 0=vL M.Instr.en p0∧s.t 3=vI v3)∧bV p0 m v3=some r
 have e1:=@bV.eq_2
 unfold eJ at h
 exact sgo 21 [.tmp 2] Try.func42
instance:gR 42 (type_of% @c42):=⟨@c42⟩
theorem c43 (p0 r) (h:dC p0=some r):Sc 43 [aL M.Instr.en p0] [rW 77 4 M.Instr.en r]:=by
 unfold dC at h
 exact sgo 6 [.tmp 2] Try.func43
instance:gR 43 (type_of% @c43):=⟨@c43⟩
theorem c38 (p0 r) (h:dR p0=some r):Sc 38 [aL M.Instr.en p0] [(true,M.Machine.rs r)]:=by
 unfold dR at h
 exact sgo 15 [.cell 2 36] Try.func38
instance:gR 38 (type_of% @c38):=⟨@c38⟩
theorem c39 (p0 r) (h:dI p0=some r):Sc 39 [aX (M.aO.en p0)] [rB r]:=by
 have i1:=inv fun m s=>∃v3:Int,(s.t 1=vP 1 1 0∧s.t 3=vI v3∧s.h 1=(1,oX 38 (M.aO.en p0)))∧cN p0 m v3=some r
 have e1:=@cN.eq_2
 unfold dI at h
 exact sgo 54 [.tmp 2] Try.func39
instance:gR 39 (type_of% @c39):=⟨@c39⟩
theorem c34 (p0 p1 p2 p3 p4 r) (h:cQ p0 p1 p2 p3 p4=some r):Sc 34 [aI p0,aS p1,aS p2,aI p3,aL M.Instr.en p4] [(true,M.aO.rs r.1),rB r.2]:=by
 unfold cQ at h
 exact sgo 25 [.cell 10 38,.tmp 11] Try.func34
instance:gR 34 (type_of% @c34):=⟨@c34⟩
theorem c37 (p0 r) (h:dM p0=some r):Sc 37 [(false,[.ptr [.sl (List.map enB p0.b),.int .i64 p0.i,.int .i64 p0.h]])] [(false,[.edit (.lend 60 [.int .i64 r.1,.int .i64 r.2.1])]),rS r.2.2]:=by
 unfold dM at h
 simp only [EN]
 refine sgB 6 [.tmp 2] Try.func37 fun base wd B0 u0 hw0 => ?_
 refine gU (J:=fun s=>s.t 0=vP 7059000 1 0∧s.h 7059000=(1,oB 60 [.old B0 (.sl (List.map enB p0.b)) (some u0),cI p0.i,cI p0.h])∧True) ?_ ?_
 ·refine ⟨?_,?_,trivial⟩<;>(try simp only [LN,List.map_cons,List.map_nil])<;>rfl
 rintro s1 ⟨f2,f3,_⟩
 refine sq (rn ?_)
 refine an (sq ?_)
 obtain ⟨x4,h5,h⟩:=bind_some h
 refine rn1 (c30 _ _ _ h5) ?_
 refine an (rt ?_)
 cases h
 simp [lA,Ret,TB,EN, *]
instance:gR 37 (type_of% @c37):=⟨@c37⟩
theorem c47 (p0 r) (h:fD p0=some r):Sc 47 [aX (M.Machine.en p0)] [(true,M.Machine.rs r)]:=by
 unfold fD at h
 exact sgo 15 [.cell 2 36] Try.func47
instance:gR 47 (type_of% @c47):=⟨@c47⟩
theorem c41 (p0 r) (h:cH p0=some r):Sc 41 [aX (M.aO.en p0)] [(true,M.aO.rs r)]:=by
 unfold cH at h
 exact sgo 15 [.cell 2 38] Try.func41
instance:gR 41 (type_of% @c41):=⟨@c41⟩
theorem c36 (p0 p1 p2 r) (h:cK p0 p1 p2=some r):Sc 36 [aX (M.aO.en p0),aS p1,aX (M.Response.en p2)] [(true,M.aO.rs r.1),rB r.2]:=by
 unfold cK at h
 exact sgo 43 [.cell 6 38,.tmp 7] Try.func36
instance:gR 36 (type_of% @c36):=⟨@c36⟩
theorem c29 (p0 r) (h:eV p0=some r):Sc 29 [(false,[.ptr [.sl (List.map enB p0.b),.int .i64 p0.i,.int .i64 p0.h]])] [(false,[.edit (.lend 60 [.int .i64 r.1,.int .i64 r.2.1])]),(true,M.aO.rs r.2.2)]:=by
 unfold eV at h
 simp only [EN]
 refine sgB 46 [.cell 2 38] Try.func29 fun base wd B0 u0 hw0 => ?_
 refine gU (J:=fun s=>s.t 0=vP 7059000 1 0∧s.h 7059000=(1,oB 60 [.old B0 (.sl (List.map enB p0.b)) (some u0),cI p0.i,cI p0.h])∧True) ?_ ?_
 ·refine ⟨?_,?_,trivial⟩<;>(try simp only [LN,List.map_cons,List.map_nil])<;>rfl
 rintro s1 ⟨f2,f3,_⟩
 refine sq (rn ?_)
 refine an (sq ?_)
 obtain ⟨x4,h5,h⟩:=bind_some h
 refine rn1 (c32 _ _ h5) ?_
 refine an (sq ?_)
 refine cu (fun s=>s.t 0=vP 7059000 1 0∧s.t 2=vP 2 ((s1.h 2).1+1) 0∧s.t 3=vS x4.2.2∧s.h 2=(((s1.h 2).1+1),oB 38 [cI 0,cS (⟨#[]⟩:ByteArray),cS (⟨#[]⟩:ByteArray),cI 0,.nil,.nil,cI 0,.nil,cI 0,cB false,cB false])∧s.h 7059000=(1,oB 60 [.old B0 (.sl (List.map enB p0.b)) (some u0),cI x4.1,cI x4.2.1])∧True) ?_
 rintro s6 ⟨f7,f8,f9,f10,f11,_⟩
 refine rn ?_
 refine an (sq (sq ?_))
 obtain ⟨x12,h13,h⟩:=bind_some h
 refine rn1 (c33 _ _ _ h13) ?_
 refine an ?_
 refine cu (fun s=>s.t 0=vP 7059000 1 0∧s.t 2=vP 2 ((s1.h 2).1+1) 0∧s.t 3=vS x4.2.2∧s.t 4=vS x4.2.2∧s.t 12=vB x12.2.2∧s.h 2=(((s1.h 2).1+1),oB 38 [cI 0,cS (⟨#[]⟩:ByteArray),cS (⟨#[]⟩:ByteArray),cI 0,.nil,.nil,cI 0,.nil,cI 0,cB false,cB false])∧s.h 7059000=(1,oB 60 [.old B0 (.sl (List.map enB p0.b)) (some u0),cI x12.1,cI x12.2.1])∧True) ?_
 rintro s14 ⟨f15,f16,f17,f18,f19,f20,f21,_⟩
 rcases pB x12.2.2 with b22 | b22
 ·replace h:=cO b22 h
  refine cf (sk (an (sq ?_)))
  obtain ⟨x90,h91,h⟩:=bind_some h
  obtain ⟨x92,h93,h⟩:=bind_some h
  obtain ⟨x94,h95,h⟩:=bind_some h
  obtain ⟨x96,h97,h⟩:=bind_some h
  refine rn4 (c15 _ _ _ h91) (c15 _ _ _ h93) (c35 _ _ h95) (c34 _ _ _ _ _ _ h97) ?_
  refine an (sq (sq ?_))
  refine cu (fun s=>s.t 0=vP 7059000 1 0∧s.t 2=vP 2 ((s1.h 2).1+1) 0∧s.t 5=vP 5 ((s14.h 5).1+1) 0∧s.h 2=(((s1.h 2).1+1),oB 38 [cI 0,cS (⟨#[]⟩:ByteArray),cS (⟨#[]⟩:ByteArray),cI 0,.nil,.nil,cI 0,.nil,cI 0,cB false,cB false])∧s.h 5=(((s14.h 5).1+1),oB 38 [cI x96.1.Id,cS x96.1.Site,cS x96.1.Top,cI x96.1.Version,.row 500026 ((s14.h 500026).1+1),.row 600026 ((s14.h 600026).1+1),cI x96.1.Machine.Pc,.row 800026 ((s14.h 800026).1+1),cI x96.1.Machine.Steps,cB x96.1.Machine.Done,cB x96.1.Machine.Wait])∧s.h 500026=(((s14.h 500026).1+1),oW 81 2 M.aF.en x96.1.aF)∧s.h 600026=(((s14.h 600026).1+1),oW 77 4 M.Instr.en x96.1.Machine.Script)∧s.h 800026=(((s14.h 800026).1+1),oW 3 1 enI x96.1.Machine.Regs)∧s.h 7059000=(1,oB 60 [.old B0 (.sl (List.map enB p0.b)) (some u0),cI x94.1,cI x94.2.1])∧True) ?_
  rintro s98 ⟨f99,f100,f101,f102,f103,f104,f105,f106,f107,_⟩
  obtain ⟨x108,h109,h⟩:=bind_some h
  refine rn1 (c15 _ _ _ h109) ?_
  refine an (bk ?_)
  refine cu (fun s=>s.t 0=vP 7059000 1 0∧s.t 2=vP 2 ((s1.h 2).1+1) 0∧s.t 5=vP 5 ((s14.h 5).1+1) 0∧s.t 7=vI x108.2.2∧s.h 2=(((s1.h 2).1+1),oB 38 [cI 0,cS (⟨#[]⟩:ByteArray),cS (⟨#[]⟩:ByteArray),cI 0,.nil,.nil,cI 0,.nil,cI 0,cB false,cB false])∧s.h 5=(((s14.h 5).1+1),oB 38 [cI x96.1.Id,cS x96.1.Site,cS x96.1.Top,cI x96.1.Version,.row 500026 ((s14.h 500026).1+1),.row 600026 ((s14.h 600026).1+1),cI x96.1.Machine.Pc,.row 800026 ((s14.h 800026).1+1),cI x96.1.Machine.Steps,cB x96.1.Machine.Done,cB x96.1.Machine.Wait])∧s.h 500026=(((s14.h 500026).1+1),oW 81 2 M.aF.en x96.1.aF)∧s.h 600026=(((s14.h 600026).1+1),oW 77 4 M.Instr.en x96.1.Machine.Script)∧s.h 800026=(((s14.h 800026).1+1),oW 3 1 enI x96.1.Machine.Regs)∧s.h 7059000=(1,oB 60 [.old B0 (.sl (List.map enB p0.b)) (some u0),cI x108.1,cI x108.2.1])∧True) ?_
  rintro s110 ⟨f111,f112,f113,f114,f115,f116,f117,f118,f119,f120,_⟩
  refine tZ ((Gho.trans (Gho.trans (Gho.kP (b:=5) (c:=4) (K:=7050000) (j:=500026) (by simp +decide only [F,reduceIte,Nat.reduceAdd,Bool.not_true,Bool.not_false,EN, *,-h];rfl) rfl (by simp +decide only [F,reduceIte,Nat.reduceAdd,Bool.not_true,Bool.not_false,EN, *,-h];rfl) (by decide)) (Gho.kP (b:=5) (c:=5) (K:=7050001) (j:=600026) (by simp +decide only [F,reduceIte,Nat.reduceAdd,Bool.not_true,Bool.not_false,EN, *,-h];rfl) rfl (by simp +decide only [F,reduceIte,Nat.reduceAdd,Bool.not_true,Bool.not_false,EN, *,-h];rfl) (by decide))) (Gho.kP (b:=5) (c:=7) (K:=7050002) (j:=800026) (by simp +decide only [F,reduceIte,Nat.reduceAdd,Bool.not_true,Bool.not_false,EN, *,-h];rfl) rfl (by simp +decide only [F,reduceIte,Nat.reduceAdd,Bool.not_true,Bool.not_false,EN, *,-h];rfl) (by decide)))) ?_
  refine mL (fun m s=>∃v7:Int,∃w5_0:Int,∃w5_1:ByteArray,∃w5_2:ByteArray,∃w5_3:Int,∃w5_6:Int,∃w5_8:Int,∃w5_9:Bool,∃w5_10:Bool,∃w7059000_1:Int,∃w7059000_2:Int,∃r50000:List M.aF,∃r50001:List M.Instr,∃r50002:List Int,∃u50000:Nat,∃u50001:Nat,∃u50002:Nat,s.t 0=vP 7059000 1 0∧s.t 2=vP 2 ((s1.h 2).1+1) 0∧s.t 5=vP 5 ((s14.h 5).1+1) 0∧s.t 7=vI v7∧s.h 2=(((s1.h 2).1+1),oB 38 [cI 0,cS (⟨#[]⟩:ByteArray),cS (⟨#[]⟩:ByteArray),cI 0,.nil,.nil,cI 0,.nil,cI 0,cB false,cB false])∧s.h 5=(((s14.h 5).1+1),oB 38 [cI w5_0,cS w5_1,cS w5_2,cI w5_3,.row 7050000 u50000,.row 7050001 u50001,cI w5_6,.row 7050002 u50002,cI w5_8,cB w5_9,cB w5_10])∧s.h 7050000=(u50000,oW 81 2 M.aF.en r50000)∧s.h 7050001=(u50001,oW 77 4 M.Instr.en r50001)∧s.h 7050002=(u50002,oW 3 1 enI r50002)∧s.h 7059000=(1,oB 60 [.old B0 (.sl (List.map enB p0.b)) (some u0),cI w7059000_1,cI w7059000_2])∧cF p0 m v7 w5_0 w5_1 w5_2 w5_3 w5_6 w5_8 w5_9 w5_10 w7059000_1 w7059000_2 r50000 r50001 r50002=some r) fuel ?_ ?_
  ·refine ⟨x108.2.2,x96.1.Id,x96.1.Site,x96.1.Top,x96.1.Version,x96.1.Machine.Pc,x96.1.Machine.Steps,x96.1.Machine.Done,x96.1.Machine.Wait,x108.1,x108.2.1,x96.1.aF,x96.1.Machine.Script,x96.1.Machine.Regs,((s110.h 7050000).1+1),((s110.h 7050001).1+1),((s110.h 7050002).1+1),?_,?_,?_,?_,?_,?_,?_,?_,?_,?_,h⟩
   all_goals simp +decide only [F,reduceIte,Nat.reduceAdd,Bool.not_true,Bool.not_false,EN, *,-h]
  rintro mL2 s121 ⟨v7,w5_0,w5_1,w5_2,w5_3,w5_6,w5_8,w5_9,w5_10,w7059000_1,w7059000_2,r50000,r50001,r50002,u50000,u50001,u50002,f122,f123,f124,f125,f126,f127,f128,f129,f130,f131,h⟩
  rcases mL2 with _ | mL2
  ·exact absurd h (by simp [cF])
  simp only [cF] at h
  refine sq (sq (rn ?_))
  refine an ?_
  rcases pB (decide (v7>0)) with b132 | b132
  ·replace h:=cO b132 h
   refine cf (xt (iR (iQ (mC (an (sq (rn ?_)))))))
   refine an (rt ?_)
   cases h
   simp [lA,Ret,TB,EN, *]
  replace h:=cP b132 h
  refine ct (sk (an (sq (bk ?_))))
  obtain ⟨x133,h134,h⟩:=bind_some h
  obtain ⟨x135,h136,h⟩:=bind_some h
  refine rd2 mixed (c37 _ _ h134) (c36 _ _ _ _ h136) ?_
  refine ab (an ?_)
  refine cu (fun s=>s.t 0=vP 7059000 1 0∧s.t 2=vP 2 ((s1.h 2).1+1) 0∧s.t 5=vP 5 ((s14.h 5).1+1) 0∧s.t 7=vI v7∧s.h 2=(((s1.h 2).1+1),oB 38 [cI 0,cS (⟨#[]⟩:ByteArray),cS (⟨#[]⟩:ByteArray),cI 0,.nil,.nil,cI 0,.nil,cI 0,cB false,cB false])∧s.h 5=(((s14.h 5).1+1),oB 38 [cI x135.1.Id,cS x135.1.Site,cS x135.1.Top,cI x135.1.Version,.row 500042 ((s121.h 500042).1+1),.row 600042 ((s121.h 600042).1+1),cI x135.1.Machine.Pc,.row 800042 ((s121.h 800042).1+1),cI x135.1.Machine.Steps,cB x135.1.Machine.Done,cB x135.1.Machine.Wait])∧s.h 500042=(((s121.h 500042).1+1),oW 81 2 M.aF.en x135.1.aF)∧s.h 600042=(((s121.h 600042).1+1),oW 77 4 M.Instr.en x135.1.Machine.Script)∧s.h 800042=(((s121.h 800042).1+1),oW 3 1 enI x135.1.Machine.Regs)∧s.h 7059000=(1,oB 60 [.old B0 (.sl (List.map enB p0.b)) (some u0),cI x133.1,cI x133.2.1])∧True) ?_
  rintro s137 ⟨f138,f139,f140,f141,f142,f143,f144,f145,f146,f147,_⟩
  refine rn ?_
  refine eP ⟨_,(Gho.trans (Gho.trans (Gho.kP (b:=5) (c:=4) (K:=7050000) (j:=500042) (by simp +decide only [F,reduceIte,Nat.reduceAdd,Bool.not_true,Bool.not_false,EN, *,-h];rfl) rfl (by simp +decide only [F,reduceIte,Nat.reduceAdd,Bool.not_true,Bool.not_false,EN, *,-h];rfl) (by decide)) (Gho.kP (b:=5) (c:=5) (K:=7050001) (j:=600042) (by simp +decide only [F,reduceIte,Nat.reduceAdd,Bool.not_true,Bool.not_false,EN, *,-h];rfl) rfl (by simp +decide only [F,reduceIte,Nat.reduceAdd,Bool.not_true,Bool.not_false,EN, *,-h];rfl) (by decide))) (Gho.kP (b:=5) (c:=7) (K:=7050002) (j:=800042) (by simp +decide only [F,reduceIte,Nat.reduceAdd,Bool.not_true,Bool.not_false,EN, *,-h];rfl) rfl (by simp +decide only [F,reduceIte,Nat.reduceAdd,Bool.not_true,Bool.not_false,EN, *,-h];rfl) (by decide))),mL2,by omega,(IntKind.i64.wrap (v7-1)),x135.1.Id,x135.1.Site,x135.1.Top,x135.1.Version,x135.1.Machine.Pc,x135.1.Machine.Steps,x135.1.Machine.Done,x135.1.Machine.Wait,x133.1,x133.2.1,x135.1.aF,x135.1.Machine.Script,x135.1.Machine.Regs,((s137.h 7050000).1+1),((s137.h 7050001).1+1),((s137.h 7050002).1+1),?_,?_,?_,?_,?_,?_,?_,?_,?_,?_,h⟩
  all_goals simp +decide only [F,reduceIte,Nat.reduceAdd,Bool.not_true,Bool.not_false,EN, *,-h]
 replace h:=cP b22 h
 refine ct ?_
 obtain ⟨x23,h24,h⟩:=bind_some h
 refine rn1 (c32 _ _ h24) ?_
 refine an (sq ?_)
 refine cu (fun s=>s.t 0=vP 7059000 1 0∧s.t 2=vP 2 ((s1.h 2).1+1) 0∧s.t 3=vS x4.2.2∧s.t 4=vS x23.2.2∧s.h 2=(((s1.h 2).1+1),oB 38 [cI 0,cS (⟨#[]⟩:ByteArray),cS (⟨#[]⟩:ByteArray),cI 0,.nil,.nil,cI 0,.nil,cI 0,cB false,cB false])∧s.h 7059000=(1,oB 60 [.old B0 (.sl (List.map enB p0.b)) (some u0),cI x23.1,cI x23.2.1])∧True) ?_
 rintro s25 ⟨f26,f27,f28,f29,f30,f31,_⟩
 obtain ⟨x32,h33,h⟩:=bind_some h
 obtain ⟨x34,h35,h⟩:=bind_some h
 obtain ⟨x36,h37,h⟩:=bind_some h
 obtain ⟨x38,h39,h⟩:=bind_some h
 refine rn4 (c15 _ _ _ h33) (c15 _ _ _ h35) (c35 _ _ h37) (c34 _ _ _ _ _ _ h39) ?_
 refine an (sq (sq ?_))
 refine cu (fun s=>s.t 0=vP 7059000 1 0∧s.t 2=vP 2 ((s1.h 2).1+1) 0∧s.t 5=vP 5 ((s25.h 5).1+1) 0∧s.h 2=(((s1.h 2).1+1),oB 38 [cI 0,cS (⟨#[]⟩:ByteArray),cS (⟨#[]⟩:ByteArray),cI 0,.nil,.nil,cI 0,.nil,cI 0,cB false,cB false])∧s.h 5=(((s25.h 5).1+1),oB 38 [cI x38.1.Id,cS x38.1.Site,cS x38.1.Top,cI x38.1.Version,.row 500026 ((s25.h 500026).1+1),.row 600026 ((s25.h 600026).1+1),cI x38.1.Machine.Pc,.row 800026 ((s25.h 800026).1+1),cI x38.1.Machine.Steps,cB x38.1.Machine.Done,cB x38.1.Machine.Wait])∧s.h 500026=(((s25.h 500026).1+1),oW 81 2 M.aF.en x38.1.aF)∧s.h 600026=(((s25.h 600026).1+1),oW 77 4 M.Instr.en x38.1.Machine.Script)∧s.h 800026=(((s25.h 800026).1+1),oW 3 1 enI x38.1.Machine.Regs)∧s.h 7059000=(1,oB 60 [.old B0 (.sl (List.map enB p0.b)) (some u0),cI x36.1,cI x36.2.1])∧True) ?_
 rintro s40 ⟨f41,f42,f43,f44,f45,f46,f47,f48,f49,_⟩
 obtain ⟨x50,h51,h⟩:=bind_some h
 refine rn1 (c15 _ _ _ h51) ?_
 refine an (bk ?_)
 refine cu (fun s=>s.t 0=vP 7059000 1 0∧s.t 2=vP 2 ((s1.h 2).1+1) 0∧s.t 5=vP 5 ((s25.h 5).1+1) 0∧s.t 7=vI x50.2.2∧s.h 2=(((s1.h 2).1+1),oB 38 [cI 0,cS (⟨#[]⟩:ByteArray),cS (⟨#[]⟩:ByteArray),cI 0,.nil,.nil,cI 0,.nil,cI 0,cB false,cB false])∧s.h 5=(((s25.h 5).1+1),oB 38 [cI x38.1.Id,cS x38.1.Site,cS x38.1.Top,cI x38.1.Version,.row 500026 ((s25.h 500026).1+1),.row 600026 ((s25.h 600026).1+1),cI x38.1.Machine.Pc,.row 800026 ((s25.h 800026).1+1),cI x38.1.Machine.Steps,cB x38.1.Machine.Done,cB x38.1.Machine.Wait])∧s.h 500026=(((s25.h 500026).1+1),oW 81 2 M.aF.en x38.1.aF)∧s.h 600026=(((s25.h 600026).1+1),oW 77 4 M.Instr.en x38.1.Machine.Script)∧s.h 800026=(((s25.h 800026).1+1),oW 3 1 enI x38.1.Machine.Regs)∧s.h 7059000=(1,oB 60 [.old B0 (.sl (List.map enB p0.b)) (some u0),cI x50.1,cI x50.2.1])∧True) ?_
 rintro s52 ⟨f53,f54,f55,f56,f57,f58,f59,f60,f61,f62,_⟩
 refine tZ ((Gho.trans (Gho.trans (Gho.kP (b:=5) (c:=4) (K:=7050000) (j:=500026) (by simp +decide only [F,reduceIte,Nat.reduceAdd,Bool.not_true,Bool.not_false,EN, *,-h];rfl) rfl (by simp +decide only [F,reduceIte,Nat.reduceAdd,Bool.not_true,Bool.not_false,EN, *,-h];rfl) (by decide)) (Gho.kP (b:=5) (c:=5) (K:=7050001) (j:=600026) (by simp +decide only [F,reduceIte,Nat.reduceAdd,Bool.not_true,Bool.not_false,EN, *,-h];rfl) rfl (by simp +decide only [F,reduceIte,Nat.reduceAdd,Bool.not_true,Bool.not_false,EN, *,-h];rfl) (by decide))) (Gho.kP (b:=5) (c:=7) (K:=7050002) (j:=800026) (by simp +decide only [F,reduceIte,Nat.reduceAdd,Bool.not_true,Bool.not_false,EN, *,-h];rfl) rfl (by simp +decide only [F,reduceIte,Nat.reduceAdd,Bool.not_true,Bool.not_false,EN, *,-h];rfl) (by decide)))) ?_
 refine mL (fun m s=>∃v7:Int,∃w5_0:Int,∃w5_1:ByteArray,∃w5_2:ByteArray,∃w5_3:Int,∃w5_6:Int,∃w5_8:Int,∃w5_9:Bool,∃w5_10:Bool,∃w7059000_1:Int,∃w7059000_2:Int,∃r50000:List M.aF,∃r50001:List M.Instr,∃r50002:List Int,∃u50000:Nat,∃u50001:Nat,∃u50002:Nat,s.t 0=vP 7059000 1 0∧s.t 2=vP 2 ((s1.h 2).1+1) 0∧s.t 5=vP 5 ((s25.h 5).1+1) 0∧s.t 7=vI v7∧s.h 2=(((s1.h 2).1+1),oB 38 [cI 0,cS (⟨#[]⟩:ByteArray),cS (⟨#[]⟩:ByteArray),cI 0,.nil,.nil,cI 0,.nil,cI 0,cB false,cB false])∧s.h 5=(((s25.h 5).1+1),oB 38 [cI w5_0,cS w5_1,cS w5_2,cI w5_3,.row 7050000 u50000,.row 7050001 u50001,cI w5_6,.row 7050002 u50002,cI w5_8,cB w5_9,cB w5_10])∧s.h 7050000=(u50000,oW 81 2 M.aF.en r50000)∧s.h 7050001=(u50001,oW 77 4 M.Instr.en r50001)∧s.h 7050002=(u50002,oW 3 1 enI r50002)∧s.h 7059000=(1,oB 60 [.old B0 (.sl (List.map enB p0.b)) (some u0),cI w7059000_1,cI w7059000_2])∧cG p0 m v7 w5_0 w5_1 w5_2 w5_3 w5_6 w5_8 w5_9 w5_10 w7059000_1 w7059000_2 r50000 r50001 r50002=some r) fuel ?_ ?_
 ·refine ⟨x50.2.2,x38.1.Id,x38.1.Site,x38.1.Top,x38.1.Version,x38.1.Machine.Pc,x38.1.Machine.Steps,x38.1.Machine.Done,x38.1.Machine.Wait,x50.1,x50.2.1,x38.1.aF,x38.1.Machine.Script,x38.1.Machine.Regs,((s52.h 7050000).1+1),((s52.h 7050001).1+1),((s52.h 7050002).1+1),?_,?_,?_,?_,?_,?_,?_,?_,?_,?_,h⟩
  all_goals simp +decide only [F,reduceIte,Nat.reduceAdd,Bool.not_true,Bool.not_false,EN, *,-h]
 rintro mL1 s63 ⟨v7,w5_0,w5_1,w5_2,w5_3,w5_6,w5_8,w5_9,w5_10,w7059000_1,w7059000_2,r50000,r50001,r50002,u50000,u50001,u50002,f64,f65,f66,f67,f68,f69,f70,f71,f72,f73,h⟩
 rcases mL1 with _ | mL1
 ·exact absurd h (by simp [cG])
 simp only [cG] at h
 refine sq (sq (rn ?_))
 refine an ?_
 rcases pB (decide (v7>0)) with b74 | b74
 ·replace h:=cO b74 h
  refine cf (xt (iR (iQ (mC (an (sq (rn ?_)))))))
  refine an (rt ?_)
  cases h
  simp [lA,Ret,TB,EN, *]
 replace h:=cP b74 h
 refine ct (sk (an (sq (bk ?_))))
 obtain ⟨x75,h76,h⟩:=bind_some h
 obtain ⟨x77,h78,h⟩:=bind_some h
 refine rd2 mixed (c37 _ _ h76) (c36 _ _ _ _ h78) ?_
 refine ab (an ?_)
 refine cu (fun s=>s.t 0=vP 7059000 1 0∧s.t 2=vP 2 ((s1.h 2).1+1) 0∧s.t 5=vP 5 ((s25.h 5).1+1) 0∧s.t 7=vI v7∧s.h 2=(((s1.h 2).1+1),oB 38 [cI 0,cS (⟨#[]⟩:ByteArray),cS (⟨#[]⟩:ByteArray),cI 0,.nil,.nil,cI 0,.nil,cI 0,cB false,cB false])∧s.h 5=(((s25.h 5).1+1),oB 38 [cI x77.1.Id,cS x77.1.Site,cS x77.1.Top,cI x77.1.Version,.row 500042 ((s63.h 500042).1+1),.row 600042 ((s63.h 600042).1+1),cI x77.1.Machine.Pc,.row 800042 ((s63.h 800042).1+1),cI x77.1.Machine.Steps,cB x77.1.Machine.Done,cB x77.1.Machine.Wait])∧s.h 500042=(((s63.h 500042).1+1),oW 81 2 M.aF.en x77.1.aF)∧s.h 600042=(((s63.h 600042).1+1),oW 77 4 M.Instr.en x77.1.Machine.Script)∧s.h 800042=(((s63.h 800042).1+1),oW 3 1 enI x77.1.Machine.Regs)∧s.h 7059000=(1,oB 60 [.old B0 (.sl (List.map enB p0.b)) (some u0),cI x75.1,cI x75.2.1])∧True) ?_
 rintro s79 ⟨f80,f81,f82,f83,f84,f85,f86,f87,f88,f89,_⟩
 refine rn ?_
 refine eP ⟨_,(Gho.trans (Gho.trans (Gho.kP (b:=5) (c:=4) (K:=7050000) (j:=500042) (by simp +decide only [F,reduceIte,Nat.reduceAdd,Bool.not_true,Bool.not_false,EN, *,-h];rfl) rfl (by simp +decide only [F,reduceIte,Nat.reduceAdd,Bool.not_true,Bool.not_false,EN, *,-h];rfl) (by decide)) (Gho.kP (b:=5) (c:=5) (K:=7050001) (j:=600042) (by simp +decide only [F,reduceIte,Nat.reduceAdd,Bool.not_true,Bool.not_false,EN, *,-h];rfl) rfl (by simp +decide only [F,reduceIte,Nat.reduceAdd,Bool.not_true,Bool.not_false,EN, *,-h];rfl) (by decide))) (Gho.kP (b:=5) (c:=7) (K:=7050002) (j:=800042) (by simp +decide only [F,reduceIte,Nat.reduceAdd,Bool.not_true,Bool.not_false,EN, *,-h];rfl) rfl (by simp +decide only [F,reduceIte,Nat.reduceAdd,Bool.not_true,Bool.not_false,EN, *,-h];rfl) (by decide))),mL1,by omega,(IntKind.i64.wrap (v7-1)),x77.1.Id,x77.1.Site,x77.1.Top,x77.1.Version,x77.1.Machine.Pc,x77.1.Machine.Steps,x77.1.Machine.Done,x77.1.Machine.Wait,x75.1,x75.2.1,x77.1.aF,x77.1.Machine.Script,x77.1.Machine.Regs,((s79.h 7050000).1+1),((s79.h 7050001).1+1),((s79.h 7050002).1+1),?_,?_,?_,?_,?_,?_,?_,?_,?_,?_,h⟩
 all_goals simp +decide only [F,reduceIte,Nat.reduceAdd,Bool.not_true,Bool.not_false,EN, *,-h]
instance:gR 29 (type_of% @c29):=⟨@c29⟩
end Go.Proofs.Ytblghjofnielnaa.gen
