/-
  Helper text. No conditions.
-/
import Derived.Test.YtidhkhdnjonjfaaGreatBucketsTi
import Derived.Test.YtidhkhdnjonjfaaGreatBucketsWspec0
import Derived.Test.YtidhkhdnjonjfaaGreatBucketsWspec1
import Derived.Test.YtidhkhdnjonjfaaGreatBucketsWspec2
set_option linter.unusedVariables false
set_option linter.unusedSimpArgs false
namespace Go.Proofs.YtidhkhdnjonjfaaGreat.gen
open Go Go.Sh
set_option maxRecDepth 20000
set_option maxHeartbeats 4000000
theorem aO8 (p0 r) (h:kA p0=some r):Sc 148 [(false,[.ptr [.sl (List.map enB p0.b),.int .i64 p0.i,.int .i64 p0.h]])] [(false,[.edit (.lend 199 [.int .i64 r.1,.int .i64 r.2.1])]),rS r.2.2]:=by
 unfold kA at h
 simp only [EN]
 refine sgB 6 [.tmp 2] Tryz.func148 fun base wd B0 u0 hw0 => ?_
 refine gB (J:=fun s=>s.t 0=vP 7059000 1 0∧s.h 7059000=(1,oB 199 [.old B0 (.sl (List.map enB p0.b)) (some u0),cI p0.i,cI p0.h])∧True) ?_ ?_
 ·refine ⟨?_,?_,trivial⟩<;>(try simp only [LN,List.map_cons,List.map_nil])<;>rfl
 rintro s1 ⟨f2,f3,_⟩
 exact sgX
instance:bP 148 (type_of% @aO8):=⟨@aO8⟩
theorem c57 (p0 r) (h:bR p0=some r):Sc 57 [aX (M.aE.en p0)] [rB r]:=by
 have i1:=inv fun m s=>∃v3:Int,(s.t 1=vP 1 1 0∧s.t 3=vI v3∧s.h 1=(1,oX 28 (M.aE.en p0)))∧dF p0 m v3=some r
 have e1:=@dF.eq_2
 unfold bR at h
 exact sgo 53 [.tmp 2] Tryz.func57
instance:bP 57 (type_of% @c57):=⟨@c57⟩
theorem aS3 (p0 r) (h:iF p0=some r):Sc 159 [aX (M.aA.en p0)] [rB r]:=by
 have i1:=inv fun m s=>∃v3:Int,(s.t 1=vP 1 1 0∧s.t 3=vI v3∧s.h 1=(1,oX 37 (M.aA.en p0)))∧fG p0 m v3=some r
 have e1:=@fG.eq_2
 unfold iF at h
 exact sgo 64 [.tmp 2] Tryz.func159
instance:bP 159 (type_of% @aS3):=⟨@aS3⟩
theorem aQt (p0 r) (h:eC p0=some r):Sc 266 [(false,[.ptr [.sl (List.map enB p0.b),.int .i64 p0.i,.int .i64 p0.h]])] [(false,[.edit (.lend 199 [.int .i64 r.1,.int .i64 r.2.1])]),rS r.2.2]:=by
 unfold eC at h
 simp only [EN]
 refine sgB 6 [.tmp 2] Tryz.func266 fun base wd B0 u0 hw0 => ?_
 refine gB (J:=fun s=>s.t 0=vP 7059000 1 0∧s.h 7059000=(1,oB 199 [.old B0 (.sl (List.map enB p0.b)) (some u0),cI p0.i,cI p0.h])∧True) ?_ ?_
 ·refine ⟨?_,?_,trivial⟩<;>(try simp only [LN,List.map_cons,List.map_nil])<;>rfl
 rintro s1 ⟨f2,f3,_⟩
 exact sgX
instance:bP 266 (type_of% @aQt):=⟨@aQt⟩
theorem aQZ (p0 p1 p2 r) (h:eX p0 p1 p2=some r):Sc 384 [aX (M.aC.en p0),aS p1,aI p2] [(true,M.aC.rs r.1),rB r.2]:=by
 have i1:=fun (x1:M.aC)=>inv fun m s=>∃v9:Int,(s.t 1=vS p1∧s.t 2=vI p2∧s.t 3=vP 3 1 0∧s.t 6=vP 6 1 0∧s.t 8=vP 8 1 0∧s.t 9=vI v9∧s.h 3=(1,oX 148 (M.aC.en p0))∧s.h 6=(1,oB 148 [.nil])∧s.h 8=(1,oB 148 [.row 100011 1])∧s.h 100011=(1,oW 267 2 M.Field.en x1.Fields))∧iG p0 p1 p2 x1 m v9=some r
 have e1:=@iG.eq_2
 unfold eX at h
 exact sgo 78 [.cell 6 148,.tmp 7] Tryz.func384
instance:bP 384 (type_of% @aQZ):=⟨@aQZ⟩
theorem aSp (p0 p1 r) (h:oE p0 p1=some r):Sc 275 [aI p0,aL enB p1] [rI r]:=by
 unfold oE at h
 exact sgo 11 [.tmp 4] Tryz.func275
instance:bP 275 (type_of% @aSp):=⟨@aSp⟩
theorem aTE (p0 r) (h:nW p0=some r):Sc 133 [aX (M.aD.en p0)] [(true,M.aD.rs r)]:=by
 unfold nW at h
 exact sgo 12 [.cell 2 44] Tryz.func133
instance:bP 133 (type_of% @aTE):=⟨@aTE⟩
theorem aSr (p0 p1 r) (h:uM p0 p1=some r):Sc 130 [(false,[.ptr [.sl (List.map enB p0.b),.int .i64 p0.i,.int .i64 p0.h]]),aL enB p1] [(false,[.edit (.lend 199 [.int .i64 r.1,.int .i64 r.2.1])]),rW 5 1 enB r.2.2]:=by
 unfold uM at h
 simp only [EN]
 refine sgB 44 [.tmp 4] Tryz.func130 fun base wd B0 u0 hw0 => ?_
 refine gB (J:=fun s=>s.t 0=vP 7059000 1 0∧s.t 1=vL enB p1∧s.h 7059000=(1,oB 199 [.old B0 (.sl (List.map enB p0.b)) (some u0),cI p0.i,cI p0.h])∧True) ?_ ?_
 ·refine ⟨?_,?_,?_,trivial⟩<;>(try simp only [LN,List.map_cons,List.map_nil])<;>rfl
 rintro s1 ⟨f2,f3,f4,_⟩
 refine sq (rn ?_)
 refine an (sq ?_)
 obtain ⟨x5,h6,h⟩:=bind_some h
 refine rn1 h6 ?_
 refine an (sq (sq ?_))
 refine cu (fun s=>s.t 0=vP 7059000 1 0∧s.t 5=vR 100006 (((s1.h 100006).1+1)+1)∧s.h 100006=((((s1.h 100006).1+1)+1),oW 5 1 enB p1)∧s.h 7059000=(1,oB 199 [.old B0 (.sl (List.map enB p0.b)) (some u0),cI p0.i,cI p0.h])∧True) ?_
 rintro s7 ⟨f8,f9,f10,f11,_⟩
 obtain ⟨x12,h13,h⟩:=bind_some h
 refine rn1 (aGI _ _ _ h13) ?_
 refine an (bk (sq ?_))
 refine cu (fun s=>s.t 0=vP 7059000 1 0∧s.t 5=vR 100006 (((s1.h 100006).1+1)+1)∧s.t 10=vI x12.2.2∧s.h 100006=((((s1.h 100006).1+1)+1),oW 5 1 enB p1)∧s.h 7059000=(1,oB 199 [.old B0 (.sl (List.map enB p0.b)) (some u0),cI x12.1,cI x12.2.1])∧True) ?_
 rintro s14 ⟨f15,f16,f17,f18,f19,_⟩
 refine rn ?_
 refine an ?_
 rcases lN (x12.2.2==0) with b20 | b20
 ·replace h:=cD b20 h
  refine ct (sq (rn ?_))
  refine an ?_
  rcases wF (decide ((List.length p1:Int)>0)) with b21 | b21
  ·replace h:=bY b21 h
   refine cf (sk (ab (an (sq (rn ?_)))))
   refine an (rt ?_)
   cases h
   simp [aFF,Ret,TB,EN, *]
  replace h:=cD b21 h
  refine ct ?_
  obtain ⟨x22,h23,h⟩:=bind_some h
  obtain ⟨x24,h25,h⟩:=bind_some h
  obtain ⟨x26,h27,h⟩:=bind_some h
  obtain ⟨q28,q29,q30⟩:=jG h27
  refine rn2 (aGI _ _ _ h23) (aGI _ _ _ h25) ?_
  refine ab (an (sq (rn ?_)))
  refine an (rt ?_)
  cases h
  simp [aFF,Ret,TB,EN, *]
 replace h:=bY b20 h
 refine cf (sq (rn ?_))
 refine an ?_
 rcases wF (x12.2.2==1) with b31 | b31
 ·replace h:=bY b31 h
  refine cf (sq (rn ?_))
  refine an ?_
  rcases wF (x12.2.2==2) with b36 | b36
  ·replace h:=bY b36 h
   refine cf (sk (ab (an (sq (rn ?_)))))
   refine an (rt ?_)
   cases h
   simp [aFF,Ret,TB,EN, *]
  replace h:=cD b36 h
  refine ct ?_
  obtain ⟨x37,h38,h⟩:=bind_some h
  obtain ⟨x39,h40,h⟩:=bind_some h
  refine rn2 (aOz _ _ _ h38) h40 ?_
  refine ab (an (sq (rn ?_)))
  refine an (rt ?_)
  cases h
  simp [aFF,Ret,TB,EN, *]
 replace h:=cD b31 h
 refine ct ?_
 obtain ⟨x32,h33,h⟩:=bind_some h
 obtain ⟨x34,h35,h⟩:=bind_some h
 apply eD
 ·simp +decide only [E,reduceIte,Nat.reduceAdd,Nat.reduceMul,qB,qC,←List.map_take,←List.map_drop,L,ti5,aPm,enB,EN,f15,f16,f17,f18,f19,b20,b31]
  refine ⟨_,aGI _ _ _ h33,?_⟩
  try simp +decide only [E,reduceIte,Nat.reduceAdd,Nat.reduceMul,qB,qC,←List.map_take,←List.map_drop,L,ti5,aPm,enB,EN,f15,f16,f17,f18,f19,b20,b31]
  refine ⟨by first | exact rX h35 | exact (rX h35).2 | exact (rX h35).2.2,?_⟩
  try simp +decide only [E,reduceIte,Nat.reduceAdd,Nat.reduceMul,qB,qC,←List.map_take,←List.map_drop,L,ti5,aPm,enB,EN,f15,f16,f17,f18,f19,b20,b31]
  exact Is.mk _
 refine ab (an (sq (rn ?_)))
 refine an ?_
 refine aER (Gho.aOy (i:=4) (j:=100006) (vj:=(((s1.h 100006).1+1)+1)) (K:=100006) (n:=x32.2.2.toNat) (e:=5) (sz:=1) (dp:=true) (xs:=(List.map enB p1)) (List.map enB (List.take x32.2.2.toNat p1)) (by first | (simp +decide only [F,reduceIte,Nat.reduceAdd,qB,qC,EN, *,-h];done) | (simp +decide only [F,reduceIte,Nat.reduceAdd,qB,qC,EN, *,-h];rfl) | rfl) (by first | (simp +decide only [F,reduceIte,Nat.reduceAdd,qB,qC,EN, *,-h];done) | (simp +decide only [F,reduceIte,Nat.reduceAdd,qB,qC,EN, *,-h];rfl) | rfl) (by rw [List.length_map];exact (rX h35).2) (by rw [List.map_take])) ?_
 refine rt ?_
 cases h
 simp [aFF,Ret,TB,EN, *]
instance:bP 130 (type_of% @aSr):=⟨@aSr⟩
end Go.Proofs.YtidhkhdnjonjfaaGreat.gen
