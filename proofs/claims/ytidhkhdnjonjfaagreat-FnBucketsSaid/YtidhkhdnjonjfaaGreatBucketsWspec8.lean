/-
  Helper text. No conditions.
-/
import Derived.Test.YtidhkhdnjonjfaaGreatBucketsTi
import Derived.Test.YtidhkhdnjonjfaaGreatBucketsWspec0
import Derived.Test.YtidhkhdnjonjfaaGreatBucketsWspec1
import Derived.Test.YtidhkhdnjonjfaaGreatBucketsWspec2
import Derived.Test.YtidhkhdnjonjfaaGreatBucketsWspec3
import Derived.Test.YtidhkhdnjonjfaaGreatBucketsWspec4
import Derived.Test.YtidhkhdnjonjfaaGreatBucketsWspec6
import Derived.Test.YtidhkhdnjonjfaaGreatBucketsWspec7
set_option linter.unusedVariables false
set_option linter.unusedSimpArgs false
namespace Go.Proofs.YtidhkhdnjonjfaaGreat.gen
open Go Go.Sh
set_option maxRecDepth 20000
set_option maxHeartbeats 4000000
theorem c58 (p0 r) (h:bJ p0=some r):Sc 58 [aX (M.Database.en p0)] [rB r]:=by
 have i1:=inv fun m s=>∃v3:Int,(s.t 1=vP 1 1 0∧s.t 3=vI v3∧s.h 1=(1,oX 32 (M.Database.en p0)))∧dJ p0 m v3=some r
 have e1:=@dJ.eq_2
 have i2:=inv fun m s=>∃v4:Int,(s.t 1=vP 1 1 0∧s.t 4=vI v4∧s.h 1=(1,oX 32 (M.Database.en p0)))∧dK p0 m v4=some r
 have e2:=@dK.eq_2
 have i3:=fun (v4:Int) (x26:M.aH) (k46:Int→Option Bool)=>inv fun m s=>∃v9_L3:Int,(s.t 1=vP 1 1 0∧s.t 4=vI v4∧s.t 9=vI v9_L3∧s.h 1=(1,oX 32 (M.Database.en p0)))∧eI p0 v4 x26 k46 m v9_L3=some r
 have e3:=@eI.eq_2
 unfold bJ at h
 exact sgo 124 [.tmp 2] Tryz.func58
instance:bP 58 (type_of% @c58):=⟨@c58⟩
theorem aRt (p0 r) (h:uL p0=some r):Sc 164 [aX (M.bF.en p0)] [rI r]:=by
 unfold uL at h
 exact sgo 10 [.tmp 2] Tryz.func164
instance:bP 164 (type_of% @aRt):=⟨@aRt⟩
theorem aRl (p0 r) (h:mR p0=some r):Sc 321 [aL enB p0] [rW 332 7 M.Op.en r.1,rB r.2]:=by
 have i1:=fun (x1:(Int×Int×Bool))=>inv fun m s=>∃v5:Int,∃v8:Int,∃r25:List M.Op,∃u25:Nat,(s.t 0=vL enB p0∧s.t 4=vI x1.1∧s.t 5=vI v5∧s.t 7=vR 100025 u25∧s.t 8=vI v8∧s.h 100025=(u25,oW 332 7 M.Op.en r25))∧gR p0 x1 m v5 v8 r25=some r
 have e1:=@gR.eq_2
 unfold mR at h
 exact sgo 53 [.tmp 2,.tmp 3] Tryz.func321
instance:bP 321 (type_of% @aRl):=⟨@aRl⟩
theorem aSe (p0 p1 r) (h:sZ p0 p1=some r):Sc 488 [aX (M.aA.en p0),aX (M.Op.en p1)] [(true,M.aA.rs r.1),rI r.2.1,rB r.2.2]:=by
 unfold sZ at h
 exact sgo 97 [.cell 4 37,.tmp 5,.tmp 6] Tryz.func488
instance:bP 488 (type_of% @aSe):=⟨@aSe⟩
theorem aTM (p0 p1 r) (h:oQ p0 p1=some r):Sc 464 [aX (M.aA.en p0),aL M.aT.en p1] [(true,M.aA.rs r)]:=by
 have i1:=aBx [.b 5 1 7050000 227 4] fun m s=>∃v6:Int,∃w5_0:ByteArray,∃w5_2:Int,∃r50000:List M.Item,∃u50000:Nat,(s.t 1=vL M.aT.en p1∧s.t 4=vP 4 1 0∧s.t 5=vP 5 1 0∧s.t 6=vI v6∧s.h 4=(1,oB 37 [cS (⟨#[]⟩:ByteArray),.nil,cI 0])∧s.h 5=(1,oB 37 [cS w5_0,.row 7050000 u50000,cI w5_2])∧s.h 7050000=(u50000,oW 227 4 M.Item.en r50000))∧fS p1 m v6 w5_0 w5_2 r50000=some r
 have e1:=@fS.eq_2
 unfold oQ at h
 exact sgo 29 [.cell 4 37] Tryz.func464
instance:bP 464 (type_of% @aTM):=⟨@aTM⟩
theorem c44 (p0 r) (h:sC p0=some r):Sc 44 [(false,[.ptr [.sl (List.map enB p0.b),.int .i64 p0.i,.int .i64 p0.h]])] [(false,[.edit (.lend 199 [.int .i64 r.1,.int .i64 r.2.1])]),(true,M.aE.rs r.2.2)]:=by
 unfold sC at h
 simp only [EN]
 refine sgB 56 [.cell 2 28] Tryz.func44 fun base wd B0 u0 hw0 => ?_
 refine gB (J:=fun s=>s.t 0 = .v false [.bp 7059000 1 0]∧s.h 7059000=(1,.box 199 [.old B0 (.sl (List.map enB p0.b)) (some u0),.dat (.int .i64 p0.i),.dat (.int .i64 p0.h)])∧True) ?_ ?_
 ·refine ⟨?_,?_,trivial⟩<;>(try simp only [LN,List.map_cons,List.map_nil])<;>rfl
 rintro s1 ⟨f2,f3,_⟩
 refine sq ?_
 apply eD
 ·simp +decide only [LN,E,reduceIte,Nat.reduceAdd,Nat.reduceMul,qB,qC,L,uP,EN,f2,f3]
  exact Is.mk _
 refine an (sq ?_)
 obtain ⟨x4,h5,h⟩:=bind_some h
 apply eD
 ·simp +decide only [LN,E,reduceIte,Nat.reduceAdd,Nat.reduceMul,qB,qC,L,uP,EN,f2,f3]
  refine ⟨_,aQb _ _ h5,?_⟩
  try simp +decide only [LN,E,reduceIte,Nat.reduceAdd,Nat.reduceMul,qB,qC,L,uP,EN,f2,f3]
  exact Is.mk _
 refine an (sq (sq ?_))
 refine gB (J:=fun s=>s.t 0 = .v false [.bp 7059000 1 0]∧s.t 2 = .v false [.bp 2 ((s1.h 2).1+1) 0]∧s.t 3 = .v false [.bp 3 ((s1.h 3).1+1) 0]∧s.h 2=(((s1.h 2).1+1),.box 28 [.nil])∧s.h 3=(((s1.h 3).1+1),.box 28 [.row 100006 ((s1.h 100006).1+1)])∧s.h 100006=(((s1.h 100006).1+1),.row 212 2 (List.map M.Cache.en x4.2.2.Caches) true)∧s.h 7059000=(1,.box 199 [.old B0 (.sl (List.map enB p0.b)) (some u0),.dat (.int .i64 x4.1),.dat (.int .i64 x4.2.1)])∧True) ?_ ?_
 ·refine ⟨?_,?_,?_,?_,?_,?_,?_,trivial⟩<;>(try simp +decide only [LN,F,reduceIte,Nat.reduceAdd,qB,qC,EN,M.Cache.en,f2,f3])
 rintro s6 ⟨f7,f8,f9,f10,f11,f12,f13,_⟩
 obtain ⟨x14,h15,h⟩:=bind_some h
 apply eD
 ·simp +decide only [LN,E,reduceIte,Nat.reduceAdd,Nat.reduceMul,qB,qC,L,EN,f7,f8,f9,f10,f11,f12,f13]
  refine ⟨_,aGI _ _ _ h15,?_⟩
  try simp +decide only [LN,E,reduceIte,Nat.reduceAdd,Nat.reduceMul,qB,qC,L,EN,f7,f8,f9,f10,f11,f12,f13]
  exact Is.mk _
 refine an (bk (sq ?_))
 refine gB (J:=fun s=>s.t 0 = .v false [.bp 7059000 1 0]∧s.t 2 = .v false [.bp 2 ((s1.h 2).1+1) 0]∧s.t 3 = .v false [.bp 3 ((s1.h 3).1+1) 0]∧s.t 8 = .v false [.dat (.int .i64 x14.2.2)]∧s.h 2=(((s1.h 2).1+1),.box 28 [.nil])∧s.h 3=(((s1.h 3).1+1),.box 28 [.row 100006 ((s1.h 100006).1+1)])∧s.h 100006=(((s1.h 100006).1+1),.row 212 2 (List.map M.Cache.en x4.2.2.Caches) true)∧s.h 7059000=(1,.box 199 [.old B0 (.sl (List.map enB p0.b)) (some u0),.dat (.int .i64 x14.1),.dat (.int .i64 x14.2.1)])∧True) ?_ ?_
 ·refine ⟨?_,?_,?_,?_,?_,?_,?_,?_,trivial⟩<;>(try simp +decide only [LN,F,reduceIte,Nat.reduceAdd,qB,qC,EN,M.Cache.en,f7,f8,f9,f10,f11,f12,f13])
 rintro s16 ⟨f17,f18,f19,f20,f21,f22,f23,f24,_⟩
 apply eD
 ·simp +decide only [LN,E,reduceIte,Nat.reduceAdd,Nat.reduceMul,qB,qC,L,EN,f17,f18,f19,f20,f21,f22,f23,f24]
  exact Is.mk _
 refine an ?_
 rcases lN (x14.2.2==0) with b25 | b25
 ·replace h:=cD b25 h
  refine aBC (by simp +decide only [LN,F,reduceIte,Nat.reduceAdd,qB,qC,EN,f17,f18,f19,f20,f21,f22,f23,f24,b25]) ?_
  obtain ⟨x26,h27,h⟩:=bind_some h
  obtain ⟨x28,h29,h⟩:=bind_some h
  apply xG mixed
  ·simp +decide only [LN,E,reduceIte,Nat.reduceAdd,Nat.reduceMul,qB,qC,L,ti3,aI8,uP,aPq,aA0,M.Cache.en,enI,EN,f17,f18,f19,f20,f21,f22,f23,f24,b25]
   have hc:=aOz _ _ _ h27
   simp only [List.map_append,List.map_cons,List.map_nil,M.Cache.en,enI] at hc
   refine ⟨_,hc,?_⟩
   try simp +decide only [LN,E,reduceIte,Nat.reduceAdd,Nat.reduceMul,qB,qC,L,ti3,aI8,uP,aPq,aA0,M.Cache.en,enI,EN,f17,f18,f19,f20,f21,f22,f23,f24,b25]
   refine ⟨by (have hb:=oA h29);simp [M.Cache.en,enI,qE,aQ] at hb ⊢ <;> omega,?_⟩
   try simp +decide only [LN,E,reduceIte,Nat.reduceAdd,Nat.reduceMul,qB,qC,L,ti3,aI8,uP,aPq,aA0,M.Cache.en,enI,EN,f17,f18,f19,f20,f21,f22,f23,f24,b25]
   exact ⟨.mk (by decide +kernel),Is.mk _⟩
  refine ab (an (sq ?_))
  refine gB (J:=fun s=>s.t 0 = .v false [.bp 7059000 1 0]∧s.t 2 = .v false [.bp 2 ((s1.h 2).1+1) 0]∧s.t 3 = .v false [.bp 3 ((s1.h 3).1+1) 0]∧s.h 2=(((s1.h 2).1+1),.box 28 [.nil])∧s.h 3=(((s1.h 3).1+1),.box 28 [.row 100006 (((s1.h 100006).1+1)+1)])∧s.h 100006=((((s1.h 100006).1+1)+1),.row 212 2 (List.map M.Cache.en (x4.2.2.Caches++[(⟨x26.2.2,([]:List M.Cached)⟩:M.Cache)])) true)∧s.h 7059000=(1,.box 199 [.old B0 (.sl (List.map enB p0.b)) (some u0),.dat (.int .i64 x26.1),.dat (.int .i64 x26.2.1)])∧True) ?_ ?_
  ·refine ⟨?_,?_,?_,?_,?_,?_,?_,trivial⟩<;>(try simp +decide only [LN,F,reduceIte,Nat.reduceAdd,qB,qC,EN,M.Cache.en,f17,f18,f19,f20,f21,f22,f23,f24,b25])
  rintro s30 ⟨f31,f32,f33,f34,f35,f36,f37,_⟩
  apply eD
  ·simp +decide only [LN,E,reduceIte,Nat.reduceAdd,Nat.reduceMul,qB,qC,L,uP,EN,b25,f31,f32,f33,f34,f35,f36,f37]
   exact Is.mk _
  refine an (rt ?_)
  cases h
  simp [aFF,Ret,TB,EN, *]
 replace h:=bY b25 h
 refine aDp (by simp +decide only [LN,F,reduceIte,Nat.reduceAdd,qB,qC,EN,f17,f18,f19,f20,f21,f22,f23,f24,b25]) ?_
 refine sq ?_
 apply eD
 ·simp +decide only [LN,E,reduceIte,Nat.reduceAdd,Nat.reduceMul,qB,qC,L,EN,f17,f18,f19,f20,f21,f22,f23,f24,b25]
  exact Is.mk _
 refine an ?_
 rcases wF (x14.2.2==1) with b38 | b38
 ·replace h:=bY b38 h
  refine aDp (by simp +decide only [LN,F,reduceIte,Nat.reduceAdd,qB,qC,EN,f17,f18,f19,f20,f21,f22,f23,f24,b25,b38]) ?_
  refine sq ?_
  apply eD
  ·simp +decide only [LN,E,reduceIte,Nat.reduceAdd,Nat.reduceMul,qB,qC,L,EN,f17,f18,f19,f20,f21,f22,f23,f24,b25,b38]
   exact Is.mk _
  refine an ?_
  rcases wF (x14.2.2==2) with b70 | b70
  ·replace h:=bY b70 h
   refine aDp (by simp +decide only [LN,F,reduceIte,Nat.reduceAdd,qB,qC,EN,f17,f18,f19,f20,f21,f22,f23,f24,b25,b38,b70]) ?_
   refine sk (ab (an (sq ?_)))
   apply eD
   ·simp +decide only [LN,E,reduceIte,Nat.reduceAdd,Nat.reduceMul,qB,qC,L,uP,EN,f17,f18,f19,f20,f21,f22,f23,f24,b25,b38,b70]
    exact Is.mk _
   refine an (rt ?_)
   cases h
   simp [aFF,Ret,TB,EN, *]
  replace h:=cD b70 h
  refine aBC (by simp +decide only [LN,F,reduceIte,Nat.reduceAdd,qB,qC,EN,f17,f18,f19,f20,f21,f22,f23,f24,b25,b38,b70]) ?_
  refine sq ?_
  apply eD
  ·simp +decide only [LN,E,reduceIte,Nat.reduceAdd,Nat.reduceMul,qB,qC,L,EN,f17,f18,f19,f20,f21,f22,f23,f24,b25,b38,b70]
   exact Is.mk _
  refine an (bk ?_)
  refine aER ((Gho.aNP (b:=3) (c:=0) (K:=7050000) (j:=100006) (by simp +decide only [LN,F,reduceIte,Nat.reduceAdd,qB,qC,EN,f17,f18,f19,f20,f21,f22,f23,f24,b25,b38,b70];rfl) rfl (by simp +decide only [LN,F,reduceIte,Nat.reduceAdd,qB,qC,EN,f17,f18,f19,f20,f21,f22,f23,f24,b25,b38,b70];rfl) (by decide))) ?_
  refine aCC (fun m s=>∃v4:Int,∃r50000:List M.Cache,∃u50000:Nat,s.t 0 = .v false [.bp 7059000 1 0]∧s.t 2 = .v false [.bp 2 ((s1.h 2).1+1) 0]∧s.t 3 = .v false [.bp 3 ((s1.h 3).1+1) 0]∧s.t 4 = .v false [.dat (.int .i64 v4)]∧s.h 2=(((s1.h 2).1+1),.box 28 [.nil])∧s.h 3=(((s1.h 3).1+1),.box 28 [.row 7050000 u50000])∧s.h 7050000=(u50000,.row 212 2 (List.map M.Cache.en r50000) true)∧s.h 7059000=(1,.box 199 [.old B0 (.sl (List.map enB p0.b)) (some u0),.dat (.int .i64 x14.1),.dat (.int .i64 x14.2.1)])∧kX x14 m v4 r50000=some r) fuel ?_ ?_
  ·refine ⟨1,x4.2.2.Caches,((s16.h 7050000).1+1),?_,?_,?_,?_,?_,?_,?_,?_,h⟩
   all_goals simp +decide only [LN,F,reduceIte,Nat.reduceAdd,qB,qC,EN,M.Cache.en,f17,f18,f19,f20,f21,f22,f23,f24,b25,b38,b70]
  rintro mL1 s71 ⟨v4,r50000,u50000,f72,f73,f74,f75,f76,f77,f78,f79,h⟩
  rcases mL1 with _ | mL1
  ·exact absurd h (by simp [kX])
  simp only [kX] at h
  refine sq (sq ?_)
  apply eD
  ·simp +decide only [LN,E,reduceIte,Nat.reduceAdd,Nat.reduceMul,qB,qC,L,EN,b25,b38,b70,f72,f73,f74,f75,f76,f77,f78,f79]
   exact Is.mk _
  refine an ?_
  rcases wF (decide (v4≤4)) with b80 | b80
  ·replace h:=bY b80 h
   refine aDp (by simp +decide only [LN,F,reduceIte,Nat.reduceAdd,qB,qC,EN,b25,b38,b70,f72,f73,f74,f75,f76,f77,f78,f79,b80]) ?_
   refine xt (wD (vT (aAi (ab (an (sq ?_))))))
   apply eD
   ·simp +decide only [LN,E,reduceIte,Nat.reduceAdd,Nat.reduceMul,qB,qC,L,uP,EN,b25,b38,b70,f72,f73,f74,f75,f76,f77,f78,f79,b80]
    exact Is.mk _
   refine an (rt ?_)
   cases h
   simp [aFF,Ret,TB,EN, *]
  replace h:=cD b80 h
  refine aBC (by simp +decide only [LN,F,reduceIte,Nat.reduceAdd,qB,qC,EN,b25,b38,b70,f72,f73,f74,f75,f76,f77,f78,f79,b80]) ?_
  refine sk (an (sq (bk ?_)))
  obtain ⟨x81,h82,h⟩:=bind_some h
  apply eD
  ·simp +decide only [LN,E,reduceIte,Nat.reduceAdd,Nat.reduceMul,qB,qC,L,uP,EN,b25,b38,b70,f72,f73,f74,f75,f76,f77,f78,f79,b80]
   refine ⟨_,aPp _ _ _ h82,?_⟩
   try simp +decide only [LN,E,reduceIte,Nat.reduceAdd,Nat.reduceMul,qB,qC,L,uP,EN,b25,b38,b70,f72,f73,f74,f75,f76,f77,f78,f79,b80]
   exact Is.mk _
  refine ab (an ?_)
  apply eD
  ·simp +decide only [LN,E,reduceIte,Nat.reduceAdd,Nat.reduceMul,qB,qC,L,EN,b25,b38,b70,f72,f73,f74,f75,f76,f77,f78,f79,b80]
   exact Is.mk _
  refine iB ⟨_,(Gho.aNP (b:=3) (c:=0) (K:=7050000) (j:=100052) (by simp +decide only [LN,F,reduceIte,Nat.reduceAdd,qB,qC,EN,b25,b38,b70,f72,f73,f74,f75,f76,f77,f78,f79,b80];rfl) rfl (by simp +decide only [LN,F,reduceIte,Nat.reduceAdd,qB,qC,EN,b25,b38,b70,f72,f73,f74,f75,f76,f77,f78,f79,b80];rfl) (by decide)),mL1,by omega,(IntKind.i64.wrap (v4+1)),x81.1.Caches,(u50000+1),?_,?_,?_,?_,?_,?_,?_,?_,h⟩
  all_goals simp +decide only [LN,F,reduceIte,Nat.reduceAdd,qB,qC,EN,M.Cache.en,b25,b38,b70,f72,f73,f74,f75,f76,f77,f78,f79,b80]
 replace h:=cD b38 h
 refine aBC (by simp +decide only [LN,F,reduceIte,Nat.reduceAdd,qB,qC,EN,f17,f18,f19,f20,f21,f22,f23,f24,b25,b38]) ?_
 refine sq ?_
 apply eD
 ·simp +decide only [LN,E,reduceIte,Nat.reduceAdd,Nat.reduceMul,qB,qC,L,aI8,uP,EN,f17,f18,f19,f20,f21,f22,f23,f24,b25,b38]
  exact Is.mk _
 refine an ?_
 rcases wF (decide ((List.length x4.2.2.Caches:Int)>0)) with b39 | b39
 ·replace h:=bY b39 h
  refine aDp (by simp +decide only [LN,F,reduceIte,Nat.reduceAdd,qB,qC,EN,f17,f18,f19,f20,f21,f22,f23,f24,b25,b38,b39]) ?_
  refine sk (ab (an (sq ?_)))
  apply eD
  ·simp +decide only [LN,E,reduceIte,Nat.reduceAdd,Nat.reduceMul,qB,qC,L,uP,EN,f17,f18,f19,f20,f21,f22,f23,f24,b25,b38,b39]
   exact Is.mk _
  refine an (rt ?_)
  cases h
  simp [aFF,Ret,TB,EN, *]
 replace h:=cD b39 h
 refine aBC (by simp +decide only [LN,F,reduceIte,Nat.reduceAdd,qB,qC,EN,f17,f18,f19,f20,f21,f22,f23,f24,b25,b38,b39]) ?_
 obtain ⟨x40,h41,h⟩:=bind_some h
 obtain ⟨q42,q43,q44⟩:=jG h41
 refine aIJ [0,2,3] [2,3,7059000] (i:=100006) (ver:=((s1.h 100006).1+1)) (e:=212) (sz:=2) (xs:=List.map M.Cache.en x4.2.2.Caches) (j:=(0:Int).toNat) (x:=M.Cache.en x40) (off:=1) (K:=7057000) (e':=221) (sz':=7) (ys:=List.map M.Cached.en x40.Entries) (by first | (simp +decide only [LN,F,reduceIte,Nat.reduceAdd,qB,qC,EN,M.Cache.en,f17,f18,f19,f20,f21,f22,f23,f24,b25,b38,b39,q42,q43,q44];done) | (simp +decide only [LN,F,reduceIte,Nat.reduceAdd,qB,qC,EN,M.Cache.en,f17,f18,f19,f20,f21,f22,f23,f24,b25,b38,b39,q42,q43,q44];rfl) | rfl) ?_ rfl ?_ hw0.2.1 (.inr (by decide)) hw0.2.2 (by decide) (by decide) (by decide) ?_ ?_ fun u => ?_
 ·rw [List.getElem?_map,q43];rfl
 ·rw [←(cP aA0).sl];rfl
 ·simp +decide only [LC,hw0.1,LN,F,reduceIte,Nat.reduceAdd,qB,qC,EN,M.Cache.en,f17,f18,f19,f20,f21,f22,f23,f24,b25,b38,b39,q42,q43,q44]
 ·simp +decide only [LC,hw0.1,LN,F,reduceIte,Nat.reduceAdd,qB,qC,EN,M.Cache.en,f17,f18,f19,f20,f21,f22,f23,f24,b25,b38,b39,q42,q43,q44]
 have q46:(List.set (List.map M.Cache.en x4.2.2.Caches) (0:Int).toNat [.int .i64 x40.Version,.val u])[(0:Int).toNat]? = some [.int .i64 x40.Version,.val u]:=aLq (b:=M.Cache.en x40) (by rw [List.getElem?_map,q43];rfl)
 refine gB (J:=fun s=>s.t 0 = .v false [.bp 7059000 1 0]∧s.t 2 = .v false [.bp 2 ((s1.h 2).1+1) 0]∧s.t 3 = .v false [.bp 3 ((s1.h 3).1+1) 0]∧s.h 2=(((s1.h 2).1+1),.box 28 [.nil])∧s.h 3=(((s1.h 3).1+1),.box 28 [.row 100006 ((s1.h 100006).1+1)])∧s.h 100006=(((s1.h 100006).1+1),.row 212 2 (List.set (List.map M.Cache.en x4.2.2.Caches) (0:Int).toNat [.int .i64 x40.Version,.val u]) true)∧s.h 7057000=(((s16.h 7057000).1+1),.row 221 7 (List.map M.Cached.en x40.Entries) true)∧s.h 7058000=(((s16.h 7058000).1+1),.pin 7057000 ((s16.h 7057000).1+1) u)∧s.h 7059000=(1,.box 199 [.old B0 (.sl (List.map enB p0.b)) (some u0),.dat (.int .i64 x14.1),.dat (.int .i64 x14.2.1)])∧True) ?_ ?_
 ·refine ⟨?_,?_,?_,?_,?_,?_,?_,?_,?_,trivial⟩<;>(try first | (simp +decide only [LN,F,reduceIte,Nat.reduceAdd,qB,qC,EN,M.Cache.en,M.Cached.en,f17,f18,f19,f20,f21,f22,f23,f24,b25,b38,b39,q42,q43,q44,q46];done) | (simp +decide only [LN,F,reduceIte,Nat.reduceAdd,qB,qC,EN,M.Cache.en,M.Cached.en,f17,f18,f19,f20,f21,f22,f23,f24,b25,b38,b39,q42,q43,q44,q46];rfl) | rfl)
 rintro s45 ⟨f47,f48,f49,f50,f51,f52,f53,f54,f55,_⟩
 obtain ⟨x56,h57,h⟩:=bind_some h
 obtain ⟨x58,h59,h⟩:=bind_some h
 obtain ⟨x60,h61,h⟩:=bind_some h
 apply xG mixed
 ·simp +decide only [LN,E,reduceIte,Nat.reduceAdd,Nat.reduceMul,qB,qC,L,ti9,aI8,uP,aLk,aGg,aA0,aE6,M.Cache.en,M.Cached.en,enS,EN,b25,b38,b39,q42,q43,q44,q46,f47,f48,f49,f50,f51,f52,f53,f54,f55]
  have hc:=aPk _ _ _ h57
  simp only [List.map_append,List.map_cons,List.map_nil,M.Cache.en,M.Cached.en,enS] at hc
  refine ⟨_,hc,?_⟩
  try simp +decide only [LN,E,reduceIte,Nat.reduceAdd,Nat.reduceMul,qB,qC,L,ti9,aI8,uP,aLk,aGg,aA0,aE6,M.Cache.en,M.Cached.en,enS,EN,b25,b38,b39,q42,q43,q44,q46,f47,f48,f49,f50,f51,f52,f53,f54,f55]
  refine ⟨_,aQu _ _ h59,?_⟩
  try simp +decide only [LN,E,reduceIte,Nat.reduceAdd,Nat.reduceMul,qB,qC,L,ti9,aI8,uP,aLk,aGg,aA0,aE6,M.Cache.en,M.Cached.en,enS,EN,b25,b38,b39,q42,q43,q44,q46,f47,f48,f49,f50,f51,f52,f53,f54,f55]
  refine ⟨by (have hb:=oA h61);simp [M.Cache.en,M.Cached.en,enS,qE,aQ] at hb ⊢ <;> omega,?_⟩
  try simp +decide only [LN,E,reduceIte,Nat.reduceAdd,Nat.reduceMul,qB,qC,L,ti9,aI8,uP,aLk,aGg,aA0,aE6,M.Cache.en,M.Cached.en,enS,EN,b25,b38,b39,q42,q43,q44,q46,f47,f48,f49,f50,f51,f52,f53,f54,f55]
  exact ⟨.mk (by decide +kernel),Is.mk _⟩
 refine ab (an (sq ?_))
 refine gB (J:=fun s=>s.t 0 = .v false [.bp 7059000 1 0]∧s.t 2 = .v false [.bp 2 ((s1.h 2).1+1) 0]∧s.t 3 = .v false [.bp 3 ((s1.h 3).1+1) 0]∧s.h 2=(((s1.h 2).1+1),.box 28 [.nil])∧s.h 3=(((s1.h 3).1+1),.box 28 [.row 100006 ((s1.h 100006).1+1)])∧s.h 100006=(((s1.h 100006).1+1),.row 212 2 (List.map M.Cache.en (List.set x4.2.2.Caches (0:Int).toNat (⟨x40.Version,(x40.Entries++[(⟨(⟨#[98,97,110,107]⟩:ByteArray),x56.2.2,x58.2.2⟩:M.Cached)])⟩:M.Cache))) true)∧s.h 7059000=(1,.box 199 [.old B0 (.sl (List.map enB p0.b)) (some u0),.dat (.int .i64 x58.1),.dat (.int .i64 x58.2.1)])∧True) ?_ ?_
 ·refine ⟨?_,?_,?_,?_,?_,?_,?_,trivial⟩<;>(try simp +decide only [LN,F,reduceIte,Nat.reduceAdd,qB,qC,EN,M.Cache.en,b25,b38,b39,q42,q43,q44,q46,f47,f48,f49,f50,f51,f52,f53,f54,f55])
 rintro s62 ⟨f63,f64,f65,f66,f67,f68,f69,_⟩
 apply eD
 ·simp +decide only [LN,E,reduceIte,Nat.reduceAdd,Nat.reduceMul,qB,qC,L,uP,EN,b25,b38,b39,q42,q43,q44,q46,f63,f64,f65,f66,f67,f68,f69]
  exact Is.mk _
 refine an (rt ?_)
 cases h
 simp [aFF,Ret,TB,EN, *]
instance:bP 44 (type_of% @c44):=⟨@c44⟩
theorem aSN (p0 p1 r) (h:wC p0 p1=some r):Sc 272 [(false,[.ptr [.sl (List.map enB p0.b),.int .i64 p0.i,.int .i64 p0.h]]),aI p1] [(false,[.edit (.lend 199 [.int .i64 r.1,.int .i64 r.2.1])]),rW 332 7 M.Op.en r.2.2]:=by
 unfold wC at h
 simp only [EN]
 refine sgB 22 [.tmp 4] Tryz.func272 fun base wd B0 u0 hw0 => ?_
 refine gB (J:=fun s=>s.t 0=vP 7059000 1 0∧s.t 1=vI p1∧s.h 7059000=(1,oB 199 [.old B0 (.sl (List.map enB p0.b)) (some u0),cI p0.i,cI p0.h])∧True) ?_ ?_
 ·refine ⟨?_,?_,?_,trivial⟩<;>(try simp only [LN,List.map_cons,List.map_nil])<;>rfl
 rintro s1 ⟨f2,f3,f4,_⟩
 have i1:=inv fun m s=>∃v6:Int,∃r7:List M.Op,∃w7059000_1:Int,∃w7059000_2:Int,∃u7:Nat,(s.t 0=vP 7059000 1 0∧s.t 5=vR 100007 u7∧s.t 6=vI v6∧s.h 100007=(u7,oW 332 7 M.Op.en r7)∧s.h 7059000=(1,oB 199 [.old B0 (.sl (List.map enB p0.b)) (some u0),cI w7059000_1,cI w7059000_2]))∧mO p0 m v6 r7 w7059000_1 w7059000_2=some r
 have e1:=@mO.eq_2
 exact sgX
instance:bP 272 (type_of% @aSN):=⟨@aSN⟩
theorem aTB (p0 p1 r) (h:bZ p0 p1=some r):Sc 391 [aX (M.Server.en p0),aX (M.aT.en p1)] [(true,M.Server.rs r.1),rI r.2]:=by
 unfold bZ at h
 exact sgo 70 [.cell 4 274,.tmp 5] Tryz.func391
instance:bP 391 (type_of% @aTB):=⟨@aTB⟩
theorem aSZ (p0 p1 r) (h:rH p0 p1=some r):Sc 397 [aX (M.aA.en p0),aX (M.aC.en p1)] [(true,M.aA.rs r.1),(true,M.Key.rs r.2.1),rB r.2.2]:=by
 unfold rH at h
 exact sgo 34 [.cell 4 37,.cell 5 225,.tmp 6] Tryz.func397
instance:bP 397 (type_of% @aSZ):=⟨@aSZ⟩
theorem aRh (p0 r) (h:tZ p0=some r):Sc 270 [(false,[.ptr [.sl (List.map enB p0.b),.int .i64 p0.i,.int .i64 p0.h]])] [(false,[.edit (.lend 199 [.int .i64 r.1,.int .i64 r.2.1])]),(true,M.aG.rs r.2.2)]:=by
 unfold tZ at h
 simp only [EN]
 refine sgB 58 [.cell 2 40] Tryz.func270 fun base wd B0 u0 hw0 => ?_
 refine gB (J:=fun s=>s.t 0=vP 7059000 1 0∧s.h 7059000=(1,oB 199 [.old B0 (.sl (List.map enB p0.b)) (some u0),cI p0.i,cI p0.h])∧True) ?_ ?_
 ·refine ⟨?_,?_,trivial⟩<;>(try simp only [LN,List.map_cons,List.map_nil])<;>rfl
 rintro s1 ⟨f2,f3,_⟩
 have i1:=aBx [.b 3 2 7050000 359 7] fun m s=>∃w3_0:Int,∃w3_1:Int,∃w7059000_1:Int,∃w7059000_2:Int,∃r50000:List M.aT,∃u50000:Nat,(s.t 0=vP 7059000 1 0∧s.t 2=vP 2 ((s1.h 2).1+1) 0∧s.t 3=vP 3 ((s1.h 3).1+1) 0∧s.h 2=(((s1.h 2).1+1),oB 40 [cI 0,cI 0,.nil])∧s.h 3=(((s1.h 3).1+1),oB 40 [cI w3_0,cI w3_1,.row 7050000 u50000])∧s.h 7050000=(u50000,oW 359 7 M.aT.en r50000)∧s.h 7059000=(1,oB 199 [.old B0 (.sl (List.map enB p0.b)) (some u0),cI w7059000_1,cI w7059000_2]))∧mZ p0 m w3_0 w3_1 w7059000_1 w7059000_2 r50000=some r
 have e1:=@mZ.eq_2
 exact sgX
instance:bP 270 (type_of% @aRh):=⟨@aRh⟩
end Go.Proofs.YtidhkhdnjonjfaaGreat.gen
