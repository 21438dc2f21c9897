/-
  Helper text. No conditions.
-/
import Derived.Test.YtimblbmbfdopgaaGreatOpenPageTi
import Derived.Test.YtimblbmbfdopgaaGreatOpenPageWspec0
set_option linter.unusedVariables false
set_option linter.unusedSimpArgs false
namespace Go.Proofs.YtimblbmbfdopgaaGreat.gen
open Go Go.Sh
set_option maxRecDepth 20000
set_option maxHeartbeats 4000000
theorem aVp (p0 p1 r) (h:xQ p0 p1=some r):Sc 548 [aX (M.Instr.en p0),aI p1] [rB r]:=by
 unfold xQ at h
 simp only [EN]
 refine sgn 74 [.tmp 4] Tryz.func548 fun base wd => ?_
 refine sq (rn ?_)
 refine an ?_
 obtain ⟨x1,h2,h⟩:=bind_some h
 refine aCn (fun s=>s.t 1=vI p1∧s.t 2=vP 2 1 0∧s.t 5=vB x1∧s.h 2=(1,oX 279 (M.Instr.en p0))∧True) ?_ ?_
 ·replace h:=h2
  clear h2
  rcases bS (p0.Kind==5) with b8 | b8
  ·replace h:=bJ b8 h
   refine rn ?_
   cases h
   refine mG ⟨?_,?_,?_,?_,trivial⟩<;>(try simp +decide only [F,reduceIte,Nat.reduceAdd,qB,qC,EN, *,-h])
  replace h:=bI b8 h
  obtain ⟨x9,h10,h⟩:=bind_some h
  refine rn1 (aNY _ _ _ _ h10) ?_
  cases h
  refine mG ⟨?_,?_,?_,?_,trivial⟩<;>(try simp +decide only [F,reduceIte,Nat.reduceAdd,qB,qC,EN, *,-h])
 clear h2
 rintro s3 ⟨f4,f5,f6,f7,_⟩
 refine sq (rn ?_)
 refine an ?_
 obtain ⟨x11,h12,h⟩:=bind_some h
 refine aCn (fun s=>s.t 2=vP 2 1 0∧s.t 5=vB x1∧s.t 6=vI x11∧s.h 2=(1,oX 279 (M.Instr.en p0))∧True) ?_ ?_
 ·replace h:=h12
  clear h12
  refine sq (rn ?_)
  refine an (bk (sq (rn ?_)))
  refine an ?_
  rcases bS (p0.Kind==1) with b18 | b18
  ·replace h:=bJ b18 h
   refine ct (rn ?_)
   refine ab ?_
   cases h
   refine mG ⟨?_,?_,?_,?_,trivial⟩<;>(try simp +decide only [F,reduceIte,Nat.reduceAdd,qB,qC,EN, *,-h])
  replace h:=bI b18 h
  refine cf (sq (rn ?_))
  refine an ?_
  rcases bS (p0.Kind==2) with b19 | b19
  ·replace h:=bJ b19 h
   refine ct (rn ?_)
   refine ab ?_
   cases h
   refine mG ⟨?_,?_,?_,?_,trivial⟩<;>(try simp +decide only [F,reduceIte,Nat.reduceAdd,qB,qC,EN, *,-h])
  replace h:=bI b19 h
  refine cf ?_
  obtain ⟨x20,h21,h⟩:=bind_some h
  refine aCn (fun s=>s.t 1=vI p1∧s.t 2=vP 2 1 0∧s.t 5=vB x1∧s.t 6=vI 0∧s.t 16=vI p0.Kind∧s.t 21=vB x20∧s.h 2=(1,oX 279 (M.Instr.en p0))∧True) ?_ ?_
  ·replace h:=h21
   clear h21
   refine sq (rn ?_)
   refine an ?_
   rcases bS (p0.Kind==3) with b30 | b30
   ·replace h:=bJ b30 h
    refine ct (sk ?_)
    cases h
    refine mG ⟨?_,?_,?_,?_,?_,?_,?_,trivial⟩<;>(try simp +decide only [F,reduceIte,Nat.reduceAdd,qB,qC,EN, *,-h])
   replace h:=bI b30 h
   refine cf (rn ?_)
   cases h
   refine mG ⟨?_,?_,?_,?_,?_,?_,?_,trivial⟩<;>(try simp +decide only [F,reduceIte,Nat.reduceAdd,qB,qC,EN, *,-h])
  clear h21
  rintro s22 ⟨f23,f24,f25,f26,f27,f28,f29,_⟩
  rcases bS x20 with b31 | b31
  ·replace h:=bJ b31 h
   refine ct (rn ?_)
   refine ab ?_
   cases h
   refine mG ⟨?_,?_,?_,?_,trivial⟩<;>(try simp +decide only [F,reduceIte,Nat.reduceAdd,qB,qC,EN, *,-h])
  replace h:=bI b31 h
  refine cf ?_
  obtain ⟨x32,h33,h⟩:=bind_some h
  refine aCn (fun s=>s.t 2=vP 2 1 0∧s.t 5=vB x1∧s.t 6=vI 0∧s.t 25=vB x32∧s.h 2=(1,oX 279 (M.Instr.en p0))∧True) ?_ ?_
  ·replace h:=h33
   clear h33
   refine sq (rn ?_)
   refine an ?_
   rcases bS (p0.Kind==6) with b40 | b40
   ·replace h:=bJ b40 h
    refine ct (sk ?_)
    cases h
    refine mG ⟨?_,?_,?_,?_,?_,trivial⟩<;>(try simp +decide only [F,reduceIte,Nat.reduceAdd,qB,qC,EN, *,-h])
   replace h:=bI b40 h
   refine cf (sq (rn ?_))
   refine an ?_
   rcases bS (p0.Kind==7) with b41 | b41
   ·replace h:=bJ b41 h
    refine ct (sk ?_)
    cases h
    refine mG ⟨?_,?_,?_,?_,?_,trivial⟩<;>(try simp +decide only [F,reduceIte,Nat.reduceAdd,qB,qC,EN, *,-h])
   replace h:=bI b41 h
   refine cf (rn ?_)
   cases h
   refine mG ⟨?_,?_,?_,?_,?_,trivial⟩<;>(try simp +decide only [F,reduceIte,Nat.reduceAdd,qB,qC,EN, *,-h])
  clear h33
  rintro s34 ⟨f35,f36,f37,f38,f39,_⟩
  rcases aEW x32 with b42 | b42
  ·replace h:=bI b42 h
   refine cf (sk (ab ?_))
   cases h
   refine mG ⟨?_,?_,?_,?_,trivial⟩<;>(try simp +decide only [F,reduceIte,Nat.reduceAdd,qB,qC,EN, *,-h])
  replace h:=bJ b42 h
  refine ct (rn ?_)
  refine ab ?_
  cases h
  refine mG ⟨?_,?_,?_,?_,trivial⟩<;>(try simp +decide only [F,reduceIte,Nat.reduceAdd,qB,qC,EN, *,-h])
 clear h12
 rintro s13 ⟨f14,f15,f16,f17,_⟩
 refine sq ?_
 obtain ⟨x43,h44,h⟩:=bind_some h
 refine aCn (fun s=>s.t 2=vP 2 1 0∧s.t 5=vB x1∧s.t 45=vB x43∧s.h 2=(1,oX 279 (M.Instr.en p0))∧True) ?_ ?_
 ·replace h:=h44
  clear h44
  obtain ⟨x50,h51,h⟩:=bind_some h
  rcases bS (!x50) with b52 | b52
  ·replace h:=bJ b52 h
   refine rn1 (aNY _ _ _ _ h51) ?_
   cases h
   refine mG ⟨?_,?_,?_,?_,trivial⟩<;>(try simp +decide only [F,reduceIte,Nat.reduceAdd,qB,qC,EN, *,-h])
  replace h:=bI b52 h
  obtain ⟨x53,h54,h⟩:=bind_some h
  rcases bS (!x53) with b55 | b55
  ·replace h:=bJ b55 h
   refine rn2 (aNY _ _ _ _ h51) (aNY _ _ _ _ h54) ?_
   cases h
   refine mG ⟨?_,?_,?_,?_,trivial⟩<;>(try simp +decide only [F,reduceIte,Nat.reduceAdd,qB,qC,EN, *,-h])
  replace h:=bI b55 h
  obtain ⟨x56,h57,h⟩:=bind_some h
  refine rn3 (aNY _ _ _ _ h51) (aNY _ _ _ _ h54) (aNY _ _ _ _ h57) ?_
  cases h
  refine mG ⟨?_,?_,?_,?_,trivial⟩<;>(try simp +decide only [F,reduceIte,Nat.reduceAdd,qB,qC,EN, *,-h])
 clear h44
 rintro s45 ⟨f46,f47,f48,f49,_⟩
 rcases bS x43 with b58 | b58
 ·replace h:=bJ b58 h
  refine ct (sq (rn ?_))
  refine an (rt ?_)
  cases h
  simp [Ret,TB,EN, *]
 replace h:=bI b58 h
 refine cf (sk (an (sq ?_)))
 obtain ⟨x59,h60,h⟩:=bind_some h
 refine aCn (fun s=>s.t 2=vP 2 1 0∧s.t 5=vB x1∧s.t 58=vB x59∧s.h 2=(1,oX 279 (M.Instr.en p0))∧True) ?_ ?_
 ·replace h:=h60
  clear h60
  rcases bS (p0.Kind==4) with b66 | b66
  ·replace h:=bJ b66 h
   refine rn ?_
   cases h
   refine mG ⟨?_,?_,?_,?_,trivial⟩<;>(try simp +decide only [F,reduceIte,Nat.reduceAdd,qB,qC,EN, *,-h])
  replace h:=bI b66 h
  rcases bS (p0.Kind==9) with b67 | b67
  ·replace h:=bJ b67 h
   refine rn ?_
   cases h
   refine mG ⟨?_,?_,?_,?_,trivial⟩<;>(try simp +decide only [F,reduceIte,Nat.reduceAdd,qB,qC,EN, *,-h])
  replace h:=bI b67 h
  refine rn ?_
  cases h
  refine mG ⟨?_,?_,?_,?_,trivial⟩<;>(try simp +decide only [F,reduceIte,Nat.reduceAdd,qB,qC,EN, *,-h])
 clear h60
 rintro s61 ⟨f62,f63,f64,f65,_⟩
 rcases bS x59 with b68 | b68
 ·replace h:=bJ b68 h
  refine ct (sq (rn ?_))
  refine an (rt ?_)
  cases h
  simp [Ret,TB,EN, *]
 replace h:=bI b68 h
 refine cf (sk (an ?_))
 obtain ⟨x69,h70,h⟩:=bind_some h
 refine aCn (fun s=>s.t 4=vB x69∧True) ?_ ?_
 ·replace h:=h70
  clear h70
  rcases aEW x1 with b73 | b73
  ·replace h:=bI b73 h
   refine rn ?_
   cases h
   refine mG ⟨?_,trivial⟩<;>(try simp +decide only [F,reduceIte,Nat.reduceAdd,qB,qC,EN, *,-h])
  replace h:=bJ b73 h
  obtain ⟨x74,h75,h⟩:=bind_some h
  rcases bS x74 with b76 | b76
  ·replace h:=bJ b76 h
   refine rn1 (aRn _ _ h75) ?_
   cases h
   refine mG ⟨?_,trivial⟩<;>(try simp +decide only [F,reduceIte,Nat.reduceAdd,qB,qC,EN, *,-h])
  replace h:=bI b76 h
  refine rn1 (aRn _ _ h75) ?_
  cases h
  refine mG ⟨?_,trivial⟩<;>(try simp +decide only [F,reduceIte,Nat.reduceAdd,qB,qC,EN, *,-h])
 clear h70
 rintro s71 ⟨f72,_⟩
 refine rt ?_
 cases h
 simp [Ret,TB,EN, *]
instance:bD 548 (type_of% @aVp):=⟨@aVp⟩
theorem aXA (p0 r) (h:zY p0=some r):Sc 468 [aL M.Instr.en p0] [rB r]:=by
 have i1:=inv fun m s=>∃v3:Int,(s.t 0=vL M.Instr.en p0∧s.t 3=vI v3)∧jQ p0 m v3=some r
 have e1:=@jQ.eq_2
 unfold zY at h
 exact sgo 21 [.tmp 2] Tryz.func468
instance:bD 468 (type_of% @aXA):=⟨@aXA⟩
theorem aVF (p0 r) (h:tW p0=some r):Sc 341 [aL M.Instr.en p0] [(true,M.Machine.rs r)]:=by
 unfold tW at h
 exact sgo 15 [.cell 2 65] Tryz.func341
instance:bD 341 (type_of% @aVF):=⟨@aVF⟩
theorem aTr (p0 p1 p2 p3 p4 r) (h:mH p0 p1 p2 p3 p4=some r):Sc 172 [aI p0,aS p1,aS p2,aI p3,aL M.Instr.en p4] [(true,M.bH.rs r.1),rB r.2]:=by
 unfold mH at h
 exact sgo 25 [.cell 10 67,.tmp 11] Tryz.func172
instance:bD 172 (type_of% @aTr):=⟨@aTr⟩
theorem aVI (r) (h:cK=some r):Sc 364 [] [(true,M.Response.rs r)]:=by
 unfold cK at h
 exact sgo 2 [.cell 0 277] Tryz.func364
instance:bD 364 (type_of% @aVI):=⟨@aVI⟩
theorem aTm (p0 p1 r) (h:xN p0 p1=some r):Sc 356 [aX (M.aO.en p0),aI p1] [rI r]:=by
 have i1:=inv fun m s=>∃v5:Int,(s.t 1=vI p1∧s.t 2=vP 2 1 0∧s.t 5=vI v5∧s.h 2=(1,oX 80 (M.aO.en p0)))∧iJ p0 p1 m v5=some r
 have e1:=@iJ.eq_2
 unfold xN at h
 exact sgo 22 [.tmp 4] Tryz.func356
instance:bD 356 (type_of% @aTm):=⟨@aTm⟩
theorem aUa (p0 p1 p2 r) (h:aAX p0 p1 p2=some r):Sc 474 [aX (M.Cache.en p0),aS p1,aS p2] [rI r]:=by
 have i1:=inv fun m s=>∃v7:Int,(s.t 1=vS p1∧s.t 2=vS p2∧s.t 3=vP 3 1 0∧s.t 7=vI v7∧s.h 3=(1,oX 354 (M.Cache.en p0)))∧jF p0 p1 p2 m v7=some r
 have e1:=@jF.eq_2
 unfold aAX at h
 exact sgo 34 [.tmp 6] Tryz.func474
instance:bD 474 (type_of% @aUa):=⟨@aUa⟩
theorem aXU (p0 p1 p2 p3 r) (h:sY p0 p1 p2 p3=some r):Sc 482 [aX (M.aO.en p0),aI p1,aS p2,aS p3] [(true,M.Response.rs r.1),rB r.2]:=by
 unfold sY at h
 exact sgo 40 [.cell 8 277,.tmp 9] Tryz.func482
instance:bD 482 (type_of% @aXU):=⟨@aXU⟩
theorem aV0 (p0 p1 r) (h:aC4 p0 p1=some r):Sc 352 [aI p0,aI p1] [rI r]:=by
 unfold aC4 at h
 exact sgo 10 [.tmp 4] Tryz.func352
instance:bD 352 (type_of% @aV0):=⟨@aV0⟩
theorem aUR (p0 p1 r) (h:mR p0 p1=some r):Sc 353 [aX (M.Site.en p0),aI p1] [rB r]:=by
 unfold mR at h
 exact sgo 18 [.tmp 4] Tryz.func353
instance:bD 353 (type_of% @aUR):=⟨@aUR⟩
theorem aT6 (p0 p1 r) (h:aAZ p0 p1=some r):Sc 475 [aX (M.Site.en p0),aS p1] [rB r]:=by
 have i1:=inv fun m s=>∃v5:Int,(s.t 1=vS p1∧s.t 2=vP 2 1 0∧s.t 5=vI v5∧s.h 2=(1,oX 131 (M.Site.en p0)))∧kL p0 p1 m v5=some r
 have e1:=@kL.eq_2
 unfold aAZ at h
 exact sgo 20 [.tmp 4] Tryz.func475
instance:bD 475 (type_of% @aT6):=⟨@aT6⟩
theorem aWS (p0 r) (h:rM p0=some r):Sc 497 [aL enB p0] [rW 3 1 enI r]:=by
 have i1:=inv fun m s=>∃v4:Int,∃r7:List Int,∃u7:Nat,(s.t 0=vL enB p0∧s.t 3=vR 100007 u7∧s.t 4=vI v4∧s.h 100007=(u7,oW 3 1 enI r7))∧gG p0 m v4 r7=some r
 have e1:=@gG.eq_2
 unfold rM at h
 exact sgo 23 [.tmp 2] Tryz.func497
instance:bD 497 (type_of% @aWS):=⟨@aWS⟩
theorem aWA (p0 p1 r) (h:aDb p0 p1=some r):Sc 569 [aI p0,aI p1] [rI r]:=by
 unfold aDb at h
 exact sgo 15 [.tmp 4] Tryz.func569
instance:bD 569 (type_of% @aWA):=⟨@aWA⟩
theorem aYA (p0 r) (h:aC7 p0=some r):Sc 496 [aL enI p0] [rI r]:=by
 have i1:=inv fun m s=>∃v3:Int,∃v4:Int,(s.t 0=vL enI p0∧s.t 3=vI v3∧s.t 4=vI v4)∧rT p0 m v3 v4=some r
 have e1:=@rT.eq_2
 unfold aC7 at h
 exact sgo 22 [.tmp 2] Tryz.func496
instance:bD 496 (type_of% @aYA):=⟨@aYA⟩
theorem aVo (p0 p1 r) (h:oV p0 p1=some r):Sc 549 [aI p0,aL enI p1] [rI r]:=by
 unfold oV at h
 exact sgo 13 [.tmp 4] Tryz.func549
instance:bD 549 (type_of% @aVo):=⟨@aVo⟩
theorem aXb (p0 p1 r) (h:gO p0 p1=some r):Sc 550 [aI p0,aS p1] [rI r]:=by
 unfold gO at h
 exact sgo 11 [.tmp 4] Tryz.func550
instance:bD 550 (type_of% @aXb):=⟨@aXb⟩
theorem aWH (p0 p1 p2 r) (h:aBu p0 p1 p2=some r):Sc 476 [aX (M.Site.en p0),aS p1,aI p2] [rW 5 1 enB r]:=by
 have i1:=fun (x5:Int)=>inv fun m s=>∃v9:Int,∃r19:List Int,∃u19:Nat,(s.t 7=vI x5∧s.t 8=vR 100019 u19∧s.t 9=vI v9∧s.h 100019=(u19,oW 5 1 enB r19))∧oR x5 m v9 r19=some r
 have e1:=@oR.eq_2
 unfold aBu at h
 exact sgo 34 [.tmp 6] Tryz.func476
instance:bD 476 (type_of% @aWH):=⟨@aWH⟩
theorem aXX (p0 p1 p2 r) (h:xI p0 p1 p2=some r):Sc 355 [aX (M.Site.en p0),aS p1,aI p2] [(true,M.Response.rs r)]:=by
 unfold xI at h
 exact sgo 32 [.cell 6 277] Tryz.func355
instance:bD 355 (type_of% @aXX):=⟨@aXX⟩
theorem aXk (p0 p1 p2 p3 p4 r) (h:jP p0 p1 p2 p3 p4=some r):Sc 365 [aX (M.aO.en p0),aX (M.Site.en p1),aI p2,aS p3,aB p4] [(true,M.Response.rs r)]:=by
 unfold jP at h
 exact sgo 30 [.cell 10 277] Tryz.func365
instance:bD 365 (type_of% @aXk):=⟨@aXk⟩
theorem aXt (p0 p1 p2 r) (h:jZ p0 p1 p2=some r):Sc 214 [aX (M.World.en p0),aX (M.bH.en p1),aS p2] [(true,M.Response.rs r)]:=by
 unfold jZ at h
 exact sgo 44 [.cell 6 277] Tryz.func214
instance:bD 214 (type_of% @aXt):=⟨@aXt⟩
theorem aWa (p0 p1 p2 r) (h:nX p0 p1 p2=some r):Sc 213 [aX (M.bH.en p0),aS p1,aX (M.Response.en p2)] [(true,M.bH.rs r.1),rB r.2]:=by
 unfold nX at h
 exact sgo 43 [.cell 6 67,.tmp 7] Tryz.func213
instance:bD 213 (type_of% @aWa):=⟨@aWa⟩
theorem c60 (p0 p1 p2 p3 r) (h:yN p0 p1 p2 p3=some r):Sc 60 [aX (M.World.en p0),aS p1,aS p2,aL M.Instr.en p3] [(true,M.World.rs r.1),rI r.2.1,rB r.2.2]:=by
 unfold yN at h
 exact sgo 130 [.cell 8 58,.tmp 9,.tmp 10] Tryz.func60
instance:bD 60 (type_of% @c60):=⟨@c60⟩
end Go.Proofs.YtimblbmbfdopgaaGreat.gen
