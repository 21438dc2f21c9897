/-
  Helper text. No conditions.
-/
import Derived.Test.YtimblbmbfdopgaaGreatOpenPageTi
import Derived.Test.YtimblbmbfdopgaaGreatOpenPageWimpl0
import Derived.Test.YtimblbmbfdopgaaGreatOpenPageWlib
set_option linter.unusedVariables false
set_option linter.unusedSimpArgs false
namespace Go.Proofs.YtimblbmbfdopgaaGreat.gen
open Go Go.Sh
set_option maxRecDepth 20000
set_option maxHeartbeats 4000000
theorem aUO (p0 r) (h:oT p0=some r):Sc 129 [aX (M.aH.en p0)] [rI r]:=by
 have i1:=inv fun m s=>∃v3:Int,∃v9:Int,(s.t 3=vI v3∧s.t 7=vL M.Item.en p0.Items∧s.t 8=vI (List.length p0.Items:Int)∧s.t 9=vI v9)∧iI p0 m v3 v9=some r
 have e1:=@iI.eq_2
 unfold oT at h
 exact sgo 26 [.tmp 2] Tryz.func129
instance:bD 129 (type_of% @aUO):=⟨@aUO⟩
theorem aXh (p0 r) (h:nU p0=some r):Sc 306 [aX (M.Database.en p0)] [rI r]:=by
 have i1:=inv fun m s=>∃v3:Int,∃v9:Int,(s.t 3=vI v3∧s.t 7=vL M.aH.en p0.Stores∧s.t 8=vI (List.length p0.Stores:Int)∧s.t 9=vI v9)∧fT p0 m v3 v9=some r
 have e1:=@fT.eq_2
 unfold nU at h
 exact sgo 19 [.tmp 2] Tryz.func306
instance:bD 306 (type_of% @aXh):=⟨@aXh⟩
theorem aVc (p0 r) (h:aBp p0=some r):Sc 128 [aX (M.bC.en p0)] [rI r]:=by
 unfold aBp at h
 exact sgo 10 [.tmp 2] Tryz.func128
instance:bD 128 (type_of% @aVc):=⟨@aVc⟩
theorem c26 (p0 r) (h:aAi p0=some r):Sc 26 [aX (M.aC.en p0)] [rI r]:=by
 unfold aAi at h
 exact sgo 23 [.tmp 2] Tryz.func26
instance:bD 26 (type_of% @c26):=⟨@c26⟩
theorem c32 (p0 r) (h:tL p0=some r):Sc 32 [aX (M.aC.en p0)] [rB r]:=by
 unfold tL at h
 exact sgo 50 [.tmp 2] Tryz.func32
instance:bD 32 (type_of% @c32):=⟨@c32⟩
theorem aUu (p0 p1 r) (h:kU p0 p1=some r):Sc 151 [aX (M.aC.en p0),aX (M.aC.en p1)] [rB r]:=by
 unfold kU at h
 exact sgo 24 [.tmp 4] Tryz.func151
instance:bD 151 (type_of% @aUu):=⟨@aUu⟩
theorem aW4 (p0 r) (h:bX p0=some r):Sc 153 [aX (M.aA.en p0)] [rB r]:=by
 have i1:=inv fun m s=>∃v8:Int,(s.t 1=vP 1 1 0∧s.t 6=vL M.aC.en p0.Buckets∧s.t 7=vI (List.length p0.Buckets:Int)∧s.t 8=vI v8∧s.h 1=(1,oX 47 (M.aA.en p0)))∧fH p0 m v8=some r
 have e1:=@fH.eq_2
 unfold bX at h
 exact sgo 36 [.tmp 2] Tryz.func153
instance:bD 153 (type_of% @aW4):=⟨@aW4⟩
theorem aXf (p0 r) (h:sM p0=some r):Sc 339 [aS p0] [rB r]:=by
 unfold sM at h
 exact sgo 5 [.tmp 2] Tryz.func339
instance:bD 339 (type_of% @aXf):=⟨@aXf⟩
theorem aUv (p0 r) (h:pK p0=some r):Sc 168 [aX (M.aQ.en p0)] [rB r]:=by
 have i1:=inv fun m s=>∃v10:Int,(s.t 1=vP 1 1 0∧s.t 8=vL M.cJ.en p0.Locks∧s.t 9=vI (List.length p0.Locks:Int)∧s.t 10=vI v10∧s.h 1=(1,oX 51 (M.aQ.en p0)))∧fA p0 m v10=some r
 have e1:=@fA.eq_2
 have i2:=fun (v10:Int) (x8:M.cJ) (k22:Int→Option Bool) (s1:St)=>inv fun m s=>∃v30_L2:Int,(s.t 1=vP 1 1 0∧s.t 4=vP 4 ((s1.h 4).1+1) 0∧s.t 8=vL M.cJ.en p0.Locks∧s.t 9=vI (List.length p0.Locks:Int)∧s.t 10=vI v10∧s.t 28=vL M.cJ.en (List.take v10.toNat p0.Locks)∧s.t 29=vI (List.length (List.take v10.toNat p0.Locks):Int)∧s.t 30=vI v30_L2∧s.h 1=(1,oX 51 (M.aQ.en p0))∧s.h 4=(((s1.h 4).1+1),oX 249 (M.cJ.en x8)))∧cC p0 v10 x8 k22 m v30_L2=some r
 have e2:=@cC.eq_2
 unfold pK at h
 exact sgo 64 [.tmp 2] Tryz.func168
instance:bD 168 (type_of% @aUv):=⟨@aUv⟩
theorem aXs (p0 r) (h:mU p0=some r):Sc 169 [aX (M.bH.en p0)] [rB r]:=by
 have i1:=inv fun m s=>∃v8:Int,(s.t 1=vP 1 1 0∧s.t 6=vL M.aK.en p0.aK∧s.t 7=vI (List.length p0.aK:Int)∧s.t 8=vI v8∧s.h 1=(1,oX 67 (M.bH.en p0)))∧mM p0 m v8=some r
 have e1:=@mM.eq_2
 unfold mU at h
 exact sgo 48 [.tmp 2] Tryz.func169
instance:bD 169 (type_of% @aXs):=⟨@aXs⟩
theorem aTJ (p0 c0 c1 r) (h:nT p0 c0 c1=some r):Sc 159 [aX (M.aC.en p0),(false,[.ptr [.str c0]]),(false,[.ptr [.str c1]])] [rB r]:=by
 unfold nT at h
 exact sgo 15 [.tmp 4] Tryz.func159
instance:bD 159 (type_of% @aTJ):=⟨@aTJ⟩
theorem aSj (p0:List M.aC) (p1:M.aC→Option Bool) (f1_:FuncId) (k1_:List D) (hp1 : ∀z0 r,p1 z0=some r→mY Tryz.prog f1_ ((true,M.aC.en z0) ::  k1_.map fun c=>(false,[c])) [(false,[.ro (.bool r)])]) (r:Int) (h:iA p0 p1=some r):Sc 158 [(false,[.sl (List.map M.aC.en p0)]),(false,[.fn f1_ k1_])] [rI r]:=by
 unfold iA at h
 simp only [EN]
 refine sgn 19 [.tmp 4] Tryz.func158 fun base wd => ?_
 refine sq (rn ?_)
 refine an (sq (sq (rn ?_)))
 refine an (bk ?_)
 refine aC5 (fun m s=>∃v8:Int,s.t 0=vL M.aC.en p0∧s.t 1 = .v false [.dat (.fn f1_ k1_)]∧s.t 7=vI (List.length p0:Int)∧s.t 8=vI v8∧bU p0 p1 m v8=some r) fuel ?_ ?_
 ·refine ⟨0,?_,?_,?_,?_,h⟩
  all_goals simp +decide only [F,reduceIte,Nat.reduceAdd,qB,qC,EN, *,-h]
 rintro mL1 s1 ⟨v8,f2,f3,f4,f5,h⟩
 rcases mL1 with _ | mL1
 ·exact absurd h (by simp [bU])
 simp only [bU] at h
 refine sq (rn ?_)
 refine an (sq ?_)
 rcases aEW (decide (v8<(List.length p0:Int))) with b6 | b6
 ·replace h:=bI b6 h
  refine cf (xt (aEz (aEh (aIT (an (sq (rn ?_)))))))
  refine an (rt ?_)
  cases h
  simp [Ret,TB,EN, *]
 replace h:=bJ b6 h
 refine ct (sk (an (sq (bk (sq (rn ?_))))))
 refine an (sq ?_)
 obtain ⟨x7,h8,h⟩:=bind_some h
 obtain ⟨q9,q10,q11⟩:=aV h8
 obtain ⟨x12,h13,h⟩:=bind_some h
 refine rn1 (hp1 x7 x12 h13) ?_
 refine an ?_
 rcases bS x12 with b14 | b14
 ·replace h:=bJ b14 h
  refine ct (sq (rn ?_))
  refine an (rt ?_)
  cases h
  simp [Ret,TB,EN, *]
 replace h:=bI b14 h
 refine cf (sk (ab (an (rn ?_))))
 refine mG ⟨mL1,by omega,(IntKind.i64.wrap (v8+1)),?_,?_,?_,?_,h⟩
 all_goals simp +decide only [F,reduceIte,Nat.reduceAdd,qB,qC,EN, *,-h]
instance:bD 158 (type_of% @aSj):=⟨@aSj⟩
theorem c38 (p0 p1 p2 r) (h:gN p0 p1 p2=some r):Sc 38 [aX (M.aA.en p0),aS p1,aS p2] [rI r]:=by
 unfold gN at h
 simp only [EN]
 refine sgn 11 [.tmp 6] Tryz.func38 fun base wd => ?_
 refine sq (rn ?_)
 refine an (sq ?_)
 obtain ⟨x1,h2,h⟩:=bind_some h
 refine rn1 (aSj p0.Buckets (fun z0=>nT z0 p1 p2) 159 [.ptr [.str p1],.ptr [.str p2]] (fun z0 r hr=>aTJ z0 p1 p2 r hr) x1 h2) ?_
 refine an (rt ?_)
 cases h
 simp [Ret,TB,EN, *]
instance:bD 38 (type_of% @c38):=⟨@c38⟩
theorem aVH (p0 r) (h:uV p0=some r):Sc 170 [aX (M.Site.en p0)] [rB r]:=by
 have i1:=inv fun m s=>∃v8:Int,(s.t 1=vP 1 1 0∧s.t 6=vL enS p0.Files∧s.t 7=vI (List.length p0.Files:Int)∧s.t 8=vI v8∧s.h 1=(1,oX 131 (M.Site.en p0)))∧iE p0 m v8=some r
 have e1:=@iE.eq_2
 unfold uV at h
 exact sgo 45 [.tmp 2] Tryz.func170
instance:bD 170 (type_of% @aVH):=⟨@aVH⟩
theorem aVR (p0 p1 r) (h:jB p0 p1=some r):Sc 177 [aL enS p0,aS p1] [rI r]:=by
 have i1:=inv fun m s=>∃v8:Int,(s.t 0=vL enS p0∧s.t 1=vS p1∧s.t 7=vI (List.length p0:Int)∧s.t 8=vI v8)∧bP p0 p1 m v8=some r
 have e1:=@bP.eq_2
 unfold jB at h
 exact sgo 19 [.tmp 4] Tryz.func177
instance:bD 177 (type_of% @aVR):=⟨@aVR⟩
theorem c49 (p0 r) (h:iW p0=some r):Sc 49 [aS p0] [rI r]:=by
 unfold iW at h
 exact sgo 6 [.tmp 2] Tryz.func49
instance:bD 49 (type_of% @c49):=⟨@c49⟩
theorem aUE (p0 r) (h:zK p0=some r):Sc 171 [aX (M.Server.en p0)] [rB r]:=by
 have i1:=inv fun m s=>∃v10:Int,(s.t 1=vP 1 1 0∧s.t 8=vL M.aM.en p0.aM∧s.t 9=vI (List.length p0.aM:Int)∧s.t 10=vI v10∧s.h 1=(1,oX 234 (M.Server.en p0)))∧gD p0 m v10=some r
 have e1:=@gD.eq_2
 have i2:=inv fun m s=>∃v45:Int,(s.t 1=vP 1 1 0∧s.t 43=vL M.aZ.en p0.Changes∧s.t 44=vI (List.length p0.Changes:Int)∧s.t 45=vI v45∧s.h 1=(1,oX 234 (M.Server.en p0)))∧hU p0 m v45=some r
 have e2:=@hU.eq_2
 unfold zK at h
 exact sgo 68 [.tmp 2] Tryz.func171
instance:bD 171 (type_of% @aUE):=⟨@aUE⟩
theorem c46 (p0 r) (h:kY p0=some r):Sc 46 [aX (M.World.en p0)] [rB r]:=by
 have i1:=inv fun m s=>∃v56:Int,(s.t 1=vP 1 1 0∧s.t 54=vL M.bH.en p0.Pages∧s.t 55=vI (List.length p0.Pages:Int)∧s.t 56=vI v56∧s.h 1=(1,oX 58 (M.World.en p0)))∧eT p0 m v56=some r
 have e1:=@eT.eq_2
 have i2:=inv fun m s=>∃v101:Int,(s.t 1=vP 1 1 0∧s.t 99=vL M.Site.en p0.Sites∧s.t 100=vI (List.length p0.Sites:Int)∧s.t 101=vI v101∧s.h 1=(1,oX 58 (M.World.en p0)))∧gQ p0 m v101=some r
 have e2:=@gQ.eq_2
 unfold kY at h
 exact sgo 126 [.tmp 2] Tryz.func46
instance:bD 46 (type_of% @c46):=⟨@c46⟩
theorem c89 (p0 p1 p2 r) (h:iB p0 p1 p2=some r):Sc 89 [aX (M.World.en p0),aS p1,aS p2] [(true,M.aC.ra r.1),rB r.2]:=by
 unfold iB at h
 exact sgo 23 [.cell 6 98,.tmp 7] Tryz.func89
instance:bD 89 (type_of% @c89):=⟨@c89⟩
theorem aYg (p0:M.World) (p1:ByteArray) (p2:ByteArray) (r:(M.aC×Bool)) (h:iB p0 p1 p2=some r) (hr2:r.2=false):mY Tryz.prog 89 [(true,M.World.en p0),(false,[.str p1]),(false,[.str p2])] [(true,[.ro (.str r.1.Site),.ro (.str r.1.Top),.ro (.str r.1.Registration.Site),.ro (.int .i64 r.1.Registration.Installing),.ro (.int .i64 r.1.Registration.Waiting),.ro (.int .i64 r.1.Registration.Active),.own 354 2 (List.map M.Cache.en r.1.Caches.Caches),.ro (.str r.1.bC.Base.Name),.ro (.int .i64 r.1.bC.Base.Version),.own 89 3 (List.map M.aH.en r.1.bC.Base.Stores),.own 375 2 (List.map M.aE.en r.1.bC.Base.Unique),.own 5 1 (List.map enB r.1.bC.Log),.ro (.int .i64 r.1.bC.Count),.ro (.str r.1.aD.Base.Name),.own 310 4 (List.map M.Item.en r.1.aD.Base.Items),.ro (.int .i64 r.1.aD.Base.Auto),.ro (.int .i64 r.1.aD.Seen),.ro (.int .i64 r.1.aD.Sync.aR.Device),.ro (.int .i64 r.1.aD.Sync.aR.Next),.own 387 7 (List.map M.aZ.en r.1.aD.Sync.aR.Writes),.ro (.int .i64 r.1.aD.Sync.Tries),.ro (.int .i64 r.1.aD.Sync.WaitUntil),.ro (.int .i64 r.1.LastUsed),.ro (.bool r.1.Persistent)]),(false,[.ro (.bool r.2)])]:=by
 unfold iB at h
 simp only [M.World.en]
 refine aJ4 (N:=23) (vars:=[.cell 6 98,.tmp 7]) Tryz.func89 rfl rfl rfl (by decide +kernel) (Nat.le_of_ble_eq_true rfl) fun base wd => ?_
 refine sq ?_
 apply aBR
 ·simp +decide only [E,reduceIte,Nat.reduceAdd,Nat.reduceMul,qB,qC,L,aPy,EN]
  exact Is.mk _
 refine an (sq ?_)
 obtain ⟨x1,h2,h⟩:=bind_some h
 apply aBR
 ·simp +decide only [E,reduceIte,Nat.reduceAdd,Nat.reduceMul,qB,qC,L,aQ2,aLs,EN]
  refine ⟨_,c38 _ _ _ _ h2,?_⟩
  try simp +decide only [E,reduceIte,Nat.reduceAdd,Nat.reduceMul,qB,qC,L,aQ2,aLs,EN]
  exact Is.mk _
 refine an (sq (sq ?_))
 apply aBR
 ·simp +decide only [E,reduceIte,Nat.reduceAdd,Nat.reduceMul,qB,qC,L,EN]
  exact Is.mk _
 refine an ?_
 rcases bS (decide (x1<0)) with b3 | b3
 ·replace h:=bJ b3 h
  refine aPg (by simp +decide only [F,reduceIte,Nat.reduceAdd,qB,qC,b3]) ?_
  refine sq ?_
  apply aBR
  ·simp +decide only [E,reduceIte,Nat.reduceAdd,Nat.reduceMul,qB,qC,L,aPy,EN,b3]
   exact Is.mk _
  refine an (rt ?_)
  cases h
  simp [Ret,aPy,M.Cache.en,M.aE.en,M.Item.en,M.aH.en,M.aZ.en,enB,b3]
 replace h:=bI b3 h
 refine aQC (by simp +decide only [F,reduceIte,Nat.reduceAdd,qB,qC,b3]) ?_
 refine sk (an (sq ?_))
 obtain ⟨x4,h5,h⟩:=bind_some h
 obtain ⟨q6,q7,q8⟩:=aV h5
 apply aBR
 ·simp +decide only [E,reduceIte,Nat.reduceAdd,Nat.reduceMul,qB,qC,L,aSr,aQ2,aLs,aPy,M.aC.en,EN,b3,q6,q7,q8]
  exact Is.mk _
 refine an (rt ?_)
 cases h
 exact absurd hr2 (by simp)
theorem aYe (p0:M.World) (p1:ByteArray) (p2:ByteArray) (r:(M.aC×Bool)) (h:iB p0 p1 p2=some r) (hr2:r.2=true) : ∃k,p0.aA.Buckets[k]? = some r.1∧mY Tryz.prog 89 [(true,M.World.en p0),(false,[.str p1]),(false,[.str p2])] [(false,[.edit (.sel 3 k 24)])]:=by
 obtain ⟨x,hx⟩ : ∃x,gN p0.aA p1 p2=some x:=by
  unfold iB at h
  obtain ⟨x,hx,_⟩:=bind_some h
  exact ⟨x,hx⟩
 have hk:p0.aA.Buckets[x.toNat]? = some r.1:=by
  unfold iB at h
  rw [hx,qA] at h
  split at h
  ·cases h
   cases hr2
  ·obtain ⟨y,hy,h⟩:=bind_some h
   cases h
   exact (aV hy).2.1
 refine ⟨x.toNat,hk,?_⟩
 unfold iB at h
 simp only [M.World.en]
 refine aRa (cc:=3) (k:=x.toNat) (sz:=24) (y:=M.aC.en r.1) (N:=23) (vars:=[.cell 6 98,.tmp 7]) Tryz.func89 rfl rfl rfl (by decide +kernel) (Nat.le_of_ble_eq_true rfl) rfl (by rw [List.getElem?_map,hk];rfl) rfl fun base wd uv => ?_
 try simp only [M.World.en]
 refine sq ?_
 apply aBR
 ·simp +decide only [LS,List.set_cons_zero,List.set_cons_succ,E,reduceIte,Nat.reduceAdd,Nat.reduceMul,qB,qC,L,aPy,EN]
  exact Is.mk _
 refine an (sq ?_)
 obtain ⟨x1,h2,h⟩:=bind_some h
 apply aBR
 ·simp +decide only [LS,List.set_cons_zero,List.set_cons_succ,E,reduceIte,Nat.reduceAdd,Nat.reduceMul,qB,qC,L,aQ2,aLs,EN]
  refine ⟨_,c38 _ _ _ _ h2,?_⟩
  try simp +decide only [LS,List.set_cons_zero,List.set_cons_succ,E,reduceIte,Nat.reduceAdd,Nat.reduceMul,qB,qC,L,aQ2,aLs,EN]
  exact Is.mk _
 refine an (sq (sq ?_))
 apply aBR
 ·simp +decide only [LS,List.set_cons_zero,List.set_cons_succ,E,reduceIte,Nat.reduceAdd,Nat.reduceMul,qB,qC,L,EN]
  exact Is.mk _
 refine an ?_
 rcases bS (decide (x1<0)) with b3 | b3
 ·replace h:=bJ b3 h
  refine aPg (by simp +decide only [LS,F,reduceIte,Nat.reduceAdd,qB,qC,b3]) ?_
  refine sq ?_
  apply aBR
  ·simp +decide only [LS,List.set_cons_zero,List.set_cons_succ,E,reduceIte,Nat.reduceAdd,Nat.reduceMul,qB,qC,L,aPy,EN,b3]
   exact Is.mk _
  refine an (rt ?_)
  cases h
  exact absurd hr2 (by simp)
 replace h:=bI b3 h
 refine aQC (by simp +decide only [LS,F,reduceIte,Nat.reduceAdd,qB,qC,b3]) ?_
 refine sk (an (sq ?_))
 obtain ⟨x4,h5,h⟩:=bind_some h
 obtain ⟨q6,q7,q8⟩:=aV h5
 apply aBR
 ·simp +decide only [LS,List.set_cons_zero,List.set_cons_succ,E,reduceIte,Nat.reduceAdd,Nat.reduceMul,qB,qC,L,aSr,aQ2,aLs,aPy,M.aC.en,EN,b3,q6,q7,q8]
  exact Is.mk _
 refine an (rt ?_)
 have hxx:x=x1:=Option.some.inj (hx.symm.trans h2)
 cases h
 simp [hxx,aS1,LS,aEK,M.aC.en,aPy,b3,q6,q7,q8]
theorem aTc (p0 r) (h:vD p0=some r):Sc 216 [aX (M.World.en p0)] [rI r]:=by
 unfold vD at h
 exact sgo 9 [.tmp 2] Tryz.func216
instance:bD 216 (type_of% @aTc):=⟨@aTc⟩
theorem aWw (p0 r) (h:aBH p0=some r):Sc 134 [aI p0] [(true,M.aR.rs r.1),rB r.2]:=by
 unfold aBH at h
 exact sgo 12 [.cell 2 92,.tmp 3] Tryz.func134
instance:bD 134 (type_of% @aWw):=⟨@aWw⟩
theorem c30 (p0 p1 p2 r) (h:wW p0 p1 p2=some r):Sc 30 [aS p0,aS p1,aI p2] [(true,M.aC.rs r.1),rB r.2]:=by
 unfold wW at h
 exact sgo 38 [.cell 6 98,.tmp 7] Tryz.func30
instance:bD 30 (type_of% @c30):=⟨@c30⟩
theorem aR3 (p0 p1 r) (h:vA p0 p1=some r):Sc 202 [aX (M.World.en p0),aS p1] [(true,M.Site.ra r)]:=by
 unfold vA at h
 exact sgo 23 [.cell 4 131] Tryz.func202
instance:bD 202 (type_of% @aR3):=⟨@aR3⟩
theorem aRw (p0 p1 p2 r) (h:kW p0 p1 p2=some r):Sc 217 [aX (M.Registration.en p0),aX (M.Site.en p1),aB p2] [rI r]:=by
 unfold kW at h
 exact sgo 17 [.tmp 6] Tryz.func217
instance:bD 217 (type_of% @aRw):=⟨@aRw⟩
theorem aWh (p0 p1 r) (h:rQ p0 p1=some r):Sc 556 [aX (M.Instr.en p0),aI p1] [rB r]:=by
 unfold rQ at h
 simp only [EN]
 refine sgn 94 [.tmp 4] Tryz.func556 fun base wd => ?_
 refine sq (rn ?_)
 refine an (sq ?_)
 obtain ⟨x1,h2,h⟩:=bind_some h
 refine aCn (fun s=>s.t 1=vI p1∧s.t 2=vP 2 1 0∧s.t 30=vB x1∧s.h 2=(1,oX 279 (M.Instr.en p0))∧True) ?_ ?_
 ·replace h:=h2
  clear h2
  obtain ⟨x8,h9,h⟩:=bind_some h
  rcases bS (!x8) with b10 | b10
  ·replace h:=bJ b10 h
   refine rn1 (aKR _ _ _ _ h9) ?_
   cases h
   refine mG ⟨?_,?_,?_,?_,trivial⟩<;>(try simp +decide only [F,reduceIte,Nat.reduceAdd,qB,qC,EN, *,-h])
  replace h:=bI b10 h
  obtain ⟨x11,h12,h⟩:=bind_some h
  rcases bS (!x11) with b13 | b13
  ·replace h:=bJ b13 h
   refine rn2 (aKR _ _ _ _ h9) (aKR _ _ _ _ h12) ?_
   cases h
   refine mG ⟨?_,?_,?_,?_,trivial⟩<;>(try simp +decide only [F,reduceIte,Nat.reduceAdd,qB,qC,EN, *,-h])
  replace h:=bI b13 h
  rcases bS (p0.Kind==4) with b14 | b14
  ·replace h:=bJ b14 h
   refine rn2 (aKR _ _ _ _ h9) (aKR _ _ _ _ h12) ?_
   cases h
   refine mG ⟨?_,?_,?_,?_,trivial⟩<;>(try simp +decide only [F,reduceIte,Nat.reduceAdd,qB,qC,EN, *,-h])
  replace h:=bI b14 h
  rcases bS (p0.Kind==9) with b15 | b15
  ·replace h:=bJ b15 h
   refine rn2 (aKR _ _ _ _ h9) (aKR _ _ _ _ h12) ?_
   cases h
   refine mG ⟨?_,?_,?_,?_,trivial⟩<;>(try simp +decide only [F,reduceIte,Nat.reduceAdd,qB,qC,EN, *,-h])
  replace h:=bI b15 h
  refine rn2 (aKR _ _ _ _ h9) (aKR _ _ _ _ h12) ?_
  cases h
  refine mG ⟨?_,?_,?_,?_,trivial⟩<;>(try simp +decide only [F,reduceIte,Nat.reduceAdd,qB,qC,EN, *,-h])
 clear h2
 rintro s3 ⟨f4,f5,f6,f7,_⟩
 rcases bS x1 with b16 | b16
 ·replace h:=bJ b16 h
  refine ct (sq (rn ?_))
  refine an (rt ?_)
  cases h
  simp [Ret,TB,EN, *]
 replace h:=bI b16 h
 refine cf (sk (an ?_))
 obtain ⟨x17,h18,h⟩:=bind_some h
 refine aCn (fun s=>s.t 1=vI p1∧s.t 2=vP 2 1 0∧s.t 5=vB x17∧s.h 2=(1,oX 279 (M.Instr.en p0))∧True) ?_ ?_
 ·replace h:=h18
  clear h18
  rcases bS (p0.Kind==5) with b24 | b24
  ·replace h:=bJ b24 h
   refine rn ?_
   cases h
   refine mG ⟨?_,?_,?_,?_,trivial⟩<;>(try simp +decide only [F,reduceIte,Nat.reduceAdd,qB,qC,EN, *,-h])
  replace h:=bI b24 h
  rcases bS (p0.Kind==6) with b25 | b25
  ·replace h:=bJ b25 h
   refine rn ?_
   cases h
   refine mG ⟨?_,?_,?_,?_,trivial⟩<;>(try simp +decide only [F,reduceIte,Nat.reduceAdd,qB,qC,EN, *,-h])
  replace h:=bI b25 h
  rcases bS (p0.Kind==7) with b26 | b26
  ·replace h:=bJ b26 h
   refine rn ?_
   cases h
   refine mG ⟨?_,?_,?_,?_,trivial⟩<;>(try simp +decide only [F,reduceIte,Nat.reduceAdd,qB,qC,EN, *,-h])
  replace h:=bI b26 h
  refine rn ?_
  cases h
  refine mG ⟨?_,?_,?_,?_,trivial⟩<;>(try simp +decide only [F,reduceIte,Nat.reduceAdd,qB,qC,EN, *,-h])
 clear h18
 rintro s19 ⟨f20,f21,f22,f23,_⟩
 refine sq ?_
 obtain ⟨x27,h28,h⟩:=bind_some h
 refine aCn (fun s=>s.t 1=vI p1∧s.t 2=vP 2 1 0∧s.t 64=vB x27∧s.h 2=(1,oX 279 (M.Instr.en p0))∧True) ?_ ?_
 ·replace h:=h28
  clear h28
  rcases aEW x17 with b34 | b34
  ·replace h:=bI b34 h
   refine rn ?_
   cases h
   refine mG ⟨?_,?_,?_,?_,trivial⟩<;>(try simp +decide only [F,reduceIte,Nat.reduceAdd,qB,qC,EN, *,-h])
  replace h:=bJ b34 h
  obtain ⟨x35,h36,h⟩:=bind_some h
  rcases bS (!x35) with b37 | b37
  ·replace h:=bJ b37 h
   refine rn1 (aRk _ _ h36) ?_
   cases h
   refine mG ⟨?_,?_,?_,?_,trivial⟩<;>(try simp +decide only [F,reduceIte,Nat.reduceAdd,qB,qC,EN, *,-h])
  replace h:=bI b37 h
  refine rn1 (aRk _ _ h36) ?_
  cases h
  refine mG ⟨?_,?_,?_,?_,trivial⟩<;>(try simp +decide only [F,reduceIte,Nat.reduceAdd,qB,qC,EN, *,-h])
 clear h28
 rintro s29 ⟨f30,f31,f32,f33,_⟩
 rcases bS x27 with b38 | b38
 ·replace h:=bJ b38 h
  refine ct (sq (rn ?_))
  refine an (rt ?_)
  cases h
  simp [Ret,TB,EN, *]
 replace h:=bI b38 h
 refine cf (sk (an (sq (sq (rn ?_)))))
 refine an (bk (sq (rn ?_)))
 refine an ?_
 rcases bS (p0.Kind==1) with b39 | b39
 ·replace h:=bJ b39 h
  refine ct (sq ?_)
  obtain ⟨x40,h41,h⟩:=bind_some h
  refine rn1 (aKR _ _ _ _ h41) ?_
  refine an (rt ?_)
  cases h
  simp [Ret,TB,EN, *]
 replace h:=bI b39 h
 refine cf (sq (rn ?_))
 refine an ?_
 rcases bS (p0.Kind==2) with b42 | b42
 ·replace h:=bJ b42 h
  refine ct (sq ?_)
  obtain ⟨x43,h44,h⟩:=bind_some h
  refine rn1 (aKR _ _ _ _ h44) ?_
  refine an (rt ?_)
  cases h
  simp [Ret,TB,EN, *]
 replace h:=bI b42 h
 refine cf ?_
 obtain ⟨x45,h46,h⟩:=bind_some h
 refine aCn (fun s=>s.t 1=vI p1∧s.t 2=vP 2 1 0∧s.t 66=vI p0.Kind∧s.t 77=vB x45∧s.h 2=(1,oX 279 (M.Instr.en p0))∧True) ?_ ?_
 ·replace h:=h46
  clear h46
  refine sq (rn ?_)
  refine an ?_
  rcases bS (p0.Kind==3) with b53 | b53
  ·replace h:=bJ b53 h
   refine ct (sk ?_)
   cases h
   refine mG ⟨?_,?_,?_,?_,?_,trivial⟩<;>(try simp +decide only [F,reduceIte,Nat.reduceAdd,qB,qC,EN, *,-h])
  replace h:=bI b53 h
  refine cf (rn ?_)
  cases h
  refine mG ⟨?_,?_,?_,?_,?_,trivial⟩<;>(try simp +decide only [F,reduceIte,Nat.reduceAdd,qB,qC,EN, *,-h])
 clear h46
 rintro s47 ⟨f48,f49,f50,f51,f52,_⟩
 rcases bS x45 with b54 | b54
 ·replace h:=bJ b54 h
  refine ct (sq ?_)
  obtain ⟨x55,h56,h⟩:=bind_some h
  refine rn1 (aKR _ _ _ _ h56) ?_
  refine an (rt ?_)
  cases h
  simp [Ret,TB,EN, *]
 replace h:=bI b54 h
 refine cf ?_
 obtain ⟨x57,h58,h⟩:=bind_some h
 refine aCn (fun s=>s.t 2=vP 2 1 0∧s.t 84=vB x57∧s.h 2=(1,oX 279 (M.Instr.en p0))∧True) ?_ ?_
 ·replace h:=h58
  clear h58
  refine sq (rn ?_)
  refine an ?_
  rcases bS (p0.Kind==6) with b63 | b63
  ·replace h:=bJ b63 h
   refine ct (sk ?_)
   cases h
   refine mG ⟨?_,?_,?_,trivial⟩<;>(try simp +decide only [F,reduceIte,Nat.reduceAdd,qB,qC,EN, *,-h])
  replace h:=bI b63 h
  refine cf (sq (rn ?_))
  refine an ?_
  rcases bS (p0.Kind==7) with b64 | b64
  ·replace h:=bJ b64 h
   refine ct (sk ?_)
   cases h
   refine mG ⟨?_,?_,?_,trivial⟩<;>(try simp +decide only [F,reduceIte,Nat.reduceAdd,qB,qC,EN, *,-h])
  replace h:=bI b64 h
  refine cf (rn ?_)
  cases h
  refine mG ⟨?_,?_,?_,trivial⟩<;>(try simp +decide only [F,reduceIte,Nat.reduceAdd,qB,qC,EN, *,-h])
 clear h58
 rintro s59 ⟨f60,f61,f62,_⟩
 rcases aEW x57 with b65 | b65
 ·replace h:=bI b65 h
  refine cf (sk (ab (an (sq (rn ?_)))))
  refine an (rt ?_)
  cases h
  simp [Ret,TB,EN, *]
 replace h:=bJ b65 h
 refine ct (sq ?_)
 obtain ⟨x66,h67,h⟩:=bind_some h
 refine rn1 (aKR _ _ _ _ h67) ?_
 refine an (rt ?_)
 cases h
 simp [Ret,TB,EN, *]
instance:bD 556 (type_of% @aWh):=⟨@aWh⟩
theorem aTK (p0 r) (h:zJ p0=some r):Sc 483 [aL M.Instr.en p0] [rB r]:=by
 have i1:=inv fun m s=>∃v7:Int,(s.t 0=vL M.Instr.en p0∧s.t 5=vL M.Instr.en p0∧s.t 6=vI (List.length p0:Int)∧s.t 7=vI v7)∧jR p0 m v7=some r
 have e1:=@jR.eq_2
 unfold zJ at h
 exact sgo 20 [.tmp 2] Tryz.func483
instance:bD 483 (type_of% @aTK):=⟨@aTK⟩
theorem aWX (p0 r) (h:sX p0=some r):Sc 366 [aL M.Instr.en p0] [(true,M.Machine.rs r)]:=by
 unfold sX at h
 simp only [EN]
 refine sgn 16 [.cell 2 65] Tryz.func366 fun base wd => ?_
 refine sq (rn ?_)
 refine an (sq ?_)
 apply aBR
 ·simp +decide only [E,reduceIte,Nat.reduceAdd,Nat.reduceMul,qB,qC,L,ti3,aTY,aSz,enI,EN]
  try refine ⟨by decide,?_⟩
  try simp +decide only [E,reduceIte,Nat.reduceAdd,Nat.reduceMul,qB,qC,L,ti3,aTY,aSz,enI,EN]
  exact Is.mk _
 refine an (sq (sq ?_))
 refine cu (fun s=>s.t 0=vL M.Instr.en p0∧s.t 2=vP 2 1 0∧s.t 3=vP 3 1 0∧s.h 2=(1,aU0)∧s.h 3=(1,oB 65 [.nil,cI 0,.row 100004 1,cI 0,cB false,cB false])∧s.h 100004=(1,oW 3 1 enI (List.replicate 4 0))∧True) ?_
 rintro s1 ⟨f2,f3,f4,f5,f6,f7,_⟩
 obtain ⟨x8,h9,h⟩:=bind_some h
 refine rn1 (aTK _ _ h9) ?_
 refine an ?_
 rcases bS (!x8) with b10 | b10
 ·replace h:=bJ b10 h
  refine ct (sq (rn ?_))
  refine an (sq (rn ?_))
  refine an (rt ?_)
  cases h
  simp [Ret,TB,EN, *]
 replace h:=bI b10 h
 refine cf (sk (an (sq ?_)))
 obtain ⟨x11,h12,h⟩:=bind_some h
 refine rn1 h12 ?_
 refine an (sq (rn ?_))
 refine an (rt ?_)
 cases h
 simp [Ret,TB,EN, *]
instance:bD 366 (type_of% @aWX):=⟨@aWX⟩
theorem aR4 (p0 p1 p2 p3 p4 r) (h:mD p0 p1 p2 p3 p4=some r):Sc 218 [aI p0,aS p1,aS p2,aI p3,aL M.Instr.en p4] [(true,M.bH.rs r.1),rB r.2]:=by
 unfold mD at h
 exact sgo 25 [.cell 10 67,.tmp 11] Tryz.func218
instance:bD 218 (type_of% @aR4):=⟨@aR4⟩
theorem aSs (p0 c0 r) (h:pX p0 c0=some r):Sc 481 [aX (M.Cache.en p0),(false,[.ptr [.int .i64 c0]])] [rB r]:=by
 unfold pX at h
 exact sgo 8 [.tmp 3] Tryz.func481
instance:bD 481 (type_of% @aSs):=⟨@aSs⟩
theorem aSg (p0:List M.Cache) (p1:M.Cache→Option Bool) (f1_:FuncId) (k1_:List D) (hp1 : ∀z0 r,p1 z0=some r→mY Tryz.prog f1_ ((true,M.Cache.en z0) ::  k1_.map fun c=>(false,[c])) [(false,[.ro (.bool r)])]) (r:Int) (h:iX p0 p1=some r):Sc 480 [(false,[.sl (List.map M.Cache.en p0)]),(false,[.fn f1_ k1_])] [rI r]:=by
 unfold iX at h
 simp only [EN]
 refine sgn 19 [.tmp 4] Tryz.func480 fun base wd => ?_
 refine sq (rn ?_)
 refine an (sq (sq (rn ?_)))
 refine an (bk ?_)
 refine aC5 (fun m s=>∃v8:Int,s.t 0=vL M.Cache.en p0∧s.t 1 = .v false [.dat (.fn f1_ k1_)]∧s.t 7=vI (List.length p0:Int)∧s.t 8=vI v8∧cD p0 p1 m v8=some r) fuel ?_ ?_
 ·refine ⟨0,?_,?_,?_,?_,h⟩
  all_goals simp +decide only [F,reduceIte,Nat.reduceAdd,qB,qC,EN, *,-h]
 rintro mL1 s1 ⟨v8,f2,f3,f4,f5,h⟩
 rcases mL1 with _ | mL1
 ·exact absurd h (by simp [cD])
 simp only [cD] at h
 refine sq (rn ?_)
 refine an (sq ?_)
 rcases aEW (decide (v8<(List.length p0:Int))) with b6 | b6
 ·replace h:=bI b6 h
  refine cf (xt (aEz (aEh (aIT (an (sq (rn ?_)))))))
  refine an (rt ?_)
  cases h
  simp [Ret,TB,EN, *]
 replace h:=bJ b6 h
 refine ct (sk (an (sq (bk (sq (rn ?_))))))
 refine an (sq ?_)
 obtain ⟨x7,h8,h⟩:=bind_some h
 obtain ⟨q9,q10,q11⟩:=aV h8
 obtain ⟨x12,h13,h⟩:=bind_some h
 refine rn1 (hp1 x7 x12 h13) ?_
 refine an ?_
 rcases bS x12 with b14 | b14
 ·replace h:=bJ b14 h
  refine ct (sq (rn ?_))
  refine an (rt ?_)
  cases h
  simp [Ret,TB,EN, *]
 replace h:=bI b14 h
 refine cf (sk (ab (an (rn ?_))))
 refine mG ⟨mL1,by omega,(IntKind.i64.wrap (v8+1)),?_,?_,?_,?_,h⟩
 all_goals simp +decide only [F,reduceIte,Nat.reduceAdd,qB,qC,EN, *,-h]
instance:bD 480 (type_of% @aSg):=⟨@aSg⟩
theorem aU1 (p0 p1 r) (h:xL p0 p1=some r):Sc 361 [aX (M.aO.en p0),aI p1] [rI r]:=by
 unfold xL at h
 simp only [EN]
 refine sgn 9 [.tmp 4] Tryz.func361 fun base wd => ?_
 refine sq (rn ?_)
 refine an (sq ?_)
 obtain ⟨x1,h2,h⟩:=bind_some h
 refine rn1 (aSg p0.Caches (fun z0=>pX z0 p1) 481 [.ptr [.int .i64 p1]] (fun z0 r hr=>aSs z0 p1 r hr) x1 h2) ?_
 refine an (rt ?_)
 cases h
 simp [Ret,TB,EN, *]
instance:bD 361 (type_of% @aU1):=⟨@aU1⟩
theorem aWm (r) (h:eI=some r):Sc 369 [] [(true,M.Response.rs r)]:=by
 unfold eI at h
 exact sgo 2 [.cell 0 277] Tryz.func369
instance:bD 369 (type_of% @aWm):=⟨@aWm⟩
theorem aYZ (p0 p1 p2 p3 r) (h:uH p0 p1 p2 p3=some r):Sc 368 [aX (M.aO.en p0),aI p1,aS p2,aS p3] [(true,M.Response.rs r.1),rB r.2]:=by
 unfold uH at h
 exact sgo 40 [.cell 8 277,.tmp 9] Tryz.func368
instance:bD 368 (type_of% @aYZ):=⟨@aYZ⟩
theorem aYH (p0 p1 r) (h:mS p0 p1=some r):Sc 357 [aX (M.Site.en p0),aI p1] [rB r]:=by
 unfold mS at h
 exact sgo 24 [.tmp 4] Tryz.func357
instance:bD 357 (type_of% @aYH):=⟨@aYH⟩
theorem aUx (p0 p1 r) (h:lN p0 p1=some r):Sc 553 [aL enS p0,aS p1] [rB r]:=by
 unfold lN at h
 exact sgo 9 [.tmp 4] Tryz.func553
instance:bD 553 (type_of% @aUx):=⟨@aUx⟩
theorem aVv (p0 p1 r) (h:aAl p0 p1=some r):Sc 478 [aX (M.Site.en p0),aS p1] [rB r]:=by
 unfold aAl at h
 exact sgo 9 [.tmp 4] Tryz.func478
instance:bD 478 (type_of% @aVv):=⟨@aVv⟩
theorem aVO (p0 r) (h:rG p0=some r):Sc 507 [aL enB p0] [rW 3 1 enI r]:=by
 have i1:=inv fun m s=>∃v11:Int,∃r8:List Int,∃u8:Nat,(s.t 3=vR 100008 u8∧s.t 9=vL enB p0∧s.t 10=vI (List.length p0:Int)∧s.t 11=vI v11∧s.h 100008=(u8,oW 3 1 enI r8))∧gH p0 m v11 r8=some r
 have e1:=@gH.eq_2
 unfold rG at h
 exact sgo 22 [.tmp 2] Tryz.func507
instance:bD 507 (type_of% @aVO):=⟨@aVO⟩
theorem aWd (p0 p1 r) (h:aDv p0 p1=some r):Sc 576 [aI p0,aI p1] [rI r]:=by
 unfold aDv at h
 exact sgo 18 [.tmp 4] Tryz.func576
instance:bD 576 (type_of% @aWd):=⟨@aWd⟩
theorem aUM (p0 r) (h:aDC p0=some r):Sc 506 [aL enI p0] [rI r]:=by
 have i1:=inv fun m s=>∃v3:Int,∃v8:Int,(s.t 3=vI v3∧s.t 6=vL enI p0∧s.t 7=vI (List.length p0:Int)∧s.t 8=vI v8)∧rY p0 m v3 v8=some r
 have e1:=@rY.eq_2
 unfold aDC at h
 exact sgo 21 [.tmp 2] Tryz.func506
instance:bD 506 (type_of% @aUM):=⟨@aUM⟩
theorem aUo (p0 p1 r) (h:oZ p0 p1=some r):Sc 554 [aI p0,aL enI p1] [rI r]:=by
 unfold oZ at h
 exact sgo 13 [.tmp 4] Tryz.func554
instance:bD 554 (type_of% @aUo):=⟨@aUo⟩
theorem aUt (p0 p1 r) (h:gW p0 p1=some r):Sc 555 [aI p0,aS p1] [rI r]:=by
 unfold gW at h
 exact sgo 14 [.tmp 4] Tryz.func555
instance:bD 555 (type_of% @aUt):=⟨@aUt⟩
theorem aUr (p0 p1 p2 r) (h:aB8 p0 p1 p2=some r):Sc 479 [aX (M.Site.en p0),aS p1,aI p2] [rW 5 1 enB r]:=by
 have i1:=fun (x5:Int)=>inv fun m s=>∃v9:Int,∃r19:List Int,∃u19:Nat,(s.t 7=vI x5∧s.t 8=vR 100019 u19∧s.t 9=vI v9∧s.h 100019=(u19,oW 5 1 enB r19))∧eS x5 m v9 r19=some r
 have e1:=@eS.eq_2
 unfold aB8 at h
 exact sgo 33 [.tmp 6] Tryz.func479
instance:bD 479 (type_of% @aUr):=⟨@aUr⟩
theorem aT8 (p0 p1 p2 r) (h:wM p0 p1 p2=some r):Sc 360 [aX (M.Site.en p0),aS p1,aI p2] [(true,M.Response.rs r)]:=by
 unfold wM at h
 exact sgo 32 [.cell 6 277] Tryz.func360
instance:bD 360 (type_of% @aT8):=⟨@aT8⟩
theorem aR0 (p0 p1 p2 p3 p4 r) (h:jS p0 p1 p2 p3 p4=some r):Sc 220 [aX (M.aO.en p0),aX (M.Site.en p1),aI p2,aS p3,aB p4] [(true,M.Response.rs r)]:=by
 unfold jS at h
 exact sgo 32 [.cell 10 277] Tryz.func220
instance:bD 220 (type_of% @aR0):=⟨@aR0⟩
theorem aR5 (p0 p1 p2 r) (h:oE p0 p1 p2=some r):Sc 219 [aX (M.bH.en p0),aS p1,aX (M.Response.en p2)] [(true,M.bH.rs r.1),rB r.2]:=by
 unfold oE at h
 exact sgo 43 [.cell 6 67,.tmp 7] Tryz.func219
instance:bD 219 (type_of% @aR5):=⟨@aR5⟩
theorem c35 (p0 p1 r) (h:mC p0 p1=some r):Sc 35 [aX (M.aA.en p0),aX (M.aC.en p1)] [(true,M.aA.rs r.1),rB r.2]:=by
 have i1:=fun (x1:M.aA)=>inv fun m s=>∃v8:Int,(s.t 2=vP 2 1 0∧s.t 3=vP 3 1 0∧s.t 4=vP 4 1 0∧s.t 6=vP 6 1 0∧s.t 8=vI v8∧s.h 2=(1,oX 47 (M.aA.en p0))∧s.h 3=(1,oX 98 (M.aC.en p1))∧s.h 4=(1,oB 47 [.nil])∧s.h 6=(1,oB 47 [.row 100010 1])∧s.h 100010=(1,oW 98 24 M.aC.en x1.Buckets))∧iM p0 p1 x1 m v8=some r
 have e1:=@iM.eq_2
 unfold mC at h
 exact sgo 60 [.cell 4 47,.tmp 5] Tryz.func35
instance:bD 35 (type_of% @c35):=⟨@c35⟩
end Go.Proofs.YtimblbmbfdopgaaGreat.gen
