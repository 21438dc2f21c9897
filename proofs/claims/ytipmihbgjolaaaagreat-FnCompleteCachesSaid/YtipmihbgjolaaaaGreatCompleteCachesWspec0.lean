/-
  Helper text. No conditions.
-/
import Derived.Test.YtipmihbgjolaaaaGreatCompleteCachesTi
set_option linter.unusedVariables false
set_option linter.unusedSimpArgs false
namespace Go.Proofs.YtipmihbgjolaaaaGreat.gen
open Go Go.Sh
set_option maxRecDepth 20000
set_option maxHeartbeats 4000000
theorem c87 (p0 p1 p2 r) (h:bA p0 p1 p2=some r):Sc 87 [aI p0,aI p1,aI p2] [rB r]:=by unfold bA at h;exact sgo 15 [.tmp 6] Tryz.func87
instance:bF 87 (type_of% @c87):=⟨@c87⟩
theorem ZY (p0 r) (h:cA p0=some r):Sc 157 [aS p0] [rB r]:=by
 have i1:=inv λm s=>∃v3:Int,(s.t 0=vS p0/\s.t 3=vI v3)/\nS p0 m v3=some r
 have e1:=@nS.eq_2
 unfold cA at h
 exact sgo 23 [.tmp 2] Tryz.func157
instance:bF 157 (type_of% @ZY):=⟨@ZY⟩
theorem aD0 (p0 r) (h:xP p0=some r):Sc 366 [aX (M.aGm.en p0)] [rB r]:=by unfold xP at h;exact sgo 22 [.tmp 2] Tryz.func366
instance:bF 366 (type_of% @aD0):=⟨@aD0⟩
theorem aDn (p0 p1 r) (h:AS p0 p1=some r):Sc 199 [aX (M.aGl.en p0),aS p1] [rB r]:=by
 have i1:=inv λm s=>∃v5:Int,(s.t 1=vS p1/\s.t 2=vP 2 1 0/\s.t 5=vI v5/\s.h 2=(1,oX 85 (M.aGl.en p0)))/\oK p0 p1 m v5=some r
 have e1:=@oK.eq_2
 unfold AS at h
 exact sgo 20 [.tmp 4] Tryz.func199
instance:bF 199 (type_of% @aDn):=⟨@aDn⟩
theorem aES (p0 p1 r) (h:DY p0 p1=some r):Sc 275 [aI p0,aI p1] [rI r]:=by unfold DY at h;exact sgo 15 [.tmp 4] Tryz.func275
instance:bF 275 (type_of% @aES):=⟨@aES⟩
theorem c84 (r) (h:tV=some r):Sc 84 [] [rW 9 1 enS r]:=by unfold tV at h;exact sgo 2 [.tmp 0] Tryz.func84
instance:bF 84 (type_of% @c84):=⟨@c84⟩
theorem c29 (p0 r) (h:zX p0=some r):Sc 29 [aI p0] [(true,M.World.rs r)]:=by
 have i1:=λ(x4:(List ByteArray))=>D5 [.b 3 8 7050000 85 4,.b 3 9 7050001 137 5] λm s=>∃v5:Int,∃aa:List M.aGl,∃ae:List M.aGr,∃af:Nat,∃ah:Nat,(s.t 2=vP 2 1 0/\s.t 3=vP 3 1 0/\s.t 4=vR 100012 1/\s.t 5=vI v5/\s.h 2=(1,Qh)/\s.h 3=(1,oB 75 [cI 0,cB true,cI p0,.nil,.nil,cI 1,.nil,.nil,.row 7050000 af,.row 7050001 ah])/\s.h 100012=(1,oW 9 1 enS x4)/\s.h 7050000=(af,oW 85 4 M.aGl.en aa)/\s.h 7050001=(ah,oW 137 5 M.aGr.en ae))/\zP p0 x4 m v5 aa ae=some r
 have e1:=@zP.eq_2
 unfold zX at h
 exact sgo 43 [.cell 2 75] Tryz.func29
instance:bF 29 (type_of% @c29):=⟨@c29⟩
theorem aCV (p0 r) (h:cK p0=some r):Sc 347 [aX (M.aE.en p0)] [(true,M.aE.rs r)]:=by unfold cK at h;exact sgo 8 [.cell 2 254] Tryz.func347
instance:bF 347 (type_of% @aCV):=⟨@aCV⟩
theorem aFJ (p0 r) (h:yC p0=some r):Sc 310 [aX (M.aG1.en p0)] [(true,M.aG1.rs r)]:=by unfold yC at h;exact sgo 9 [.cell 2 284] Tryz.func310
instance:bF 310 (type_of% @aFJ):=⟨@aFJ⟩
theorem aFK (p0 r) (h:vA p0=some r):Sc 254 [aL M.Instr.en p0] [rW 216 4 M.Instr.en r]:=by unfold vA at h;exact sgo 6 [.tmp 2] Tryz.func254
instance:bF 254 (type_of% @aFK):=⟨@aFK⟩
theorem aDx (p0 r) (h:A3 p0=some r):Sc 268 [aX (M.aGu.en p0)] [(true,M.aGu.rs r)]:=by unfold A3 at h;exact sgo 15 [.cell 2 94] Tryz.func268
instance:bF 268 (type_of% @aDx):=⟨@aDx⟩
theorem aCn (p0 r) (h:zJ p0=some r):Sc 179 [aX (M.aGt.en p0)] [(true,M.aGt.rs r)]:=by unfold zJ at h;exact sgo 8 [.cell 2 71] Tryz.func179
instance:bF 179 (type_of% @aCn):=⟨@aCn⟩
theorem aBn (p0 r) (h:sV p0=some r):Sc 180 [aX (M.aGl.en p0)] [(true,M.aGl.rs r)]:=by unfold sV at h;exact sgo 11 [.cell 2 85] Tryz.func180
instance:bF 180 (type_of% @aBn):=⟨@aBn⟩
theorem aCL (p0 r) (h:As p0=some r):Sc 329 [aS p0] [rB r]:=by
 have i1:=inv λm s=>∃v3:Int,(s.t 0=vS p0/\s.t 3=vI v3)/\iQ p0 m v3=some r
 have e1:=@iQ.eq_2
 unfold As at h
 exact sgo 35 [.tmp 2] Tryz.func329
instance:bF 329 (type_of% @aCL):=⟨@aCL⟩
theorem aCw (p0 r) (h:fP p0=some r):Sc 257 [aX (M.Key.en p0)] [rB r]:=by unfold fP at h;exact sgo 36 [.tmp 2] Tryz.func257
instance:bF 257 (type_of% @aCw):=⟨@aCw⟩
theorem aEz (p0 p1 r) (h:Au p0 p1=some r):Sc 330 [aB p0,aB p1] [rI r]:=by unfold Au at h;exact sgo 7 [.tmp 4] Tryz.func330
instance:bF 330 (type_of% @aEz):=⟨@aEz⟩
theorem c53 (p0 p1 p2 r) (h:fD p0 p1 p2=some r):Sc 53 [aX (M.aA.en p0),aS p1,aS p2] [rI r]:=by
 have i1:=inv λm s=>∃v7:Int,(s.t 1=vS p1/\s.t 2=vS p2/\s.t 3=vP 3 1 0/\s.t 7=vI v7/\s.h 3=(1,oX 26 (M.aA.en p0)))/\gT p0 p1 p2 m v7=some r
 have e1:=@gT.eq_2
 unfold fD at h
 exact sgo 34 [.tmp 6] Tryz.func53
instance:bF 53 (type_of% @c53):=⟨@c53⟩
theorem aBX (p0 p1 r) (h:rO p0 p1=some r):Sc 313 [aX (M.aGh.en p0),aS p1] [rI r]:=by
 have i1:=inv λm s=>∃v5:Int,(s.t 1=vS p1/\s.t 2=vP 2 1 0/\s.t 5=vI v5/\s.h 2=(1,oX 35 (M.aGh.en p0)))/\lQ p0 p1 m v5=some r
 have e1:=@lQ.eq_2
 unfold rO at h
 exact sgo 22 [.tmp 4] Tryz.func313
instance:bF 313 (type_of% @aBX):=⟨@aBX⟩
theorem aDa (p0 p1 r) (h:bS p0 p1=some r):Sc 288 [aL enB p0,aI p1] [rW 5 1 enB r]:=by
 have i1:=inv λm s=>∃v1:Int,∃r6:List Int,∃u6:Nat,(s.t 1=vI v1/\s.t 5=vR 100006 u6/\s.h 100006=(u6,oW 5 1 enB r6))/\cQ m v1 r6=some r
 have e1:=@cQ.eq_2
 unfold bS at h
 exact sgo 29 [.tmp 4] Tryz.func288
instance:bF 288 (type_of% @aDa):=⟨@aDa⟩
theorem aCT (p0 r) (h:wV p0=some r):Sc 160 [aS p0] [rB r]:=by
 have i1:=inv λm s=>∃v3:Int,(s.t 0=vS p0/\s.t 3=vI v3)/\dQ p0 m v3=some r
 have e1:=@dQ.eq_2
 unfold wV at h
 exact sgo 29 [.tmp 2] Tryz.func160
instance:bF 160 (type_of% @aCT):=⟨@aCT⟩
theorem aDb (p0 r) (h:jE p0=some r):Sc 121 [aS p0] [rI r]:=by
 have i1:=λ(x1:(List ByteArray))=>inv λm s=>∃v4:Int,(s.t 0=vS p0/\s.t 3=vR 100005 1/\s.t 4=vI v4/\s.h 100005=(1,oW 9 1 enS x1))/\jQ p0 x1 m v4=some r
 have e1:=@jQ.eq_2
 unfold jE at h
 exact sgo 19 [.tmp 2] Tryz.func121
instance:bF 121 (type_of% @aDb):=⟨@aDb⟩
theorem aFX (p0 p1 p2 r) (h:AX p0 p1 p2=some r):Sc 357 [aL M.aP.en p0,aI p1,aI p2] [rW 207 2 M.aP.en r]:=by
 have i1:=inv λm s=>∃v8:Int,(s.t 0=vL M.aP.en p0/\s.t 1=vI p1/\s.t 2=vI p2/\s.t 7=vR 100009 2/\s.t 8=vI v8/\s.h 100009=(2,oW 207 2 M.aP.en p0))/\tJ p0 p1 p2 m v8=some r
 have e1:=@tJ.eq_2
 unfold AX at h
 exact sgo 60 [.tmp 6] Tryz.func357
instance:bF 357 (type_of% @aFX):=⟨@aFX⟩
end Go.Proofs.YtipmihbgjolaaaaGreat.gen
