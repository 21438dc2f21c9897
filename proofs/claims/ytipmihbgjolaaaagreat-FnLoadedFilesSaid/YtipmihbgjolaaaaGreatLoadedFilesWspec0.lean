/-
  Helper text. No conditions.
-/
import Derived.Test.YtipmihbgjolaaaaGreatLoadedFilesTi
set_option linter.unusedVariables false
set_option linter.unusedSimpArgs false
namespace Go.Proofs.YtipmihbgjolaaaaGreat.gen
open Go Go.Sh
set_option maxRecDepth 20000
set_option maxHeartbeats 4000000
theorem c87 (p0 p1 p2 r) (h:bA p0 p1 p2=some r):Sc 87 [aI p0,aI p1,aI p2] [rB r]:=by unfold bA at h;exact sgo 15 [.tmp 6] Tryz.func87
instance:bH 87 (type_of% @c87):=⟨@c87⟩
theorem c84 (r) (h:sV=some r):Sc 84 [] [rW 9 1 enS r]:=by unfold sV at h;exact sgo 2 [.tmp 0] Tryz.func84
instance:bH 84 (type_of% @c84):=⟨@c84⟩
theorem c29 (p0 r) (h:zE p0=some r):Sc 29 [aI p0] [(true,M.World.rs r)]:=by
 have i1:=λ(x4:(List ByteArray))=>DV [.b 3 8 7050000 85 4,.b 3 9 7050001 137 5] λm s=>∃v5:Int,∃aa:List M.aFD,∃ae:List M.aFG,∃af:Nat,∃ah:Nat,(s.t 2=vP 2 1 0/\s.t 3=vP 3 1 0/\s.t 4=vR 100012 1/\s.t 5=vI v5/\s.h 2=(1,Qy)/\s.h 3=(1,oB 75 [cI 0,cB true,cI p0,.nil,.nil,cI 1,.nil,.nil,.row 7050000 af,.row 7050001 ah])/\s.h 100012=(1,oW 9 1 enS x4)/\s.h 7050000=(af,oW 85 4 M.aFD.en aa)/\s.h 7050001=(ah,oW 137 5 M.aFG.en ae))/\yS p0 x4 m v5 aa ae=some r
 have e1:=@yS.eq_2
 unfold zE at h
 exact sgo 43 [.cell 2 75] Tryz.func29
instance:bH 29 (type_of% @c29):=⟨@c29⟩
theorem aA6 (p0 r) (h:cC p0=some r):Sc 347 [aX (M.aD.en p0)] [(true,M.aD.rs r)]:=by unfold cC at h;exact sgo 8 [.cell 2 254] Tryz.func347
instance:bH 347 (type_of% @aA6):=⟨@aA6⟩
theorem aDi (p0 r) (h:xH p0=some r):Sc 310 [aX (M.aFP.en p0)] [(true,M.aFP.rs r)]:=by unfold xH at h;exact sgo 9 [.cell 2 284] Tryz.func310
instance:bH 310 (type_of% @aDi):=⟨@aDi⟩
theorem aDj (p0 r) (h:uC p0=some r):Sc 254 [aL M.Instr.en p0] [rW 216 4 M.Instr.en r]:=by unfold uC at h;exact sgo 6 [.tmp 2] Tryz.func254
instance:bH 254 (type_of% @aDj):=⟨@aDj⟩
theorem aCT (p0 r) (h:AE p0=some r):Sc 268 [aX (M.aFI.en p0)] [(true,M.aFI.rs r)]:=by unfold AE at h;exact sgo 15 [.cell 2 94] Tryz.func268
instance:bH 268 (type_of% @aCT):=⟨@aCT⟩
theorem aAN (p0 r) (h:AG p0=some r):Sc 180 [aX (M.aFD.en p0)] [(true,M.aFD.rs r)]:=by unfold AG at h;exact sgo 11 [.cell 2 85] Tryz.func180
instance:bH 180 (type_of% @aAN):=⟨@aAN⟩
theorem Yz (p0 r) (h:bT p0=some r):Sc 157 [aS p0] [rB r]:=by
 have i1:=inv λm s=>∃v3:Int,(s.t 0=vS p0/\s.t 3=vI v3)/\nA p0 m v3=some r
 have e1:=@nA.eq_2
 unfold bT at h
 exact sgo 23 [.tmp 2] Tryz.func157
instance:bH 157 (type_of% @Yz):=⟨@Yz⟩
theorem aAw (p0 r) (h:zW p0=some r):Sc 329 [aS p0] [rB r]:=by
 have i1:=inv λm s=>∃v3:Int,(s.t 0=vS p0/\s.t 3=vI v3)/\iK p0 m v3=some r
 have e1:=@iK.eq_2
 unfold zW at h
 exact sgo 35 [.tmp 2] Tryz.func329
instance:bH 329 (type_of% @aAw):=⟨@aAw⟩
theorem aBX (p0 r) (h:fG p0=some r):Sc 257 [aX (M.Key.en p0)] [rB r]:=by unfold fG at h;exact sgo 36 [.tmp 2] Tryz.func257
instance:bH 257 (type_of% @aBX):=⟨@aBX⟩
theorem aDO (p0 p1 r) (h:zY p0 p1=some r):Sc 330 [aB p0,aB p1] [rI r]:=by unfold zY at h;exact sgo 7 [.tmp 4] Tryz.func330
instance:bH 330 (type_of% @aDO):=⟨@aDO⟩
theorem c53 (p0 p1 p2 r) (h:iU p0 p1 p2=some r):Sc 53 [aX (M.aA.en p0),aS p1,aS p2] [rI r]:=by
 have i1:=inv λm s=>∃v7:Int,(s.t 1=vS p1/\s.t 2=vS p2/\s.t 3=vP 3 1 0/\s.t 7=vI v7/\s.h 3=(1,oX 26 (M.aA.en p0)))/\gK p0 p1 p2 m v7=some r
 have e1:=@gK.eq_2
 unfold iU at h
 exact sgo 34 [.tmp 6] Tryz.func53
instance:bH 53 (type_of% @c53):=⟨@c53⟩
theorem aCW (p0 r) (h:wW p0=some r):Sc 366 [aX (M.aE9.en p0)] [rB r]:=by unfold wW at h;exact sgo 22 [.tmp 2] Tryz.func366
instance:bH 366 (type_of% @aCW):=⟨@aCW⟩
theorem Z9 (p0 p1 r) (h:pR p0 p1=some r):Sc 313 [aX (M.aE5.en p0),aS p1] [rI r]:=by
 have i1:=inv λm s=>∃v5:Int,(s.t 1=vS p1/\s.t 2=vP 2 1 0/\s.t 5=vI v5/\s.h 2=(1,oX 35 (M.aE5.en p0)))/\kY p0 p1 m v5=some r
 have e1:=@kY.eq_2
 unfold pR at h
 exact sgo 22 [.tmp 4] Tryz.func313
instance:bH 313 (type_of% @Z9):=⟨@Z9⟩
theorem aB7 (p0 p1 r) (h:bP p0 p1=some r):Sc 288 [aL enB p0,aI p1] [rW 5 1 enB r]:=by
 have i1:=inv λm s=>∃v1:Int,∃r6:List Int,∃u6:Nat,(s.t 1=vI v1/\s.t 5=vR 100006 u6/\s.h 100006=(u6,oW 5 1 enB r6))/\cK m v1 r6=some r
 have e1:=@cK.eq_2
 unfold bP at h
 exact sgo 29 [.tmp 4] Tryz.func288
instance:bH 288 (type_of% @aB7):=⟨@aB7⟩
theorem aA4 (p0 r) (h:wA p0=some r):Sc 160 [aS p0] [rB r]:=by
 have i1:=inv λm s=>∃v3:Int,(s.t 0=vS p0/\s.t 3=vI v3)/\dM p0 m v3=some r
 have e1:=@dM.eq_2
 unfold wA at h
 exact sgo 29 [.tmp 2] Tryz.func160
instance:bH 160 (type_of% @aA4):=⟨@aA4⟩
theorem aB8 (p0 r) (h:oH p0=some r):Sc 121 [aS p0] [rI r]:=by
 have i1:=λ(x1:(List ByteArray))=>inv λm s=>∃v4:Int,(s.t 0=vS p0/\s.t 3=vR 100005 1/\s.t 4=vI v4/\s.h 100005=(1,oW 9 1 enS x1))/\jH p0 x1 m v4=some r
 have e1:=@jH.eq_2
 unfold oH at h
 exact sgo 19 [.tmp 2] Tryz.func121
instance:bH 121 (type_of% @aB8):=⟨@aB8⟩
theorem aCK (p0 p1 r) (h:Ar p0 p1=some r):Sc 199 [aX (M.aFD.en p0),aS p1] [rB r]:=by
 have i1:=inv λm s=>∃v5:Int,(s.t 1=vS p1/\s.t 2=vP 2 1 0/\s.t 5=vI v5/\s.h 2=(1,oX 85 (M.aFD.en p0)))/\nR p0 p1 m v5=some r
 have e1:=@nR.eq_2
 unfold Ar at h
 exact sgo 20 [.tmp 4] Tryz.func199
instance:bH 199 (type_of% @aCK):=⟨@aCK⟩
theorem aCv (p0 p1 r) (h:Dm p0 p1=some r):Sc 275 [aI p0,aI p1] [rI r]:=by unfold Dm at h;exact sgo 15 [.tmp 4] Tryz.func275
instance:bH 275 (type_of% @aCv):=⟨@aCv⟩
theorem aA5 (p0 r) (h:Af p0=some r):Sc 353 [aX (M.aM.en p0)] [(true,M.bD.rs r.1),rB r.2]:=by unfold Af at h;exact sgo 13 [.cell 2 211,.tmp 3] Tryz.func353
instance:bH 353 (type_of% @aA5):=⟨@aA5⟩
end Go.Proofs.YtipmihbgjolaaaaGreat.gen
