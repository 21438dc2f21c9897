/-
  Helper text. No conditions.
-/
import Derived.Test.YtipmihbgjolaaaaGreatWorldsMod
set_option linter.unusedVariables false
set_option linter.unusedSimpArgs false
namespace Go.Proofs.YtipmihbgjolaaaaGreat.gen
open Go Go.Sh
structure M.aAC.ok (x:M.aAC):Prop where
 aAO:x.aAO.size<=maxLen
 aAc:inI x.aAc
 aAl:inI x.aAl
 aAr:inI x.aAr
def M.aAC.sh:List Shp:=[.str,.int .i64,.int .i64,.int .i64]
def M.aAC.sz (x:M.aAC):Nat:=x.aAO.size
structure M.aAM.ok (x:M.aAM):Prop where
 aA0:inI x.aA0
 aAw:inI x.aAw
 aAB:inI x.aAB
 aA4:okB x.aA4
def M.aAM.sh:List Shp:=[.int .i64,.int .i64,.int .i64,.sl [.int .u8],.bool]
def M.aAM.sz (x:M.aAM):Nat:=x.aA4.length
structure M.aAR.ok (x:M.aAR):Prop where
 aAO:x.aAO.size<=maxLen
 aAs:x.aAs.size<=maxLen
 aAM:M.aAM.ok x.aAM
def M.aAR.sh:List Shp:=[.str,.str,.int .i64,.int .i64,.int .i64,.sl [.int .u8],.bool]
def M.aAR.sz (x:M.aAR):Nat:=x.aAO.size+(x.aAs.size+(M.aAM.sz x.aAM))
structure M.aAL.ok (x:M.aAL):Prop where
 aAB:inI x.aAB
 aAN:(x.aAN.length<=maxLen /\ ∀y∈x.aAN,M.aAR.ok y)
def M.aAL.sh:List Shp:=[.int .i64,.sl M.aAR.sh]
def M.aAL.sz (x:M.aAL):Nat:=(x.aAN.length+gO M.aAR.sz x.aAN)
structure M.aF.ok (x:M.aF):Prop where
 aAE:(x.aAE.length<=maxLen /\ ∀y∈x.aAE,M.aAL.ok y)
def M.aF.sh:List Shp:=[.sl M.aAL.sh]
def M.aF.sz (x:M.aF):Nat:=(x.aAE.length+gO M.aAL.sz x.aAE)
structure M.Key.ok (x:M.Key):Prop where
 aAV:inI x.aAV
 N:inI x.N
 aAf:x.aAf.size<=maxLen
def M.Key.sh:List Shp:=[.int .i64,.int .i64,.str]
def M.Key.sz (x:M.Key):Nat:=x.aAf.size
structure M.Field.ok (x:M.Field):Prop where
 Name:x.Name.size<=maxLen
 N:inI x.N
def M.Field.sh:List Shp:=[.str,.int .i64]
def M.Field.sz (x:M.Field):Nat:=x.Name.size
structure M.aC.ok (x:M.aC):Prop where
 aAF:(x.aAF.length<=maxLen /\ ∀y∈x.aAF,M.Field.ok y)
def M.aC.sh:List Shp:=[.sl M.Field.sh]
def M.aC.sz (x:M.aC):Nat:=(x.aAF.length+gO M.Field.sz x.aAF)
structure M.aAQ.ok (x:M.aAQ):Prop where
 Key:M.Key.ok x.Key
 aC:M.aC.ok x.aC
def M.aAQ.sh:List Shp:=[.int .i64,.int .i64,.str,.sl M.Field.sh]
def M.aAQ.sz (x:M.aAQ):Nat:=M.Key.sz x.Key+(M.aC.sz x.aC)
structure M.aA.ok (x:M.aA):Prop where
 Name:x.Name.size<=maxLen
 aAD:(x.aAD.length<=maxLen /\ ∀y∈x.aAD,M.aAQ.ok y)
 aAd:inI x.aAd
def M.aA.sh:List Shp:=[.str,.sl M.aAQ.sh,.int .i64]
def M.aA.sz (x:M.aA):Nat:=x.Name.size+((x.aAD.length+gO M.aAQ.sz x.aAD))
structure M.aN.ok (x:M.aN):Prop where
 aA:x.aA.size<=maxLen
 Field:x.Field.size<=maxLen
def M.aN.sh:List Shp:=[.str,.str]
def M.aN.sz (x:M.aN):Nat:=x.aA.size+(x.Field.size)
structure M.aAA.ok (x:M.aAA):Prop where
 Name:x.Name.size<=maxLen
 aAB:inI x.aAB
 aAH:(x.aAH.length<=maxLen /\ ∀y∈x.aAH,M.aA.ok y)
 aAS:(x.aAS.length<=maxLen /\ ∀y∈x.aAS,M.aN.ok y)
def M.aAA.sh:List Shp:=[.str,.int .i64,.sl M.aA.sh,.sl M.aN.sh]
def M.aAA.sz (x:M.aAA):Nat:=x.Name.size+((x.aAH.length+gO M.aA.sz x.aAH)+((x.aAS.length+gO M.aN.sz x.aAS)))
structure M.cR.ok (x:M.cR):Prop where
 aAU:M.aAA.ok x.aAU
 Log:okB x.Log
 aAn:inI x.aAn
def M.cR.sh:List Shp:=[.str,.int .i64,.sl M.aA.sh,.sl M.aN.sh,.sl [.int .u8],.int .i64]
def M.cR.sz (x:M.cR):Nat:=M.aAA.sz x.aAU+(x.Log.length)
structure M.bA.ok (x:M.bA):Prop where
 aAK:inI x.aAK
 Seq:inI x.Seq
 Key:M.Key.ok x.Key
 Field:x.Field.size<=maxLen
 N:inI x.N
def M.bA.sh:List Shp:=[.int .i64,.int .i64,.int .i64,.int .i64,.str,.str,.int .i64]
def M.bA.sz (x:M.bA):Nat:=M.Key.sz x.Key+(x.Field.size)
structure M.aH.ok (x:M.aH):Prop where
 aAK:inI x.aAK
 aAh:inI x.aAh
 aAP:(x.aAP.length<=maxLen /\ ∀y∈x.aAP,M.bA.ok y)
def M.aH.sh:List Shp:=[.int .i64,.int .i64,.sl M.bA.sh]
def M.aH.sz (x:M.aH):Nat:=(x.aAP.length+gO M.bA.sz x.aAP)
structure M.aAT.ok (x:M.aAT):Prop where
 aH:M.aH.ok x.aH
 aAm:inI x.aAm
 aAb:inI x.aAb
def M.aAT.sh:List Shp:=[.int .i64,.int .i64,.sl M.bA.sh,.int .i64,.int .i64]
def M.aAT.sz (x:M.aAT):Nat:=M.aH.sz x.aH
structure M.aG.ok (x:M.aG):Prop where
 aAU:M.aA.ok x.aAU
 aAu:inI x.aAu
 aAT:M.aAT.ok x.aAT
def M.aG.sh:List Shp:=[.str,.sl M.aAQ.sh,.int .i64,.int .i64,.int .i64,.int .i64,.sl M.bA.sh,.int .i64,.int .i64]
def M.aG.sz (x:M.aG):Nat:=M.aA.sz x.aAU+(M.aAT.sz x.aAT)
structure M.aO.ok (x:M.aO):Prop where
 aAO:x.aAO.size<=maxLen
 Top:x.Top.size<=maxLen
 aAC:M.aAC.ok x.aAC
 aAE:M.aF.ok x.aAE
 cR:M.cR.ok x.cR
 aG:M.aG.ok x.aG
 aAk:inI x.aAk
def M.aO.sh:List Shp:=[.str,.str,.str,.int .i64,.int .i64,.int .i64,.sl M.aAL.sh,.str,.int .i64,.sl M.aA.sh,.sl M.aN.sh,.sl [.int .u8],.int .i64,.str,.sl M.aAQ.sh,.int .i64,.int .i64,.int .i64,.int .i64,.sl M.bA.sh,.int .i64,.int .i64,.int .i64,.bool]
def M.aO.sz (x:M.aO):Nat:=x.aAO.size+(x.Top.size+(M.aAC.sz x.aAC+(M.aF.sz x.aAE+(M.cR.sz x.cR+(M.aG.sz x.aG)))))
structure M.aJ.ok (x:M.aJ):Prop where
 aAG:(x.aAG.length<=maxLen /\ ∀y∈x.aAG,M.aO.ok y)
def M.aJ.sh:List Shp:=[.sl M.aO.sh]
def M.aJ.sz (x:M.aJ):Nat:=(x.aAG.length+gO M.aO.sz x.aAG)
structure M.aU.ok (x:M.aU):Prop where
 aAs:x.aAs.size<=maxLen
 aAB:inI x.aAB
def M.aU.sh:List Shp:=[.str,.int .i64]
def M.aU.sz (x:M.aU):Nat:=x.aAs.size
structure M.Instr.ok (x:M.Instr):Prop where
 aAV:inI x.aAV
 R:inI x.R
 N:inI x.N
 aAf:x.aAf.size<=maxLen
def M.Instr.sh:List Shp:=[.int .i64,.int .i64,.int .i64,.str]
def M.Instr.sz (x:M.Instr):Nat:=x.aAf.size
structure M.aAJ.ok (x:M.aAJ):Prop where
 aAp:(x.aAp.length<=maxLen /\ ∀y∈x.aAp,M.Instr.ok y)
 Pc:inI x.Pc
 aA1:okI x.aA1
 aAy:inI x.aAy
def M.aAJ.sh:List Shp:=[.sl M.Instr.sh,.int .i64,.sl [.int .i64],.int .i64,.bool,.bool]
def M.aAJ.sz (x:M.aAJ):Nat:=(x.aAp.length+gO M.Instr.sz x.aAp)+(x.aA1.length)
structure M.bV.ok (x:M.bV):Prop where
 Id:inI x.Id
 aAO:x.aAO.size<=maxLen
 Top:x.Top.size<=maxLen
 aAB:inI x.aAB
 aU:(x.aU.length<=maxLen /\ ∀y∈x.aU,M.aU.ok y)
 aAJ:M.aAJ.ok x.aAJ
def M.bV.sh:List Shp:=[.int .i64,.str,.str,.int .i64,.sl M.aU.sh,.sl M.Instr.sh,.int .i64,.sl [.int .i64],.int .i64,.bool,.bool]
def M.bV.sz (x:M.bV):Nat:=x.aAO.size+(x.Top.size+((x.aU.length+gO M.aU.sz x.aU)+(M.aAJ.sz x.aAJ)))
structure M.tV.ok (x:M.tV):Prop where
 Name:x.Name.size<=maxLen
 bV:inI x.bV
def M.tV.sh:List Shp:=[.str,.int .i64,.bool,.bool]
def M.tV.sz (x:M.tV):Nat:=x.Name.size
structure M.cH.ok (x:M.cH):Prop where
 aAW:(x.aAW.length<=maxLen /\ ∀y∈x.aAW,M.tV.ok y)
def M.cH.sh:List Shp:=[.sl M.tV.sh]
def M.cH.sz (x:M.cH):Nat:=(x.aAW.length+gO M.tV.sz x.aAW)
structure M.xV.ok (x:M.xV):Prop where
 To:inI x.To
 aBC:inI x.aBC
 N:inI x.N
def M.xV.sh:List Shp:=[.int .i64,.int .i64,.int .i64]
structure M.aAa.ok (x:M.aAa):Prop where
 aAx:(x.aAx.length<=maxLen /\ ∀y∈x.aAx,M.xV.ok y)
def M.aAa.sh:List Shp:=[.sl M.xV.sh]
def M.aAa.sz (x:M.aAa):Nat:=x.aAx.length
structure M.aAO.ok (x:M.aAO):Prop where
 Name:x.Name.size<=maxLen
 aAB:inI x.aAB
 aAo:okS x.aAo
def M.aAO.sh:List Shp:=[.str,.int .i64,.sl [.str],.bool]
def M.aAO.sz (x:M.aAO):Nat:=x.Name.size+((x.aAo.length+gO ByteArray.size x.aAo))
structure M.aK.ok (x:M.aK):Prop where
 aAK:inI x.aAK
 Seq:inI x.Seq
def M.aK.sh:List Shp:=[.int .i64,.int .i64]
structure M.aAI.ok (x:M.aAI):Prop where
 aA:M.aA.ok x.aA
 aK:(x.aK.length<=maxLen /\ ∀y∈x.aK,M.aK.ok y)
 aAZ:(x.aAZ.length<=maxLen /\ ∀y∈x.aAZ,M.bA.ok y)
def M.aAI.sh:List Shp:=[.str,.sl M.aAQ.sh,.int .i64,.sl M.aK.sh,.sl M.bA.sh]
def M.aAI.sz (x:M.aAI):Nat:=M.aA.sz x.aA+(x.aK.length+((x.aAZ.length+gO M.bA.sz x.aAZ)))
structure M.World.ok (x:M.World):Prop where
 Now:inI x.Now
 aAK:inI x.aAK
 aJ:M.aJ.ok x.aJ
 aAX:(x.aAX.length<=maxLen /\ ∀y∈x.aAX,M.bV.ok y)
 aAg:inI x.aAg
 aAW:M.cH.ok x.aAW
 aAa:M.aAa.ok x.aAa
 aAe:(x.aAe.length<=maxLen /\ ∀y∈x.aAe,M.aAO.ok y)
 aAY:(x.aAY.length<=maxLen /\ ∀y∈x.aAY,M.aAI.ok y)
def M.World.sh:List Shp:=[.int .i64,.bool,.int .i64,.sl M.aO.sh,.sl M.bV.sh,.int .i64,.sl M.tV.sh,.sl M.xV.sh,.sl M.aAO.sh,.sl M.aAI.sh]
def M.World.sz (x:M.World):Nat:=M.aJ.sz x.aJ+((x.aAX.length+gO M.bV.sz x.aAX)+(M.cH.sz x.aAW+(M.aAa.sz x.aAa+((x.aAe.length+gO M.aAO.sz x.aAe)+((x.aAY.length+gO M.aAI.sz x.aAY))))))
structure M.Op.ok (x:M.Op):Prop where
 aAV:inI x.aAV
 aA:x.aA.size<=maxLen
 Key:M.Key.ok x.Key
 aC:M.aC.ok x.aC
 Field:x.Field.size<=maxLen
def M.Op.sh:List Shp:=[.int .i64,.str,.int .i64,.int .i64,.str,.sl M.Field.sh,.str]
def M.Op.sz (x:M.Op):Nat:=x.aA.size+(M.Key.sz x.Key+(M.aC.sz x.aC+(x.Field.size)))
structure M.fI.ok (x:M.fI):Prop where
 Low:M.Key.ok x.Low
 aA3:M.Key.ok x.aA3
def M.fI.sh:List Shp:=[.bool,.bool,.int .i64,.int .i64,.str,.int .i64,.int .i64,.str]
def M.fI.sz (x:M.fI):Nat:=M.Key.sz x.Low+(M.Key.sz x.aA3)
structure M.iW.ok (x:M.iW):Prop where
 aAV:inI x.aAV
 aA:x.aA.size<=maxLen
 Field:x.Field.size<=maxLen
def M.iW.sh:List Shp:=[.int .i64,.str,.str]
def M.iW.sz (x:M.iW):Nat:=x.aA.size+(x.Field.size)
end Go.Proofs.YtipmihbgjolaaaaGreat.gen
