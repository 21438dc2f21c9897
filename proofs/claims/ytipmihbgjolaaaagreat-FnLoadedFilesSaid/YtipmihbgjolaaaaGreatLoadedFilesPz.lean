/-
  Helper text. No conditions.
-/
import Derived.Test.YtipmihbgjolaaaaGreatLoadedFilesMod
set_option linter.unusedVariables false
set_option linter.unusedSimpArgs false
namespace Go.Proofs.YtipmihbgjolaaaaGreat.gen
open Go Go.Sh
structure M.aE4.ok (x:M.aE4):Prop where
 aFD:x.aFD.size<=maxLen
 aFY:inI x.aFY
 aFg:inI x.aFg
 aFl:inI x.aFl
def M.aE4.sh:List Shp:=[.str,.int .i64,.int .i64,.int .i64]
def M.aE4.sz (x:M.aE4):Nat:=x.aFD.size
structure M.aE9.ok (x:M.aE9):Prop where
 aFu:inI x.aFu
 aFm:inI x.aFm
 aE3:inI x.aE3
 aFw:okB x.aFw
def M.aE9.sh:List Shp:=[.int .i64,.int .i64,.int .i64,.sl [.int .u8],.bool]
def M.aE9.sz (x:M.aE9):Nat:=x.aFw.length
structure M.aFL.ok (x:M.aFL):Prop where
 aFD:x.aFD.size<=maxLen
 aFo:x.aFo.size<=maxLen
 aE9:M.aE9.ok x.aE9
def M.aFL.sh:List Shp:=[.str,.str,.int .i64,.int .i64,.int .i64,.sl [.int .u8],.bool]
def M.aFL.sz (x:M.aFL):Nat:=x.aFD.size+(x.aFo.size+(M.aE9.sz x.aE9))
structure M.aFE.ok (x:M.aFE):Prop where
 aE3:inI x.aE3
 aFK:(x.aFK.length<=maxLen /\ ∀y∈x.aFK,M.aFL.ok y)
def M.aFE.sh:List Shp:=[.int .i64,.sl M.aFL.sh]
def M.aFE.sz (x:M.aFE):Nat:=(x.aFK.length+dG M.aFL.sz x.aFK)
structure M.aE.ok (x:M.aE):Prop where
 aE6:(x.aE6.length<=maxLen /\ ∀y∈x.aE6,M.aFE.ok y)
def M.aE.sh:List Shp:=[.sl M.aFE.sh]
def M.aE.sz (x:M.aE):Nat:=(x.aE6.length+dG M.aFE.sz x.aE6)
structure M.Key.ok (x:M.Key):Prop where
 aFU:inI x.aFU
 N:inI x.N
 aFb:x.aFb.size<=maxLen
def M.Key.sh:List Shp:=[.int .i64,.int .i64,.str]
def M.Key.sz (x:M.Key):Nat:=x.aFb.size
structure M.Field.ok (x:M.Field):Prop where
 Name:x.Name.size<=maxLen
 N:inI x.N
def M.Field.sh:List Shp:=[.str,.int .i64]
def M.Field.sz (x:M.Field):Nat:=x.Name.size
structure M.aD.ok (x:M.aD):Prop where
 aFA:(x.aFA.length<=maxLen /\ ∀y∈x.aFA,M.Field.ok y)
def M.aD.sh:List Shp:=[.sl M.Field.sh]
def M.aD.sz (x:M.aD):Nat:=(x.aFA.length+dG M.Field.sz x.aFA)
structure M.aFP.ok (x:M.aFP):Prop where
 Key:M.Key.ok x.Key
 aD:M.aD.ok x.aD
def M.aFP.sh:List Shp:=[.int .i64,.int .i64,.str,.sl M.Field.sh]
def M.aFP.sz (x:M.aFP):Nat:=M.Key.sz x.Key+(M.aD.sz x.aD)
structure M.aC.ok (x:M.aC):Prop where
 Name:x.Name.size<=maxLen
 aE7:(x.aE7.length<=maxLen /\ ∀y∈x.aE7,M.aFP.ok y)
 aFZ:inI x.aFZ
def M.aC.sh:List Shp:=[.str,.sl M.aFP.sh,.int .i64]
def M.aC.sz (x:M.aC):Nat:=x.Name.size+((x.aE7.length+dG M.aFP.sz x.aE7))
structure M.aN.ok (x:M.aN):Prop where
 aC:x.aC.size<=maxLen
 Field:x.Field.size<=maxLen
def M.aN.sh:List Shp:=[.str,.str]
def M.aN.sz (x:M.aN):Nat:=x.aC.size+(x.Field.size)
structure M.aE5.ok (x:M.aE5):Prop where
 Name:x.Name.size<=maxLen
 aE3:inI x.aE3
 aFH:(x.aFH.length<=maxLen /\ ∀y∈x.aFH,M.aC.ok y)
 aFQ:(x.aFQ.length<=maxLen /\ ∀y∈x.aFQ,M.aN.ok y)
def M.aE5.sh:List Shp:=[.str,.int .i64,.sl M.aC.sh,.sl M.aN.sh]
def M.aE5.sz (x:M.aE5):Nat:=x.Name.size+((x.aFH.length+dG M.aC.sz x.aFH)+((x.aFQ.length+dG M.aN.sz x.aFQ)))
structure M.bV.ok (x:M.bV):Prop where
 aFT:M.aE5.ok x.aFT
 Log:okB x.Log
 aFk:inI x.aFk
def M.bV.sh:List Shp:=[.str,.int .i64,.sl M.aC.sh,.sl M.aN.sh,.sl [.int .u8],.int .i64]
def M.bV.sz (x:M.bV):Nat:=M.aE5.sz x.aFT+(x.Log.length)
structure M.bD.ok (x:M.bD):Prop where
 aFC:inI x.aFC
 Seq:inI x.Seq
 Key:M.Key.ok x.Key
 Field:x.Field.size<=maxLen
 N:inI x.N
def M.bD.sh:List Shp:=[.int .i64,.int .i64,.int .i64,.int .i64,.str,.str,.int .i64]
def M.bD.sz (x:M.bD):Nat:=M.Key.sz x.Key+(x.Field.size)
structure M.aM.ok (x:M.aM):Prop where
 aFC:inI x.aFC
 aFd:inI x.aFd
 aFO:(x.aFO.length<=maxLen /\ ∀y∈x.aFO,M.bD.ok y)
def M.aM.sh:List Shp:=[.int .i64,.int .i64,.sl M.bD.sh]
def M.aM.sz (x:M.aM):Nat:=(x.aFO.length+dG M.bD.sz x.aFO)
structure M.aFS.ok (x:M.aFS):Prop where
 aM:M.aM.ok x.aM
 aFi:inI x.aFi
 aFX:inI x.aFX
def M.aFS.sh:List Shp:=[.int .i64,.int .i64,.sl M.bD.sh,.int .i64,.int .i64]
def M.aFS.sz (x:M.aFS):Nat:=M.aM.sz x.aM
structure M.aG.ok (x:M.aG):Prop where
 aFT:M.aC.ok x.aFT
 aFq:inI x.aFq
 aFS:M.aFS.ok x.aFS
def M.aG.sh:List Shp:=[.str,.sl M.aFP.sh,.int .i64,.int .i64,.int .i64,.int .i64,.sl M.bD.sh,.int .i64,.int .i64]
def M.aG.sz (x:M.aG):Nat:=M.aC.sz x.aFT+(M.aFS.sz x.aFS)
structure M.aJ.ok (x:M.aJ):Prop where
 aFD:x.aFD.size<=maxLen
 Top:x.Top.size<=maxLen
 aE4:M.aE4.ok x.aE4
 aE6:M.aE.ok x.aE6
 bV:M.bV.ok x.bV
 aG:M.aG.ok x.aG
 aFf:inI x.aFf
def M.aJ.sh:List Shp:=[.str,.str,.str,.int .i64,.int .i64,.int .i64,.sl M.aFE.sh,.str,.int .i64,.sl M.aC.sh,.sl M.aN.sh,.sl [.int .u8],.int .i64,.str,.sl M.aFP.sh,.int .i64,.int .i64,.int .i64,.int .i64,.sl M.bD.sh,.int .i64,.int .i64,.int .i64,.bool]
def M.aJ.sz (x:M.aJ):Nat:=x.aFD.size+(x.Top.size+(M.aE4.sz x.aE4+(M.aE.sz x.aE6+(M.bV.sz x.bV+(M.aG.sz x.aG)))))
structure M.aA.ok (x:M.aA):Prop where
 aE8:(x.aE8.length<=maxLen /\ ∀y∈x.aE8,M.aJ.ok y)
def M.aA.sh:List Shp:=[.sl M.aJ.sh]
def M.aA.sz (x:M.aA):Nat:=(x.aE8.length+dG M.aJ.sz x.aE8)
structure M.aU.ok (x:M.aU):Prop where
 aFo:x.aFo.size<=maxLen
 aE3:inI x.aE3
def M.aU.sh:List Shp:=[.str,.int .i64]
def M.aU.sz (x:M.aU):Nat:=x.aFo.size
structure M.Instr.ok (x:M.Instr):Prop where
 aFU:inI x.aFU
 R:inI x.R
 N:inI x.N
 aFb:x.aFb.size<=maxLen
def M.Instr.sh:List Shp:=[.int .i64,.int .i64,.int .i64,.str]
def M.Instr.sz (x:M.Instr):Nat:=x.aFb.size
structure M.aFI.ok (x:M.aFI):Prop where
 aFn:(x.aFn.length<=maxLen /\ ∀y∈x.aFn,M.Instr.ok y)
 Pc:inI x.Pc
 aFv:okI x.aFv
 aFs:inI x.aFs
def M.aFI.sh:List Shp:=[.sl M.Instr.sh,.int .i64,.sl [.int .i64],.int .i64,.bool,.bool]
def M.aFI.sz (x:M.aFI):Nat:=(x.aFn.length+dG M.Instr.sz x.aFn)+(x.aFv.length)
structure M.bC.ok (x:M.bC):Prop where
 Id:inI x.Id
 aFD:x.aFD.size<=maxLen
 Top:x.Top.size<=maxLen
 aE3:inI x.aE3
 aU:(x.aU.length<=maxLen /\ ∀y∈x.aU,M.aU.ok y)
 aFI:M.aFI.ok x.aFI
def M.bC.sh:List Shp:=[.int .i64,.str,.str,.int .i64,.sl M.aU.sh,.sl M.Instr.sh,.int .i64,.sl [.int .i64],.int .i64,.bool,.bool]
def M.bC.sz (x:M.bC):Nat:=x.aFD.size+(x.Top.size+((x.aU.length+dG M.aU.sz x.aU)+(M.aFI.sz x.aFI)))
structure M.mZ.ok (x:M.mZ):Prop where
 Name:x.Name.size<=maxLen
 bC:inI x.bC
def M.mZ.sh:List Shp:=[.str,.int .i64,.bool,.bool]
def M.mZ.sz (x:M.mZ):Nat:=x.Name.size
structure M.aR.ok (x:M.aR):Prop where
 aFM:(x.aFM.length<=maxLen /\ ∀y∈x.aFM,M.mZ.ok y)
def M.aR.sh:List Shp:=[.sl M.mZ.sh]
def M.aR.sz (x:M.aR):Nat:=(x.aFM.length+dG M.mZ.sz x.aFM)
structure M.tB.ok (x:M.tB):Prop where
 To:inI x.To
 aF5:inI x.aF5
 N:inI x.N
def M.tB.sh:List Shp:=[.int .i64,.int .i64,.int .i64]
structure M.aFB.ok (x:M.aFB):Prop where
 aFa:(x.aFa.length<=maxLen /\ ∀y∈x.aFa,M.tB.ok y)
def M.aFB.sh:List Shp:=[.sl M.tB.sh]
def M.aFB.sz (x:M.aFB):Nat:=x.aFa.length
structure M.aFD.ok (x:M.aFD):Prop where
 Name:x.Name.size<=maxLen
 aE3:inI x.aE3
 aFe:okS x.aFe
def M.aFD.sh:List Shp:=[.str,.int .i64,.sl [.str],.bool]
def M.aFD.sz (x:M.aFD):Nat:=x.Name.size+((x.aFe.length+dG ByteArray.size x.aFe))
structure M.aO.ok (x:M.aO):Prop where
 aFC:inI x.aFC
 Seq:inI x.Seq
def M.aO.sh:List Shp:=[.int .i64,.int .i64]
structure M.aFG.ok (x:M.aFG):Prop where
 aC:M.aC.ok x.aC
 aO:(x.aO.length<=maxLen /\ ∀y∈x.aO,M.aO.ok y)
 aFV:(x.aFV.length<=maxLen /\ ∀y∈x.aFV,M.bD.ok y)
def M.aFG.sh:List Shp:=[.str,.sl M.aFP.sh,.int .i64,.sl M.aO.sh,.sl M.bD.sh]
def M.aFG.sz (x:M.aFG):Nat:=M.aC.sz x.aC+(x.aO.length+((x.aFV.length+dG M.bD.sz x.aFV)))
structure M.World.ok (x:M.World):Prop where
 Now:inI x.Now
 aFC:inI x.aFC
 aA:M.aA.ok x.aA
 aFF:(x.aFF.length<=maxLen /\ ∀y∈x.aFF,M.bC.ok y)
 aFJ:inI x.aFJ
 aFM:M.aR.ok x.aFM
 aFB:M.aFB.ok x.aFB
 aFR:(x.aFR.length<=maxLen /\ ∀y∈x.aFR,M.aFD.ok y)
 aFN:(x.aFN.length<=maxLen /\ ∀y∈x.aFN,M.aFG.ok y)
def M.World.sh:List Shp:=[.int .i64,.bool,.int .i64,.sl M.aJ.sh,.sl M.bC.sh,.int .i64,.sl M.mZ.sh,.sl M.tB.sh,.sl M.aFD.sh,.sl M.aFG.sh]
def M.World.sz (x:M.World):Nat:=M.aA.sz x.aA+((x.aFF.length+dG M.bC.sz x.aFF)+(M.aR.sz x.aFM+(M.aFB.sz x.aFB+((x.aFR.length+dG M.aFD.sz x.aFR)+((x.aFN.length+dG M.aFG.sz x.aFN))))))
structure M.Op.ok (x:M.Op):Prop where
 aFU:inI x.aFU
 aC:x.aC.size<=maxLen
 Key:M.Key.ok x.Key
 aD:M.aD.ok x.aD
 Field:x.Field.size<=maxLen
def M.Op.sh:List Shp:=[.int .i64,.str,.int .i64,.int .i64,.str,.sl M.Field.sh,.str]
def M.Op.sz (x:M.Op):Nat:=x.aC.size+(M.Key.sz x.Key+(M.aD.sz x.aD+(x.Field.size)))
structure M.gE.ok (x:M.gE):Prop where
 Low:M.Key.ok x.Low
 aFx:M.Key.ok x.aFx
def M.gE.sh:List Shp:=[.bool,.bool,.int .i64,.int .i64,.str,.int .i64,.int .i64,.str]
def M.gE.sz (x:M.gE):Nat:=M.Key.sz x.Low+(M.Key.sz x.aFx)
structure M.kM.ok (x:M.kM):Prop where
 aFU:inI x.aFU
 aC:x.aC.size<=maxLen
 Field:x.Field.size<=maxLen
def M.kM.sh:List Shp:=[.int .i64,.str,.str]
def M.kM.sz (x:M.kM):Nat:=x.aC.size+(x.Field.size)
end Go.Proofs.YtipmihbgjolaaaaGreat.gen
