/-
  Helper text. No conditions.
-/
import Derived.Test.YtbpbocchokbggaaGreatOpenedMod
set_option linter.all false
namespace Go.Proofs.YtbpbocchokbggaaGreat.gen
open Go Go.Sh
structure M.aG9.ok (x:M.aG9):Prop where
 aHL:x.aHL.size<=maxLen
 aHf:inI x.aHf
 aHm:inI x.aHm
 aHp:inI x.aHp
def M.aG9.sh:List Shp:=[.str,.int .i64,.int .i64,.int .i64]
def M.aG9.sz(x:M.aG9):Nat:=x.aHL.size
structure M.aHH.ok (x:M.aHH):Prop where
 aH2:inI x.aH2
 aHx:inI x.aHx
 aHA:inI x.aHA
 aH3:okB x.aH3
def M.aHH.sh:List Shp:=[.int .i64,.int .i64,.int .i64,.sl [.int .u8],.bool]
def M.aHH.sz(x:M.aHH):Nat:=x.aH3.length
structure M.aHU.ok (x:M.aHU):Prop where
 aHL:x.aHL.size<=maxLen
 aHv:x.aHv.size<=maxLen
 aHH:M.aHH.ok x.aHH
def M.aHU.sh:List Shp:=[.str,.str,.int .i64,.int .i64,.int .i64,.sl [.int .u8],.bool]
def M.aHU.sz(x:M.aHU):Nat:=x.aHL.size+(x.aHv.size+(M.aHH.sz x.aHH))
structure M.aHM.ok (x:M.aHM):Prop where
 aHA:inI x.aHA
 aHS:(x.aHS.length<=maxLen/\∀y∈x.aHS,M.aHU.ok y)
def M.aHM.sh:List Shp:=[.int .i64,.sl M.aHU.sh]
def M.aHM.sz(x:M.aHM):Nat:=x.aHS.length+dG M.aHU.sz x.aHS
structure M.aF.ok (x:M.aF):Prop where
 aHC:(x.aHC.length<=maxLen/\∀y∈x.aHC,M.aHM.ok y)
def M.aF.sh:List Shp:=[.sl M.aHM.sh]
def M.aF.sz(x:M.aF):Nat:=x.aHC.length+dG M.aHM.sz x.aHC
structure M.Key.ok (x:M.Key):Prop where
 aHb:inI x.aHb
 N:inI x.N
 aHi:x.aHi.size<=maxLen
def M.Key.sh:List Shp:=[.int .i64,.int .i64,.str]
def M.Key.sz(x:M.Key):Nat:=x.aHi.size
structure M.Field.ok (x:M.Field):Prop where
 Name:x.Name.size<=maxLen
 N:inI x.N
def M.Field.sh:List Shp:=[.str,.int .i64]
def M.Field.sz(x:M.Field):Nat:=x.Name.size
structure M.aD.ok (x:M.aD):Prop where
 aHG:(x.aHG.length<=maxLen/\∀y∈x.aHG,M.Field.ok y)
def M.aD.sh:List Shp:=[.sl M.Field.sh]
def M.aD.sz(x:M.aD):Nat:=x.aHG.length+dG M.Field.sz x.aHG
structure M.aHV.ok (x:M.aHV):Prop where
 Key:M.Key.ok x.Key
 aD:M.aD.ok x.aD
def M.aHV.sh:List Shp:=[.int .i64,.int .i64,.str,.sl M.Field.sh]
def M.aHV.sz(x:M.aHV):Nat:=M.Key.sz x.Key+(M.aD.sz x.aD)
structure M.aC.ok (x:M.aC):Prop where
 Name:x.Name.size<=maxLen
 aHF:(x.aHF.length<=maxLen/\∀y∈x.aHF,M.aHV.ok y)
 aHg:inI x.aHg
def M.aC.sh:List Shp:=[.str,.sl M.aHV.sh,.int .i64]
def M.aC.sz(x:M.aC):Nat:=x.Name.size+(x.aHF.length+dG M.aHV.sz x.aHF)
structure M.aN.ok (x:M.aN):Prop where
 aC:x.aC.size<=maxLen
 Field:x.Field.size<=maxLen
def M.aN.sh:List Shp:=[.str,.str]
def M.aN.sz(x:M.aN):Nat:=x.aC.size+(x.Field.size)
structure M.aHB.ok (x:M.aHB):Prop where
 Name:x.Name.size<=maxLen
 aHA:inI x.aHA
 aHP:(x.aHP.length<=maxLen/\∀y∈x.aHP,M.aC.ok y)
 aHX:(x.aHX.length<=maxLen/\∀y∈x.aHX,M.aN.ok y)
def M.aHB.sh:List Shp:=[.str,.int .i64,.sl M.aC.sh,.sl M.aN.sh]
def M.aHB.sz(x:M.aHB):Nat:=x.Name.size+((x.aHP.length+dG M.aC.sz x.aHP)+(x.aHX.length+dG M.aN.sz x.aHX))
structure M.bP.ok (x:M.bP):Prop where
 aHa:M.aHB.ok x.aHa
 Log:okB x.Log
 aHs:inI x.aHs
def M.bP.sh:List Shp:=[.str,.int .i64,.sl M.aC.sh,.sl M.aN.sh,.sl [.int .u8],.int .i64]
def M.bP.sz(x:M.bP):Nat:=M.aHB.sz x.aHa+(x.Log.length)
structure M.bB.ok (x:M.bB):Prop where
 aHI:inI x.aHI
 Seq:inI x.Seq
 Key:M.Key.ok x.Key
 Field:x.Field.size<=maxLen
 N:inI x.N
def M.bB.sh:List Shp:=[.int .i64,.int .i64,.int .i64,.int .i64,.str,.str,.int .i64]
def M.bB.sz(x:M.bB):Nat:=M.Key.sz x.Key+(x.Field.size)
structure M.aJ.ok (x:M.aJ):Prop where
 aHI:inI x.aHI
 aHj:inI x.aHj
 aHW:(x.aHW.length<=maxLen/\∀y∈x.aHW,M.bB.ok y)
def M.aJ.sh:List Shp:=[.int .i64,.int .i64,.sl M.bB.sh]
def M.aJ.sz(x:M.aJ):Nat:=x.aHW.length+dG M.bB.sz x.aHW
structure M.aHY.ok (x:M.aHY):Prop where
 aJ:M.aJ.ok x.aJ
 aHr:inI x.aHr
 aHe:inI x.aHe
def M.aHY.sh:List Shp:=[.int .i64,.int .i64,.sl M.bB.sh,.int .i64,.int .i64]
def M.aHY.sz(x:M.aHY):Nat:=M.aJ.sz x.aJ
structure M.aE.ok (x:M.aE):Prop where
 aHa:M.aC.ok x.aHa
 aHw:inI x.aHw
 aHY:M.aHY.ok x.aHY
def M.aE.sh:List Shp:=[.str,.sl M.aHV.sh,.int .i64,.int .i64,.int .i64,.int .i64,.sl M.bB.sh,.int .i64,.int .i64]
def M.aE.sz(x:M.aE):Nat:=M.aC.sz x.aHa+(M.aHY.sz x.aHY)
structure M.aHD.ok (x:M.aHD):Prop where
 aHL:x.aHL.size<=maxLen
 Top:x.Top.size<=maxLen
 aG9:M.aG9.ok x.aG9
 aHC:M.aF.ok x.aHC
 bP:M.bP.ok x.bP
 aE:M.aE.ok x.aE
 aHk:inI x.aHk
def M.aHD.sh:List Shp:=[.str,.str,.str,.int .i64,.int .i64,.int .i64,.sl M.aHM.sh,.str,.int .i64,.sl M.aC.sh,.sl M.aN.sh,.sl [.int .u8],.int .i64,.str,.sl M.aHV.sh,.int .i64,.int .i64,.int .i64,.int .i64,.sl M.bB.sh,.int .i64,.int .i64,.int .i64,.bool]
def M.aHD.sz(x:M.aHD):Nat:=x.aHL.size+(x.Top.size+(M.aG9.sz x.aG9+(M.aF.sz x.aHC+(M.bP.sz x.bP+(M.aE.sz x.aE)))))
structure M.aA.ok (x:M.aA):Prop where
 aHE:(x.aHE.length<=maxLen/\∀y∈x.aHE,M.aHD.ok y)
def M.aA.sh:List Shp:=[.sl M.aHD.sh]
def M.aA.sz(x:M.aA):Nat:=x.aHE.length+dG M.aHD.sz x.aHE
structure M.aT.ok (x:M.aT):Prop where
 aHv:x.aHv.size<=maxLen
 aHA:inI x.aHA
def M.aT.sh:List Shp:=[.str,.int .i64]
def M.aT.sz(x:M.aT):Nat:=x.aHv.size
structure M.Instr.ok (x:M.Instr):Prop where
 aHb:inI x.aHb
 R:inI x.R
 N:inI x.N
 aHi:x.aHi.size<=maxLen
def M.Instr.sh:List Shp:=[.int .i64,.int .i64,.int .i64,.str]
def M.Instr.sz(x:M.Instr):Nat:=x.aHi.size
structure M.aHJ.ok (x:M.aHJ):Prop where
 aHt:(x.aHt.length<=maxLen/\∀y∈x.aHt,M.Instr.ok y)
 Pc:inI x.Pc
 aH1:okI x.aH1
 aHy:inI x.aHy
def M.aHJ.sh:List Shp:=[.sl M.Instr.sh,.int .i64,.sl [.int .i64],.int .i64,.bool,.bool]
def M.aHJ.sz(x:M.aHJ):Nat:=(x.aHt.length+dG M.Instr.sz x.aHt)+(x.aH1.length)
structure M.bC.ok (x:M.bC):Prop where
 Id:inI x.Id
 aHL:x.aHL.size<=maxLen
 Top:x.Top.size<=maxLen
 aHA:inI x.aHA
 aT:(x.aT.length<=maxLen/\∀y∈x.aT,M.aT.ok y)
 aHJ:M.aHJ.ok x.aHJ
def M.bC.sh:List Shp:=[.int .i64,.str,.str,.int .i64,.sl M.aT.sh,.sl M.Instr.sh,.int .i64,.sl [.int .i64],.int .i64,.bool,.bool]
def M.bC.sz(x:M.bC):Nat:=x.aHL.size+(x.Top.size+((x.aT.length+dG M.aT.sz x.aT)+(M.aHJ.sz x.aHJ)))
structure M.dO.ok (x:M.dO):Prop where
 Name:x.Name.size<=maxLen
 bC:inI x.bC
def M.dO.sh:List Shp:=[.str,.int .i64,.bool,.bool]
def M.dO.sz(x:M.dO):Nat:=x.Name.size
structure M.aM.ok (x:M.aM):Prop where
 aHR:(x.aHR.length<=maxLen/\∀y∈x.aHR,M.dO.ok y)
def M.aM.sh:List Shp:=[.sl M.dO.sh]
def M.aM.sz(x:M.aM):Nat:=x.aHR.length+dG M.dO.sz x.aHR
structure M.mI.ok (x:M.mI):Prop where
 To:inI x.To
 aIC:inI x.aIC
 N:inI x.N
def M.mI.sh:List Shp:=[.int .i64,.int .i64,.int .i64]
structure M.aHN.ok (x:M.aHN):Prop where
 aHn:(x.aHn.length<=maxLen/\∀y∈x.aHn,M.mI.ok y)
def M.aHN.sh:List Shp:=[.sl M.mI.sh]
def M.aHN.sz(x:M.aHN):Nat:=x.aHn.length
structure M.aHL.ok (x:M.aHL):Prop where
 Name:x.Name.size<=maxLen
 aHA:inI x.aHA
 aHl:okS x.aHl
def M.aHL.sh:List Shp:=[.str,.int .i64,.sl [.str],.bool]
def M.aHL.sz(x:M.aHL):Nat:=x.Name.size+(x.aHl.length+dG ByteArray.size x.aHl)
structure M.aO.ok (x:M.aO):Prop where
 aHI:inI x.aHI
 Seq:inI x.Seq
def M.aO.sh:List Shp:=[.int .i64,.int .i64]
structure M.aHO.ok (x:M.aHO):Prop where
 aC:M.aC.ok x.aC
 aO:(x.aO.length<=maxLen/\∀y∈x.aO,M.aO.ok y)
 aHd:(x.aHd.length<=maxLen/\∀y∈x.aHd,M.bB.ok y)
def M.aHO.sh:List Shp:=[.str,.sl M.aHV.sh,.int .i64,.sl M.aO.sh,.sl M.bB.sh]
def M.aHO.sz(x:M.aHO):Nat:=M.aC.sz x.aC+(x.aO.length+(x.aHd.length+dG M.bB.sz x.aHd))
structure M.World.ok (x:M.World):Prop where
 Now:inI x.Now
 aHI:inI x.aHI
 aA:M.aA.ok x.aA
 aHQ:(x.aHQ.length<=maxLen/\∀y∈x.aHQ,M.bC.ok y)
 aHK:inI x.aHK
 aHR:M.aM.ok x.aHR
 aHN:M.aHN.ok x.aHN
 aHZ:(x.aHZ.length<=maxLen/\∀y∈x.aHZ,M.aHL.ok y)
 aHT:(x.aHT.length<=maxLen/\∀y∈x.aHT,M.aHO.ok y)
def M.World.sh:List Shp:=[.int .i64,.bool,.int .i64,.sl M.aHD.sh,.sl M.bC.sh,.int .i64,.sl M.dO.sh,.sl M.mI.sh,.sl M.aHL.sh,.sl M.aHO.sh]
def M.World.sz(x:M.World):Nat:=M.aA.sz x.aA+((x.aHQ.length+dG M.bC.sz x.aHQ)+(M.aM.sz x.aHR+(M.aHN.sz x.aHN+((x.aHZ.length+dG M.aHL.sz x.aHZ)+(x.aHT.length+dG M.aHO.sz x.aHT)))))
structure M.Op.ok (x:M.Op):Prop where
 aHb:inI x.aHb
 aC:x.aC.size<=maxLen
 Key:M.Key.ok x.Key
 aD:M.aD.ok x.aD
 Field:x.Field.size<=maxLen
def M.Op.sh:List Shp:=[.int .i64,.str,.int .i64,.int .i64,.str,.sl M.Field.sh,.str]
def M.Op.sz(x:M.Op):Nat:=x.aC.size+(M.Key.sz x.Key+(M.aD.sz x.aD+(x.Field.size)))
structure M.gN.ok (x:M.gN):Prop where
 Low:M.Key.ok x.Low
 aH7:M.Key.ok x.aH7
def M.gN.sh:List Shp:=[.bool,.bool,.int .i64,.int .i64,.str,.int .i64,.int .i64,.str]
def M.gN.sz(x:M.gN):Nat:=M.Key.sz x.Low+(M.Key.sz x.aH7)
structure M.lW.ok (x:M.lW):Prop where
 aHb:inI x.aHb
 aC:x.aC.size<=maxLen
 Field:x.Field.size<=maxLen
def M.lW.sh:List Shp:=[.int .i64,.str,.str]
def M.lW.sz(x:M.lW):Nat:=x.aC.size+(x.Field.size)
