/-
  Helper text. No conditions.
-/
import Derived.Test.YtbpbocchokbggaaGreatUpdatesMod
set_option linter.all false
namespace Go.Proofs.YtbpbocchokbggaaGreat.gen
open Go Go.Sh
structure M.aIz.ok (x:M.aIz):Prop where
 aI7:x.aI7.size<=maxLen
 aJP:inI x.aJP
 aJT:inI x.aJT
 aJX:inI x.aJX
def M.aIz.sh:List Shp:=[.str,.int .i64,.int .i64,.int .i64]
def M.aIz.sz(x:M.aIz):Nat:=x.aI7.size
structure M.aI8.ok (x:M.aI8):Prop where
 aJq:inI x.aJq
 aJn:inI x.aJn
 aI0:inI x.aI0
 aJr:okB x.aJr
def M.aI8.sh:List Shp:=[.int .i64,.int .i64,.int .i64,.sl [.int .u8],.bool]
def M.aI8.sz(x:M.aI8):Nat:=x.aJr.length
structure M.aJE.ok (x:M.aJE):Prop where
 aI7:x.aI7.size<=maxLen
 aJk:x.aJk.size<=maxLen
 aI8:M.aI8.ok x.aI8
def M.aJE.sh:List Shp:=[.str,.str,.int .i64,.int .i64,.int .i64,.sl [.int .u8],.bool]
def M.aJE.sz(x:M.aJE):Nat:=x.aI7.size+(x.aJk.size+(M.aI8.sz x.aI8))
structure M.aI5.ok (x:M.aI5):Prop where
 aI0:inI x.aI0
 aJB:(x.aJB.length<=maxLen/\∀y∈x.aJB,M.aJE.ok y)
def M.aI5.sh:List Shp:=[.int .i64,.sl M.aJE.sh]
def M.aI5.sz(x:M.aI5):Nat:=x.aJB.length+dH M.aJE.sz x.aJB
structure M.aC.ok (x:M.aC):Prop where
 aI1:(x.aI1.length<=maxLen/\∀y∈x.aI1,M.aI5.ok y)
def M.aC.sh:List Shp:=[.sl M.aI5.sh]
def M.aC.sz(x:M.aC):Nat:=x.aI1.length+dH M.aI5.sz x.aI1
structure M.Key.ok (x:M.Key):Prop where
 aJS:inI x.aJS
 N:inI x.N
 aJb:x.aJb.size<=maxLen
def M.Key.sh:List Shp:=[.int .i64,.int .i64,.str]
def M.Key.sz(x:M.Key):Nat:=x.aJb.size
structure M.Field.ok (x:M.Field):Prop where
 Name:x.Name.size<=maxLen
 N:inI x.N
def M.Field.sh:List Shp:=[.str,.int .i64]
def M.Field.sz(x:M.Field):Nat:=x.Name.size
structure M.aE.ok (x:M.aE):Prop where
 aI9:(x.aI9.length<=maxLen/\∀y∈x.aI9,M.Field.ok y)
def M.aE.sh:List Shp:=[.sl M.Field.sh]
def M.aE.sz(x:M.aE):Nat:=x.aI9.length+dH M.Field.sz x.aI9
structure M.aJN.ok (x:M.aJN):Prop where
 Key:M.Key.ok x.Key
 aE:M.aE.ok x.aE
def M.aJN.sh:List Shp:=[.int .i64,.int .i64,.str,.sl M.Field.sh]
def M.aJN.sz(x:M.aJN):Nat:=M.Key.sz x.Key+(M.aE.sz x.aE)
structure M.aD.ok (x:M.aD):Prop where
 Name:x.Name.size<=maxLen
 aI6:(x.aI6.length<=maxLen/\∀y∈x.aI6,M.aJN.ok y)
 aJa:inI x.aJa
def M.aD.sh:List Shp:=[.str,.sl M.aJN.sh,.int .i64]
def M.aD.sz(x:M.aD):Nat:=x.Name.size+(x.aI6.length+dH M.aJN.sz x.aI6)
structure M.aN.ok (x:M.aN):Prop where
 aD:x.aD.size<=maxLen
 Field:x.Field.size<=maxLen
def M.aN.sh:List Shp:=[.str,.str]
def M.aN.sz(x:M.aN):Nat:=x.aD.size+(x.Field.size)
structure M.aI2.ok (x:M.aI2):Prop where
 Name:x.Name.size<=maxLen
 aI0:inI x.aI0
 aJF:(x.aJF.length<=maxLen/\∀y∈x.aJF,M.aD.ok y)
 aJO:(x.aJO.length<=maxLen/\∀y∈x.aJO,M.aN.ok y)
def M.aI2.sh:List Shp:=[.str,.int .i64,.sl M.aD.sh,.sl M.aN.sh]
def M.aI2.sz(x:M.aI2):Nat:=x.Name.size+((x.aJF.length+dH M.aD.sz x.aJF)+(x.aJO.length+dH M.aN.sz x.aJO))
structure M.bR.ok (x:M.bR):Prop where
 aJQ:M.aI2.ok x.aJQ
 Log:okB x.Log
 aJi:inI x.aJi
def M.bR.sh:List Shp:=[.str,.int .i64,.sl M.aD.sh,.sl M.aN.sh,.sl [.int .u8],.int .i64]
def M.bR.sz(x:M.bR):Nat:=M.aI2.sz x.aJQ+(x.Log.length)
structure M.bC.ok (x:M.bC):Prop where
 aJA:inI x.aJA
 Seq:inI x.Seq
 Key:M.Key.ok x.Key
 Field:x.Field.size<=maxLen
 N:inI x.N
def M.bC.sh:List Shp:=[.int .i64,.int .i64,.int .i64,.int .i64,.str,.str,.int .i64]
def M.bC.sz(x:M.bC):Nat:=M.Key.sz x.Key+(x.Field.size)
structure M.aK.ok (x:M.aK):Prop where
 aJA:inI x.aJA
 aJd:inI x.aJd
 aJM:(x.aJM.length<=maxLen/\∀y∈x.aJM,M.bC.ok y)
def M.aK.sh:List Shp:=[.int .i64,.int .i64,.sl M.bC.sh]
def M.aK.sz(x:M.aK):Nat:=x.aJM.length+dH M.bC.sz x.aJM
structure M.aJR.ok (x:M.aJR):Prop where
 aK:M.aK.ok x.aK
 aJh:inI x.aJh
 aJY:inI x.aJY
def M.aJR.sh:List Shp:=[.int .i64,.int .i64,.sl M.bC.sh,.int .i64,.int .i64]
def M.aJR.sz(x:M.aJR):Nat:=M.aK.sz x.aK
structure M.aG.ok (x:M.aG):Prop where
 aJQ:M.aD.ok x.aJQ
 aJm:inI x.aJm
 aJR:M.aJR.ok x.aJR
def M.aG.sh:List Shp:=[.str,.sl M.aJN.sh,.int .i64,.int .i64,.int .i64,.int .i64,.sl M.bC.sh,.int .i64,.int .i64]
def M.aG.sz(x:M.aG):Nat:=M.aD.sz x.aJQ+(M.aJR.sz x.aJR)
structure M.aI3.ok (x:M.aI3):Prop where
 aI7:x.aI7.size<=maxLen
 Top:x.Top.size<=maxLen
 aIz:M.aIz.ok x.aIz
 aI1:M.aC.ok x.aI1
 bR:M.bR.ok x.bR
 aG:M.aG.ok x.aG
 aJc:inI x.aJc
def M.aI3.sh:List Shp:=[.str,.str,.str,.int .i64,.int .i64,.int .i64,.sl M.aI5.sh,.str,.int .i64,.sl M.aD.sh,.sl M.aN.sh,.sl [.int .u8],.int .i64,.str,.sl M.aJN.sh,.int .i64,.int .i64,.int .i64,.int .i64,.sl M.bC.sh,.int .i64,.int .i64,.int .i64,.bool]
def M.aI3.sz(x:M.aI3):Nat:=x.aI7.size+(x.Top.size+(M.aIz.sz x.aIz+(M.aC.sz x.aI1+(M.bR.sz x.bR+(M.aG.sz x.aG)))))
structure M.aA.ok (x:M.aA):Prop where
 aI4:(x.aI4.length<=maxLen/\∀y∈x.aI4,M.aI3.ok y)
def M.aA.sh:List Shp:=[.sl M.aI3.sh]
def M.aA.sz(x:M.aA):Nat:=x.aI4.length+dH M.aI3.sz x.aI4
structure M.aV.ok (x:M.aV):Prop where
 aJk:x.aJk.size<=maxLen
 aI0:inI x.aI0
def M.aV.sh:List Shp:=[.str,.int .i64]
def M.aV.sz(x:M.aV):Nat:=x.aJk.size
structure M.Instr.ok (x:M.Instr):Prop where
 aJS:inI x.aJS
 R:inI x.R
 N:inI x.N
 aJb:x.aJb.size<=maxLen
def M.Instr.sh:List Shp:=[.int .i64,.int .i64,.int .i64,.str]
def M.Instr.sz(x:M.Instr):Nat:=x.aJb.size
structure M.aJH.ok (x:M.aJH):Prop where
 aJj:(x.aJj.length<=maxLen/\∀y∈x.aJj,M.Instr.ok y)
 Pc:inI x.Pc
 aJt:okI x.aJt
 aJp:inI x.aJp
def M.aJH.sh:List Shp:=[.sl M.Instr.sh,.int .i64,.sl [.int .i64],.int .i64,.bool,.bool]
def M.aJH.sz(x:M.aJH):Nat:=(x.aJj.length+dH M.Instr.sz x.aJj)+(x.aJt.length)
structure M.bG.ok (x:M.bG):Prop where
 Id:inI x.Id
 aI7:x.aI7.size<=maxLen
 Top:x.Top.size<=maxLen
 aI0:inI x.aI0
 aV:(x.aV.length<=maxLen/\∀y∈x.aV,M.aV.ok y)
 aJH:M.aJH.ok x.aJH
def M.bG.sh:List Shp:=[.int .i64,.str,.str,.int .i64,.sl M.aV.sh,.sl M.Instr.sh,.int .i64,.sl [.int .i64],.int .i64,.bool,.bool]
def M.bG.sz(x:M.bG):Nat:=x.aI7.size+(x.Top.size+((x.aV.length+dH M.aV.sz x.aV)+(M.aJH.sz x.aJH)))
structure M.mV.ok (x:M.mV):Prop where
 Name:x.Name.size<=maxLen
 bG:inI x.bG
def M.mV.sh:List Shp:=[.str,.int .i64,.bool,.bool]
def M.mV.sz(x:M.mV):Nat:=x.Name.size
structure M.aQ.ok (x:M.aQ):Prop where
 aJJ:(x.aJJ.length<=maxLen/\∀y∈x.aJJ,M.mV.ok y)
def M.aQ.sh:List Shp:=[.sl M.mV.sh]
def M.aQ.sz(x:M.aQ):Nat:=x.aJJ.length+dH M.mV.sz x.aJJ
structure M.AP.ok (x:M.AP):Prop where
 To:inI x.To
 aJ2:inI x.aJ2
 N:inI x.N
def M.AP.sh:List Shp:=[.int .i64,.int .i64,.int .i64]
structure M.aJD.ok (x:M.aJD):Prop where
 aJe:(x.aJe.length<=maxLen/\∀y∈x.aJe,M.AP.ok y)
def M.aJD.sh:List Shp:=[.sl M.AP.sh]
def M.aJD.sz(x:M.aJD):Nat:=x.aJe.length
structure M.aI7.ok (x:M.aI7):Prop where
 Name:x.Name.size<=maxLen
 aI0:inI x.aI0
 aJW:okS x.aJW
def M.aI7.sh:List Shp:=[.str,.int .i64,.sl [.str],.bool]
def M.aI7.sz(x:M.aI7):Nat:=x.Name.size+(x.aJW.length+dH ByteArray.size x.aJW)
structure M.aP.ok (x:M.aP):Prop where
 aJA:inI x.aJA
 Seq:inI x.Seq
def M.aP.sh:List Shp:=[.int .i64,.int .i64]
structure M.aJC.ok (x:M.aJC):Prop where
 aD:M.aD.ok x.aD
 aP:(x.aP.length<=maxLen/\∀y∈x.aP,M.aP.ok y)
 aJU:(x.aJU.length<=maxLen/\∀y∈x.aJU,M.bC.ok y)
def M.aJC.sh:List Shp:=[.str,.sl M.aJN.sh,.int .i64,.sl M.aP.sh,.sl M.bC.sh]
def M.aJC.sz(x:M.aJC):Nat:=M.aD.sz x.aD+(x.aP.length+(x.aJU.length+dH M.bC.sz x.aJU))
structure M.World.ok (x:M.World):Prop where
 Now:inI x.Now
 aJA:inI x.aJA
 aA:M.aA.ok x.aA
 aJI:(x.aJI.length<=maxLen/\∀y∈x.aJI,M.bG.ok y)
 aJG:inI x.aJG
 aJJ:M.aQ.ok x.aJJ
 aJD:M.aJD.ok x.aJD
 aJL:(x.aJL.length<=maxLen/\∀y∈x.aJL,M.aI7.ok y)
 aJK:(x.aJK.length<=maxLen/\∀y∈x.aJK,M.aJC.ok y)
def M.World.sh:List Shp:=[.int .i64,.bool,.int .i64,.sl M.aI3.sh,.sl M.bG.sh,.int .i64,.sl M.mV.sh,.sl M.AP.sh,.sl M.aI7.sh,.sl M.aJC.sh]
def M.World.sz(x:M.World):Nat:=M.aA.sz x.aA+((x.aJI.length+dH M.bG.sz x.aJI)+(M.aQ.sz x.aJJ+(M.aJD.sz x.aJD+((x.aJL.length+dH M.aI7.sz x.aJL)+(x.aJK.length+dH M.aJC.sz x.aJK)))))
structure M.Op.ok (x:M.Op):Prop where
 aJS:inI x.aJS
 aD:x.aD.size<=maxLen
 Key:M.Key.ok x.Key
 aE:M.aE.ok x.aE
 Field:x.Field.size<=maxLen
def M.Op.sh:List Shp:=[.int .i64,.str,.int .i64,.int .i64,.str,.sl M.Field.sh,.str]
def M.Op.sz(x:M.Op):Nat:=x.aD.size+(M.Key.sz x.Key+(M.aE.sz x.aE+(x.Field.size)))
structure M.gT.ok (x:M.gT):Prop where
 Low:M.Key.ok x.Low
 aJv:M.Key.ok x.aJv
def M.gT.sh:List Shp:=[.bool,.bool,.int .i64,.int .i64,.str,.int .i64,.int .i64,.str]
def M.gT.sz(x:M.gT):Nat:=M.Key.sz x.Low+(M.Key.sz x.aJv)
structure M.mK.ok (x:M.mK):Prop where
 aJS:inI x.aJS
 aD:x.aD.size<=maxLen
 Field:x.Field.size<=maxLen
def M.mK.sh:List Shp:=[.int .i64,.str,.str]
def M.mK.sz(x:M.mK):Nat:=x.aD.size+(x.Field.size)
