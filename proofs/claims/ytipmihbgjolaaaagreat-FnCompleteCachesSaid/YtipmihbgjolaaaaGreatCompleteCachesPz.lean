/-
  Helper text. No conditions.
-/
import Derived.Test.YtipmihbgjolaaaaGreatCompleteCachesMod
set_option linter.unusedVariables false
set_option linter.unusedSimpArgs false
namespace Go.Proofs.YtipmihbgjolaaaaGreat.gen
open Go Go.Sh
structure M.aGl.ok (x:M.aGl):Prop where
 Name:x.Name.size<=maxLen
 aGg:inI x.aGg
 aG8:okS x.aG8
def M.aGl.sh:List Shp:=[.str,.int .i64,.sl [.str],.bool]
def M.aGl.sz (x:M.aGl):Nat:=x.Name.size+((x.aG8.length+cX ByteArray.size x.aG8))
structure M.aGm.ok (x:M.aGm):Prop where
 aHX:inI x.aHX
 aHO:inI x.aHO
 aGg:inI x.aGg
 aHT:okB x.aHT
def M.aGm.sh:List Shp:=[.int .i64,.int .i64,.int .i64,.sl [.int .u8],.bool]
def M.aGm.sz (x:M.aGm):Nat:=x.aHT.length
structure M.aGw.ok (x:M.aGw):Prop where
 aGl:x.aGl.size<=maxLen
 aHQ:x.aHQ.size<=maxLen
 aGm:M.aGm.ok x.aGm
def M.aGw.sh:List Shp:=[.str,.str,.int .i64,.int .i64,.int .i64,.sl [.int .u8],.bool]
def M.aGw.sz (x:M.aGw):Nat:=x.aGl.size+(x.aHQ.size+(M.aGm.sz x.aGm))
structure M.aGo.ok (x:M.aGo):Prop where
 aGg:inI x.aGg
 aGs:(x.aGs.length<=maxLen /\ ∀y∈x.aGs,M.aGw.ok y)
def M.aGo.sh:List Shp:=[.int .i64,.sl M.aGw.sh]
def M.aGo.sz (x:M.aGo):Nat:=(x.aGs.length+cX M.aGw.sz x.aGs)
structure M.aC.ok (x:M.aC):Prop where
 aGi:(x.aGi.length<=maxLen /\ ∀y∈x.aGi,M.aGo.ok y)
def M.aC.sh:List Shp:=[.sl M.aGo.sh]
def M.aC.sz (x:M.aC):Nat:=(x.aGi.length+cX M.aGo.sz x.aGi)
structure M.aGf.ok (x:M.aGf):Prop where
 aGl:x.aGl.size<=maxLen
 aG6:inI x.aG6
 aHC:inI x.aHC
 aHF:inI x.aHF
def M.aGf.sh:List Shp:=[.str,.int .i64,.int .i64,.int .i64]
def M.aGf.sz (x:M.aGf):Nat:=x.aGl.size
structure M.Key.ok (x:M.Key):Prop where
 aG7:inI x.aG7
 N:inI x.N
 aHG:x.aHG.size<=maxLen
def M.Key.sh:List Shp:=[.int .i64,.int .i64,.str]
def M.Key.sz (x:M.Key):Nat:=x.aHG.size
structure M.Field.ok (x:M.Field):Prop where
 Name:x.Name.size<=maxLen
 N:inI x.N
def M.Field.sh:List Shp:=[.str,.int .i64]
def M.Field.sz (x:M.Field):Nat:=x.Name.size
structure M.aE.ok (x:M.aE):Prop where
 aGn:(x.aGn.length<=maxLen /\ ∀y∈x.aGn,M.Field.ok y)
def M.aE.sh:List Shp:=[.sl M.Field.sh]
def M.aE.sz (x:M.aE):Nat:=(x.aGn.length+cX M.Field.sz x.aGn)
structure M.aG1.ok (x:M.aG1):Prop where
 Key:M.Key.ok x.Key
 aE:M.aE.ok x.aE
def M.aG1.sh:List Shp:=[.int .i64,.int .i64,.str,.sl M.Field.sh]
def M.aG1.sz (x:M.aG1):Nat:=M.Key.sz x.Key+(M.aE.sz x.aE)
structure M.aD.ok (x:M.aD):Prop where
 Name:x.Name.size<=maxLen
 aGk:(x.aGk.length<=maxLen /\ ∀y∈x.aGk,M.aG1.ok y)
 aHD:inI x.aHD
def M.aD.sh:List Shp:=[.str,.sl M.aG1.sh,.int .i64]
def M.aD.sz (x:M.aD):Nat:=x.Name.size+((x.aGk.length+cX M.aG1.sz x.aGk))
structure M.aO.ok (x:M.aO):Prop where
 aD:x.aD.size<=maxLen
 Field:x.Field.size<=maxLen
def M.aO.sh:List Shp:=[.str,.str]
def M.aO.sz (x:M.aO):Nat:=x.aD.size+(x.Field.size)
structure M.aGh.ok (x:M.aGh):Prop where
 Name:x.Name.size<=maxLen
 aGg:inI x.aGg
 aGq:(x.aGq.length<=maxLen /\ ∀y∈x.aGq,M.aD.ok y)
 aG3:(x.aG3.length<=maxLen /\ ∀y∈x.aG3,M.aO.ok y)
def M.aGh.sh:List Shp:=[.str,.int .i64,.sl M.aD.sh,.sl M.aO.sh]
def M.aGh.sz (x:M.aGh):Nat:=x.Name.size+((x.aGq.length+cX M.aD.sz x.aGq)+((x.aG3.length+cX M.aO.sz x.aG3)))
structure M.bW.ok (x:M.bW):Prop where
 aG4:M.aGh.ok x.aG4
 Log:okB x.Log
 aHM:inI x.aHM
def M.bW.sh:List Shp:=[.str,.int .i64,.sl M.aD.sh,.sl M.aO.sh,.sl [.int .u8],.int .i64]
def M.bW.sz (x:M.bW):Nat:=M.aGh.sz x.aG4+(x.Log.length)
structure M.bC.ok (x:M.bC):Prop where
 aGp:inI x.aGp
 Seq:inI x.Seq
 Key:M.Key.ok x.Key
 Field:x.Field.size<=maxLen
 N:inI x.N
def M.bC.sh:List Shp:=[.int .i64,.int .i64,.int .i64,.int .i64,.str,.str,.int .i64]
def M.bC.sz (x:M.bC):Nat:=M.Key.sz x.Key+(x.Field.size)
structure M.aM.ok (x:M.aM):Prop where
 aGp:inI x.aGp
 aHH:inI x.aHH
 aG0:(x.aG0.length<=maxLen /\ ∀y∈x.aG0,M.bC.ok y)
def M.aM.sh:List Shp:=[.int .i64,.int .i64,.sl M.bC.sh]
def M.aM.sz (x:M.aM):Nat:=(x.aG0.length+cX M.bC.sz x.aG0)
structure M.aG5.ok (x:M.aG5):Prop where
 aM:M.aM.ok x.aM
 aHL:inI x.aHL
 aHB:inI x.aHB
def M.aG5.sh:List Shp:=[.int .i64,.int .i64,.sl M.bC.sh,.int .i64,.int .i64]
def M.aG5.sz (x:M.aG5):Nat:=M.aM.sz x.aM
structure M.aH.ok (x:M.aH):Prop where
 aG4:M.aD.ok x.aG4
 aHS:inI x.aHS
 aG5:M.aG5.ok x.aG5
def M.aH.sh:List Shp:=[.str,.sl M.aG1.sh,.int .i64,.int .i64,.int .i64,.int .i64,.sl M.bC.sh,.int .i64,.int .i64]
def M.aH.sz (x:M.aH):Nat:=M.aD.sz x.aG4+(M.aG5.sz x.aG5)
structure M.aG.ok (x:M.aG):Prop where
 aGl:x.aGl.size<=maxLen
 Top:x.Top.size<=maxLen
 aGf:M.aGf.ok x.aGf
 aGi:M.aC.ok x.aGi
 bW:M.bW.ok x.bW
 aH:M.aH.ok x.aH
 aHI:inI x.aHI
def M.aG.sh:List Shp:=[.str,.str,.str,.int .i64,.int .i64,.int .i64,.sl M.aGo.sh,.str,.int .i64,.sl M.aD.sh,.sl M.aO.sh,.sl [.int .u8],.int .i64,.str,.sl M.aG1.sh,.int .i64,.int .i64,.int .i64,.int .i64,.sl M.bC.sh,.int .i64,.int .i64,.int .i64,.bool]
def M.aG.sz (x:M.aG):Nat:=x.aGl.size+(x.Top.size+(M.aGf.sz x.aGf+(M.aC.sz x.aGi+(M.bW.sz x.bW+(M.aH.sz x.aH)))))
structure M.aA.ok (x:M.aA):Prop where
 aGj:(x.aGj.length<=maxLen /\ ∀y∈x.aGj,M.aG.ok y)
def M.aA.sh:List Shp:=[.sl M.aG.sh]
def M.aA.sz (x:M.aA):Nat:=(x.aGj.length+cX M.aG.sz x.aGj)
structure M.aW.ok (x:M.aW):Prop where
 aHQ:x.aHQ.size<=maxLen
 aGg:inI x.aGg
def M.aW.sh:List Shp:=[.str,.int .i64]
def M.aW.sz (x:M.aW):Nat:=x.aHQ.size
structure M.Instr.ok (x:M.Instr):Prop where
 aG7:inI x.aG7
 R:inI x.R
 N:inI x.N
 aHG:x.aHG.size<=maxLen
def M.Instr.sh:List Shp:=[.int .i64,.int .i64,.int .i64,.str]
def M.Instr.sz (x:M.Instr):Nat:=x.aHG.size
structure M.aGu.ok (x:M.aGu):Prop where
 aHP:(x.aHP.length<=maxLen /\ ∀y∈x.aHP,M.Instr.ok y)
 Pc:inI x.Pc
 aHY:okI x.aHY
 aHV:inI x.aHV
def M.aGu.sh:List Shp:=[.sl M.Instr.sh,.int .i64,.sl [.int .i64],.int .i64,.bool,.bool]
def M.aGu.sz (x:M.aGu):Nat:=(x.aHP.length+cX M.Instr.sz x.aHP)+(x.aHY.length)
structure M.bJ.ok (x:M.bJ):Prop where
 Id:inI x.Id
 aGl:x.aGl.size<=maxLen
 Top:x.Top.size<=maxLen
 aGg:inI x.aGg
 aW:(x.aW.length<=maxLen /\ ∀y∈x.aW,M.aW.ok y)
 aGu:M.aGu.ok x.aGu
def M.bJ.sh:List Shp:=[.int .i64,.str,.str,.int .i64,.sl M.aW.sh,.sl M.Instr.sh,.int .i64,.sl [.int .i64],.int .i64,.bool,.bool]
def M.bJ.sz (x:M.bJ):Nat:=x.aGl.size+(x.Top.size+((x.aW.length+cX M.aW.sz x.aW)+(M.aGu.sz x.aGu)))
structure M.nW.ok (x:M.nW):Prop where
 Name:x.Name.size<=maxLen
 bJ:inI x.bJ
def M.nW.sh:List Shp:=[.str,.int .i64,.bool,.bool]
def M.nW.sz (x:M.nW):Nat:=x.Name.size
structure M.aR.ok (x:M.aR):Prop where
 aGy:(x.aGy.length<=maxLen /\ ∀y∈x.aGy,M.nW.ok y)
def M.aR.sh:List Shp:=[.sl M.nW.sh]
def M.aR.sz (x:M.aR):Nat:=(x.aGy.length+cX M.nW.sz x.aGy)
structure M.Bk.ok (x:M.Bk):Prop where
 To:inI x.To
 aHh:inI x.aHh
 N:inI x.N
def M.Bk.sh:List Shp:=[.int .i64,.int .i64,.int .i64]
structure M.aGt.ok (x:M.aGt):Prop where
 aHN:(x.aHN.length<=maxLen /\ ∀y∈x.aHN,M.Bk.ok y)
def M.aGt.sh:List Shp:=[.sl M.Bk.sh]
def M.aGt.sz (x:M.aGt):Nat:=x.aHN.length
structure M.aP.ok (x:M.aP):Prop where
 aGp:inI x.aGp
 Seq:inI x.Seq
def M.aP.sh:List Shp:=[.int .i64,.int .i64]
structure M.aGr.ok (x:M.aGr):Prop where
 aD:M.aD.ok x.aD
 aP:(x.aP.length<=maxLen /\ ∀y∈x.aP,M.aP.ok y)
 aG9:(x.aG9.length<=maxLen /\ ∀y∈x.aG9,M.bC.ok y)
def M.aGr.sh:List Shp:=[.str,.sl M.aG1.sh,.int .i64,.sl M.aP.sh,.sl M.bC.sh]
def M.aGr.sz (x:M.aGr):Nat:=M.aD.sz x.aD+(x.aP.length+((x.aG9.length+cX M.bC.sz x.aG9)))
structure M.World.ok (x:M.World):Prop where
 Now:inI x.Now
 aGp:inI x.aGp
 aA:M.aA.ok x.aA
 aGx:(x.aGx.length<=maxLen /\ ∀y∈x.aGx,M.bJ.ok y)
 aGv:inI x.aGv
 aGy:M.aR.ok x.aGy
 aGt:M.aGt.ok x.aGt
 aG2:(x.aG2.length<=maxLen /\ ∀y∈x.aG2,M.aGl.ok y)
 aGz:(x.aGz.length<=maxLen /\ ∀y∈x.aGz,M.aGr.ok y)
def M.World.sh:List Shp:=[.int .i64,.bool,.int .i64,.sl M.aG.sh,.sl M.bJ.sh,.int .i64,.sl M.nW.sh,.sl M.Bk.sh,.sl M.aGl.sh,.sl M.aGr.sh]
def M.World.sz (x:M.World):Nat:=M.aA.sz x.aA+((x.aGx.length+cX M.bJ.sz x.aGx)+(M.aR.sz x.aGy+(M.aGt.sz x.aGt+((x.aG2.length+cX M.aGl.sz x.aG2)+((x.aGz.length+cX M.aGr.sz x.aGz))))))
structure M.Op.ok (x:M.Op):Prop where
 aG7:inI x.aG7
 aD:x.aD.size<=maxLen
 Key:M.Key.ok x.Key
 aE:M.aE.ok x.aE
 Field:x.Field.size<=maxLen
def M.Op.sh:List Shp:=[.int .i64,.str,.int .i64,.int .i64,.str,.sl M.Field.sh,.str]
def M.Op.sz (x:M.Op):Nat:=x.aD.size+(M.Key.sz x.Key+(M.aE.sz x.aE+(x.Field.size)))
structure M.gK.ok (x:M.gK):Prop where
 Low:M.Key.ok x.Low
 aHZ:M.Key.ok x.aHZ
def M.gK.sh:List Shp:=[.bool,.bool,.int .i64,.int .i64,.str,.int .i64,.int .i64,.str]
def M.gK.sz (x:M.gK):Nat:=M.Key.sz x.Low+(M.Key.sz x.aHZ)
structure M.lD.ok (x:M.lD):Prop where
 aG7:inI x.aG7
 aD:x.aD.size<=maxLen
 Field:x.Field.size<=maxLen
def M.lD.sh:List Shp:=[.int .i64,.str,.str]
def M.lD.sz (x:M.lD):Nat:=x.aD.size+(x.Field.size)
end Go.Proofs.YtipmihbgjolaaaaGreat.gen
