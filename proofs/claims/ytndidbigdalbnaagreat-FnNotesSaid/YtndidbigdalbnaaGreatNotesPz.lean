/-
  Helper text. No conditions.
-/
import Derived.Test.YtndidbigdalbnaaGreatNotesMod
set_option linter.all false
namespace Go.Proofs.YtndidbigdalbnaaGreat.gen
open Go Go.Sh
structure M.aKd.ok (x:M.aKd):Prop where
 aKl:x.aKl.size<=maxLen
 aLB:inI x.aLB
 aLH:inI x.aLH
 aLL:inI x.aLL
def M.aKd.sh:List Shp:=[.str,.int .i64,.int .i64,.int .i64]
def M.aKd.sz(x:M.aKd):Nat:=x.aKl.size
structure M.aKo.ok (x:M.aKo):Prop where
 aLX:inI x.aLX
 aLV:inI x.aLV
 aKb:inI x.aKb
 aLZ:okB x.aLZ
def M.aKo.sh:List Shp:=[.int .i64,.int .i64,.int .i64,.sl [.int .u8],.bool]
def M.aKo.sz(x:M.aKo):Nat:=x.aLZ.length
structure M.aK2.ok (x:M.aK2):Prop where
 aKl:x.aKl.size<=maxLen
 aLQ:x.aLQ.size<=maxLen
 aKo:M.aKo.ok x.aKo
def M.aK2.sh:List Shp:=[.str,.str,.int .i64,.int .i64,.int .i64,.sl [.int .u8],.bool]
def M.aK2.sz(x:M.aK2):Nat:=x.aKl.size+(x.aLQ.size+(M.aKo.sz x.aKo))
structure M.aKv.ok (x:M.aKv):Prop where
 aKb:inI x.aKb
 aKs:(x.aKs.length<=maxLen/\∀y∈x.aKs,M.aK2.ok y)
def M.aKv.sh:List Shp:=[.int .i64,.sl M.aK2.sh]
def M.aKv.sz(x:M.aKv):Nat:=x.aKs.length+dO M.aK2.sz x.aKs
structure M.aN.ok (x:M.aN):Prop where
 aKi:(x.aKi.length<=maxLen/\∀y∈x.aKi,M.aKv.ok y)
def M.aN.sh:List Shp:=[.sl M.aKv.sh]
def M.aN.sz(x:M.aN):Nat:=x.aKi.length+dO M.aKv.sz x.aKi
structure M.bD.ok (x:M.bD):Prop where
 aKx:inI x.aKx
 N:inI x.N
 aK5:x.aK5.size<=maxLen
def M.bD.sh:List Shp:=[.int .i64,.int .i64,.str]
def M.bD.sz(x:M.bD):Nat:=x.aK5.size
structure M.aR.ok (x:M.aR):Prop where
 Name:x.Name.size<=maxLen
 N:inI x.N
def M.aR.sh:List Shp:=[.str,.int .i64]
def M.aR.sz(x:M.aR):Nat:=x.Name.size
structure M.aF.ok (x:M.aF):Prop where
 aKj:(x.aKj.length<=maxLen/\∀y∈x.aKj,M.aR.ok y)
def M.aF.sh:List Shp:=[.sl M.aR.sh]
def M.aF.sz(x:M.aF):Nat:=x.aKj.length+dO M.aR.sz x.aKj
structure M.aKy.ok (x:M.aKy):Prop where
 Key:M.bD.ok x.Key
 aF:M.aF.ok x.aF
def M.aKy.sh:List Shp:=[.int .i64,.int .i64,.str,.sl M.aR.sh]
def M.aKy.sz(x:M.aKy):Nat:=M.bD.sz x.Key+(M.aF.sz x.aF)
structure M.aD.ok (x:M.aD):Prop where
 Name:x.Name.size<=maxLen
 aKg:(x.aKg.length<=maxLen/\∀y∈x.aKg,M.aKy.ok y)
 aK7:inI x.aK7
def M.aD.sh:List Shp:=[.str,.sl M.aKy.sh,.int .i64]
def M.aD.sz(x:M.aD):Nat:=x.Name.size+(x.aKg.length+dO M.aKy.sz x.aKg)
structure M.aV.ok (x:M.aV):Prop where
 aD:x.aD.size<=maxLen
 Field:x.Field.size<=maxLen
def M.aV.sh:List Shp:=[.str,.str]
def M.aV.sz(x:M.aV):Nat:=x.aD.size+(x.Field.size)
structure M.aKc.ok (x:M.aKc):Prop where
 Name:x.Name.size<=maxLen
 aKb:inI x.aKb
 aKm:(x.aKm.length<=maxLen/\∀y∈x.aKm,M.aD.ok y)
 aKz:(x.aKz.length<=maxLen/\∀y∈x.aKz,M.aV.ok y)
def M.aKc.sh:List Shp:=[.str,.int .i64,.sl M.aD.sh,.sl M.aV.sh]
def M.aKc.sz(x:M.aKc):Nat:=x.Name.size+((x.aKm.length+dO M.aD.sz x.aKm)+(x.aKz.length+dO M.aV.sz x.aKz))
structure M.bJ.ok (x:M.bJ):Prop where
 aK1:M.aKc.ok x.aK1
 Log:okB x.Log
 aLF:inI x.aLF
def M.bJ.sh:List Shp:=[.str,.int .i64,.sl M.aD.sh,.sl M.aV.sh,.sl [.int .u8],.int .i64]
def M.bJ.sz(x:M.bJ):Nat:=M.aKc.sz x.aK1+(x.Log.length)
structure M.cH.ok (x:M.cH):Prop where
 aKk:inI x.aKk
 Seq:inI x.Seq
 Key:M.bD.ok x.Key
 Field:x.Field.size<=maxLen
 N:inI x.N
def M.cH.sh:List Shp:=[.int .i64,.int .i64,.int .i64,.int .i64,.str,.str,.int .i64]
def M.cH.sz(x:M.cH):Nat:=M.bD.sz x.Key+(x.Field.size)
structure M.aO.ok (x:M.aO):Prop where
 aKk:inI x.aKk
 aLE:inI x.aLE
 aKw:(x.aKw.length<=maxLen/\∀y∈x.aKw,M.cH.ok y)
def M.aO.sh:List Shp:=[.int .i64,.int .i64,.sl M.cH.sh]
def M.aO.sz(x:M.aO):Nat:=x.aKw.length+dO M.cH.sz x.aKw
structure M.aK3.ok (x:M.aK3):Prop where
 aO:M.aO.ok x.aO
 aLI:inI x.aLI
 aK8:inI x.aK8
def M.aK3.sh:List Shp:=[.int .i64,.int .i64,.sl M.cH.sh,.int .i64,.int .i64]
def M.aK3.sz(x:M.aK3):Nat:=M.aO.sz x.aO
structure M.aH.ok (x:M.aH):Prop where
 aK1:M.aD.ok x.aK1
 aLT:inI x.aLT
 aK3:M.aK3.ok x.aK3
def M.aH.sh:List Shp:=[.str,.sl M.aKy.sh,.int .i64,.int .i64,.int .i64,.int .i64,.sl M.cH.sh,.int .i64,.int .i64]
def M.aH.sz(x:M.aH):Nat:=M.aD.sz x.aK1+(M.aK3.sz x.aK3)
structure M.aKe.ok (x:M.aKe):Prop where
 aKl:x.aKl.size<=maxLen
 Top:x.Top.size<=maxLen
 aKd:M.aKd.ok x.aKd
 aKi:M.aN.ok x.aKi
 bJ:M.bJ.ok x.bJ
 aH:M.aH.ok x.aH
 aLC:inI x.aLC
def M.aKe.sh:List Shp:=[.str,.str,.str,.int .i64,.int .i64,.int .i64,.sl M.aKv.sh,.str,.int .i64,.sl M.aD.sh,.sl M.aV.sh,.sl [.int .u8],.int .i64,.str,.sl M.aKy.sh,.int .i64,.int .i64,.int .i64,.int .i64,.sl M.cH.sh,.int .i64,.int .i64,.int .i64,.bool]
def M.aKe.sz(x:M.aKe):Nat:=x.aKl.size+(x.Top.size+(M.aKd.sz x.aKd+(M.aN.sz x.aKi+(M.bJ.sz x.bJ+(M.aH.sz x.aH)))))
structure M.aC.ok (x:M.aC):Prop where
 aKf:(x.aKf.length<=maxLen/\∀y∈x.aKf,M.aKe.ok y)
def M.aC.sh:List Shp:=[.sl M.aKe.sh]
def M.aC.sz(x:M.aC):Nat:=x.aKf.length+dO M.aKe.sz x.aKf
structure M.aT.ok (x:M.aT):Prop where
 aLQ:x.aLQ.size<=maxLen
 aKb:inI x.aKb
def M.aT.sh:List Shp:=[.str,.int .i64]
def M.aT.sz(x:M.aT):Nat:=x.aLQ.size
structure M.aY.ok (x:M.aY):Prop where
 aKx:inI x.aKx
 R:inI x.R
 N:inI x.N
 aK5:x.aK5.size<=maxLen
def M.aY.sh:List Shp:=[.int .i64,.int .i64,.int .i64,.str]
def M.aY.sz(x:M.aY):Nat:=x.aK5.size
structure M.aKh.ok (x:M.aKh):Prop where
 aLA:(x.aLA.length<=maxLen/\∀y∈x.aLA,M.aY.ok y)
 Pc:inI x.Pc
 aLN:okI x.aLN
 aLM:inI x.aLM
def M.aKh.sh:List Shp:=[.sl M.aY.sh,.int .i64,.sl [.int .i64],.int .i64,.bool,.bool]
def M.aKh.sz(x:M.aKh):Nat:=(x.aLA.length+dO M.aY.sz x.aLA)+(x.aLN.length)
structure M.bK.ok (x:M.bK):Prop where
 Id:inI x.Id
 aKl:x.aKl.size<=maxLen
 Top:x.Top.size<=maxLen
 aKb:inI x.aKb
 aT:(x.aT.length<=maxLen/\∀y∈x.aT,M.aT.ok y)
 aKh:M.aKh.ok x.aKh
def M.bK.sh:List Shp:=[.int .i64,.str,.str,.int .i64,.sl M.aT.sh,.sl M.aY.sh,.int .i64,.sl [.int .i64],.int .i64,.bool,.bool]
def M.bK.sz(x:M.bK):Nat:=x.aKl.size+(x.Top.size+((x.aT.length+dO M.aT.sz x.aT)+(M.aKh.sz x.aKh)))
structure M.vE.ok (x:M.vE):Prop where
 Name:x.Name.size<=maxLen
 bK:inI x.bK
def M.vE.sh:List Shp:=[.str,.int .i64,.bool,.bool]
def M.vE.sz(x:M.vE):Nat:=x.Name.size
structure M.aW.ok (x:M.aW):Prop where
 aKu:(x.aKu.length<=maxLen/\∀y∈x.aKu,M.vE.ok y)
def M.aW.sh:List Shp:=[.sl M.vE.sh]
def M.aW.sz(x:M.aW):Nat:=x.aKu.length+dO M.vE.sz x.aKu
structure M.Eb.ok (x:M.Eb):Prop where
 To:inI x.To
 aLf:inI x.aLf
 N:inI x.N
def M.Eb.sh:List Shp:=[.int .i64,.int .i64,.int .i64]
structure M.aKp.ok (x:M.aKp):Prop where
 aLJ:(x.aLJ.length<=maxLen/\∀y∈x.aLJ,M.Eb.ok y)
def M.aKp.sh:List Shp:=[.sl M.Eb.sh]
def M.aKp.sz(x:M.aKp):Nat:=x.aLJ.length
structure M.aKl.ok (x:M.aKl):Prop where
 Name:x.Name.size<=maxLen
 aKb:inI x.aKb
 aLG:okS x.aLG
def M.aKl.sh:List Shp:=[.str,.int .i64,.sl [.str],.bool]
def M.aKl.sz(x:M.aKl):Nat:=x.Name.size+(x.aLG.length+dO ByteArray.size x.aLG)
structure M.aQ.ok (x:M.aQ):Prop where
 aKk:inI x.aKk
 Seq:inI x.Seq
def M.aQ.sh:List Shp:=[.int .i64,.int .i64]
structure M.aKt.ok (x:M.aKt):Prop where
 aD:M.aD.ok x.aD
 aQ:(x.aQ.length<=maxLen/\∀y∈x.aQ,M.aQ.ok y)
 aK6:(x.aK6.length<=maxLen/\∀y∈x.aK6,M.cH.ok y)
def M.aKt.sh:List Shp:=[.str,.sl M.aKy.sh,.int .i64,.sl M.aQ.sh,.sl M.cH.sh]
def M.aKt.sz(x:M.aKt):Nat:=M.aD.sz x.aD+(x.aQ.length+(x.aK6.length+dO M.cH.sz x.aK6))
structure M.aE.ok (x:M.aE):Prop where
 Now:inI x.Now
 aKk:inI x.aKk
 aC:M.aC.ok x.aC
 aKq:(x.aKq.length<=maxLen/\∀y∈x.aKq,M.bK.ok y)
 aKn:inI x.aKn
 aKu:M.aW.ok x.aKu
 aKp:M.aKp.ok x.aKp
 aK0:(x.aK0.length<=maxLen/\∀y∈x.aK0,M.aKl.ok y)
 aKr:(x.aKr.length<=maxLen/\∀y∈x.aKr,M.aKt.ok y)
def M.aE.sh:List Shp:=[.int .i64,.bool,.int .i64,.sl M.aKe.sh,.sl M.bK.sh,.int .i64,.sl M.vE.sh,.sl M.Eb.sh,.sl M.aKl.sh,.sl M.aKt.sh]
def M.aE.sz(x:M.aE):Nat:=M.aC.sz x.aC+((x.aKq.length+dO M.bK.sz x.aKq)+(M.aW.sz x.aKu+(M.aKp.sz x.aKp+((x.aK0.length+dO M.aKl.sz x.aK0)+(x.aKr.length+dO M.aKt.sz x.aKr)))))
structure M.Ask.ok (x:M.Ask):Prop where
 aKx:inI x.aKx
 R:inI x.R
 N:inI x.N
 aK5:x.aK5.size<=maxLen
 Value:inI x.Value
def M.Ask.sh:List Shp:=[.int .i64,.int .i64,.int .i64,.str,.int .i64]
def M.Ask.sz(x:M.Ask):Nat:=x.aK5.size
structure M.fA.ok (x:M.fA):Prop where
 aKx:inI x.aKx
 aD:x.aD.size<=maxLen
 Key:M.bD.ok x.Key
 aF:M.aF.ok x.aF
 Field:x.Field.size<=maxLen
def M.fA.sh:List Shp:=[.int .i64,.str,.int .i64,.int .i64,.str,.sl M.aR.sh,.str]
def M.fA.sz(x:M.fA):Nat:=x.aD.size+(M.bD.sz x.Key+(M.aF.sz x.aF+(x.Field.size)))
structure M.fY.ok (x:M.fY):Prop where
 Low:M.bD.ok x.Low
 aLW:M.bD.ok x.aLW
def M.fY.sh:List Shp:=[.bool,.bool,.int .i64,.int .i64,.str,.int .i64,.int .i64,.str]
def M.fY.sz(x:M.fY):Nat:=M.bD.sz x.Low+(M.bD.sz x.aLW)
structure M.tC.ok (x:M.tC):Prop where
 aKx:inI x.aKx
 aD:x.aD.size<=maxLen
 Field:x.Field.size<=maxLen
def M.tC.sh:List Shp:=[.int .i64,.str,.str]
def M.tC.sz(x:M.tC):Nat:=x.aD.size+(x.Field.size)
