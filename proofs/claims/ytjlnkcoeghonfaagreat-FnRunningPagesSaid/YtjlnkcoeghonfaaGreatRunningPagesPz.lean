/-
  Helper text. No conditions.
-/
import Derived.Test.YtjlnkcoeghonfaaGreatRunningPagesMod
set_option linter.all false
namespace Go.Proofs.YtjlnkcoeghonfaaGreat.gen
open Go Go.Sh
structure M.aLU.ok (x:M.aLU):Prop where
 aLa:x.aLa.size<=maxLen
 aL0:inI x.aL0
 aL6:inI x.aL6
 aMA:inI x.aMA
def M.aLU.sh:List Shp:=[.str,.int .i64,.int .i64,.int .i64]
def M.aLU.sz(x:M.aLU):Nat:=x.aLa.size
structure M.aLb.ok (x:M.aLb):Prop where
 aMM:inI x.aMM
 aMD:inI x.aMD
 aLT:inI x.aLT
 aMN:okB x.aMN
def M.aLb.sh:List Shp:=[.int .i64,.int .i64,.int .i64,.sl [.int .u8],.bool]
def M.aLb.sz(x:M.aLb):Nat:=x.aMN.length
structure M.aLr.ok (x:M.aLr):Prop where
 aLa:x.aLa.size<=maxLen
 aMF:x.aMF.size<=maxLen
 aLb:M.aLb.ok x.aLb
def M.aLr.sh:List Shp:=[.str,.str,.int .i64,.int .i64,.int .i64,.sl [.int .u8],.bool]
def M.aLr.sz(x:M.aLr):Nat:=x.aLa.size+(x.aMF.size+(M.aLb.sz x.aLb))
structure M.aLi.ok (x:M.aLi):Prop where
 aLT:inI x.aLT
 aLg:(x.aLg.length<=maxLen/\∀y∈x.aLg,M.aLr.ok y)
def M.aLi.sh:List Shp:=[.int .i64,.sl M.aLr.sh]
def M.aLi.sz(x:M.aLi):Nat:=x.aLg.length+dV M.aLr.sz x.aLg
structure M.aJ.ok (x:M.aJ):Prop where
 aLW:(x.aLW.length<=maxLen/\∀y∈x.aLW,M.aLi.ok y)
def M.aJ.sh:List Shp:=[.sl M.aLi.sh]
def M.aJ.sz(x:M.aJ):Nat:=x.aLW.length+dV M.aLi.sz x.aLW
structure M.bD.ok (x:M.bD):Prop where
 aLn:inI x.aLn
 N:inI x.N
 aLu:x.aLu.size<=maxLen
def M.bD.sh:List Shp:=[.int .i64,.int .i64,.str]
def M.bD.sz(x:M.bD):Nat:=x.aLu.size
structure M.aR.ok (x:M.aR):Prop where
 Name:x.Name.size<=maxLen
 N:inI x.N
def M.aR.sh:List Shp:=[.str,.int .i64]
def M.aR.sz(x:M.aR):Nat:=x.Name.size
structure M.aF.ok (x:M.aF):Prop where
 aLY:(x.aLY.length<=maxLen/\∀y∈x.aLY,M.aR.ok y)
def M.aF.sh:List Shp:=[.sl M.aR.sh]
def M.aF.sz(x:M.aF):Nat:=x.aLY.length+dV M.aR.sz x.aLY
structure M.aLo.ok (x:M.aLo):Prop where
 Key:M.bD.ok x.Key
 aF:M.aF.ok x.aF
def M.aLo.sh:List Shp:=[.int .i64,.int .i64,.str,.sl M.aR.sh]
def M.aLo.sz(x:M.aLo):Nat:=M.bD.sz x.Key+(M.aF.sz x.aF)
structure M.aE.ok (x:M.aE):Prop where
 Name:x.Name.size<=maxLen
 aLV:(x.aLV.length<=maxLen/\∀y∈x.aLV,M.aLo.ok y)
 aLx:inI x.aLx
def M.aE.sh:List Shp:=[.str,.sl M.aLo.sh,.int .i64]
def M.aE.sz(x:M.aE):Nat:=x.Name.size+(x.aLV.length+dV M.aLo.sz x.aLV)
structure M.aU.ok (x:M.aU):Prop where
 aE:x.aE.size<=maxLen
 Field:x.Field.size<=maxLen
def M.aU.sh:List Shp:=[.str,.str]
def M.aU.sz(x:M.aU):Nat:=x.aE.size+(x.Field.size)
structure M.aLS.ok (x:M.aLS):Prop where
 Name:x.Name.size<=maxLen
 aLT:inI x.aLT
 aLc:(x.aLc.length<=maxLen/\∀y∈x.aLc,M.aE.ok y)
 aLm:(x.aLm.length<=maxLen/\∀y∈x.aLm,M.aU.ok y)
def M.aLS.sh:List Shp:=[.str,.int .i64,.sl M.aE.sh,.sl M.aU.sh]
def M.aLS.sz(x:M.aLS):Nat:=x.Name.size+((x.aLc.length+dV M.aE.sz x.aLc)+(x.aLm.length+dV M.aU.sz x.aLm))
structure M.bP.ok (x:M.bP):Prop where
 aLq:M.aLS.ok x.aLq
 Log:okB x.Log
 aL5:inI x.aL5
def M.bP.sh:List Shp:=[.str,.int .i64,.sl M.aE.sh,.sl M.aU.sh,.sl [.int .u8],.int .i64]
def M.bP.sz(x:M.bP):Nat:=M.aLS.sz x.aLq+(x.Log.length)
structure M.bR.ok (x:M.bR):Prop where
 aLZ:inI x.aLZ
 Seq:inI x.Seq
 Key:M.bD.ok x.Key
 Field:x.Field.size<=maxLen
 N:inI x.N
def M.bR.sh:List Shp:=[.int .i64,.int .i64,.int .i64,.int .i64,.str,.str,.int .i64]
def M.bR.sz(x:M.bR):Nat:=M.bD.sz x.Key+(x.Field.size)
structure M.aN.ok (x:M.aN):Prop where
 aLZ:inI x.aLZ
 aL2:inI x.aL2
 aLl:(x.aLl.length<=maxLen/\∀y∈x.aLl,M.bR.ok y)
def M.aN.sh:List Shp:=[.int .i64,.int .i64,.sl M.bR.sh]
def M.aN.sz(x:M.aN):Nat:=x.aLl.length+dV M.bR.sz x.aLl
structure M.aLs.ok (x:M.aLs):Prop where
 aN:M.aN.ok x.aN
 aL7:inI x.aL7
 aLw:inI x.aLw
def M.aLs.sh:List Shp:=[.int .i64,.int .i64,.sl M.bR.sh,.int .i64,.int .i64]
def M.aLs.sz(x:M.aLs):Nat:=M.aN.sz x.aN
structure M.aG.ok (x:M.aG):Prop where
 aLq:M.aE.ok x.aLq
 aMG:inI x.aMG
 aLs:M.aLs.ok x.aLs
def M.aG.sh:List Shp:=[.str,.sl M.aLo.sh,.int .i64,.int .i64,.int .i64,.int .i64,.sl M.bR.sh,.int .i64,.int .i64]
def M.aG.sz(x:M.aG):Nat:=M.aE.sz x.aLq+(M.aLs.sz x.aLs)
structure M.Bucket.ok (x:M.Bucket):Prop where
 aLa:x.aLa.size<=maxLen
 Top:x.Top.size<=maxLen
 aLU:M.aLU.ok x.aLU
 aLW:M.aJ.ok x.aLW
 bP:M.bP.ok x.bP
 aG:M.aG.ok x.aG
 aL1:inI x.aL1
def M.Bucket.sh:List Shp:=[.str,.str,.str,.int .i64,.int .i64,.int .i64,.sl M.aLi.sh,.str,.int .i64,.sl M.aE.sh,.sl M.aU.sh,.sl [.int .u8],.int .i64,.str,.sl M.aLo.sh,.int .i64,.int .i64,.int .i64,.int .i64,.sl M.bR.sh,.int .i64,.int .i64,.int .i64,.bool]
def M.Bucket.sz(x:M.Bucket):Nat:=x.aLa.size+(x.Top.size+(M.aLU.sz x.aLU+(M.aJ.sz x.aLW+(M.bP.sz x.bP+(M.aG.sz x.aG)))))
structure M.aC.ok (x:M.aC):Prop where
 Buckets:(x.Buckets.length<=maxLen/\∀y∈x.Buckets,M.Bucket.ok y)
def M.aC.sh:List Shp:=[.sl M.Bucket.sh]
def M.aC.sz(x:M.aC):Nat:=x.Buckets.length+dV M.Bucket.sz x.Buckets
structure M.aW.ok (x:M.aW):Prop where
 aMF:x.aMF.size<=maxLen
 aLT:inI x.aLT
def M.aW.sh:List Shp:=[.str,.int .i64]
def M.aW.sz(x:M.aW):Nat:=x.aMF.size
structure M.aZ.ok (x:M.aZ):Prop where
 aLn:inI x.aLn
 R:inI x.R
 N:inI x.N
 aLu:x.aLu.size<=maxLen
def M.aZ.sh:List Shp:=[.int .i64,.int .i64,.int .i64,.str]
def M.aZ.sz(x:M.aZ):Nat:=x.aLu.size
structure M.aLX.ok (x:M.aLX):Prop where
 aLz:(x.aLz.length<=maxLen/\∀y∈x.aLz,M.aZ.ok y)
 Pc:inI x.Pc
 aMC:okI x.aMC
 aME:inI x.aME
def M.aLX.sh:List Shp:=[.sl M.aZ.sh,.int .i64,.sl [.int .i64],.int .i64,.bool,.bool]
def M.aLX.sz(x:M.aLX):Nat:=(x.aLz.length+dV M.aZ.sz x.aLz)+(x.aMC.length)
structure M.bO.ok (x:M.bO):Prop where
 Id:inI x.Id
 aLa:x.aLa.size<=maxLen
 Top:x.Top.size<=maxLen
 aLT:inI x.aLT
 aW:(x.aW.length<=maxLen/\∀y∈x.aW,M.aW.ok y)
 aLX:M.aLX.ok x.aLX
def M.bO.sh:List Shp:=[.int .i64,.str,.str,.int .i64,.sl M.aW.sh,.sl M.aZ.sh,.int .i64,.sl [.int .i64],.int .i64,.bool,.bool]
def M.bO.sz(x:M.bO):Nat:=x.aLa.size+(x.Top.size+((x.aW.length+dV M.aW.sz x.aW)+(M.aLX.sz x.aLX)))
structure M.uY.ok (x:M.uY):Prop where
 Name:x.Name.size<=maxLen
 bO:inI x.bO
def M.uY.sh:List Shp:=[.str,.int .i64,.bool,.bool]
def M.uY.sz(x:M.uY):Nat:=x.Name.size
structure M.aT.ok (x:M.aT):Prop where
 aLk:(x.aLk.length<=maxLen/\∀y∈x.aLk,M.uY.ok y)
def M.aT.sh:List Shp:=[.sl M.uY.sh]
def M.aT.sz(x:M.aT):Nat:=x.aLk.length+dV M.uY.sz x.aLk
structure M.Fy.ok (x:M.Fy):Prop where
 To:inI x.To
 aMU:inI x.aMU
 N:inI x.N
def M.Fy.sh:List Shp:=[.int .i64,.int .i64,.int .i64]
structure M.aLe.ok (x:M.aLe):Prop where
 aL8:(x.aL8.length<=maxLen/\∀y∈x.aL8,M.Fy.ok y)
def M.aLe.sh:List Shp:=[.sl M.Fy.sh]
def M.aLe.sz(x:M.aLe):Nat:=x.aL8.length
structure M.aLa.ok (x:M.aLa):Prop where
 Name:x.Name.size<=maxLen
 aLT:inI x.aLT
 aL4:okS x.aL4
def M.aLa.sh:List Shp:=[.str,.int .i64,.sl [.str],.bool]
def M.aLa.sz(x:M.aLa):Nat:=x.Name.size+(x.aL4.length+dV ByteArray.size x.aL4)
structure M.aQ.ok (x:M.aQ):Prop where
 aLZ:inI x.aLZ
 Seq:inI x.Seq
def M.aQ.sh:List Shp:=[.int .i64,.int .i64]
structure M.aLj.ok (x:M.aLj):Prop where
 aE:M.aE.ok x.aE
 aQ:(x.aQ.length<=maxLen/\∀y∈x.aQ,M.aQ.ok y)
 aLv:(x.aLv.length<=maxLen/\∀y∈x.aLv,M.bR.ok y)
def M.aLj.sh:List Shp:=[.str,.sl M.aLo.sh,.int .i64,.sl M.aQ.sh,.sl M.bR.sh]
def M.aLj.sz(x:M.aLj):Nat:=M.aE.sz x.aE+(x.aQ.length+(x.aLv.length+dV M.bR.sz x.aLv))
structure M.aD.ok (x:M.aD):Prop where
 Now:inI x.Now
 aLZ:inI x.aLZ
 aC:M.aC.ok x.aC
 aLf:(x.aLf.length<=maxLen/\∀y∈x.aLf,M.bO.ok y)
 aLd:inI x.aLd
 aLk:M.aT.ok x.aLk
 aLe:M.aLe.ok x.aLe
 aLp:(x.aLp.length<=maxLen/\∀y∈x.aLp,M.aLa.ok y)
 aLh:(x.aLh.length<=maxLen/\∀y∈x.aLh,M.aLj.ok y)
def M.aD.sh:List Shp:=[.int .i64,.bool,.int .i64,.sl M.Bucket.sh,.sl M.bO.sh,.int .i64,.sl M.uY.sh,.sl M.Fy.sh,.sl M.aLa.sh,.sl M.aLj.sh]
def M.aD.sz(x:M.aD):Nat:=M.aC.sz x.aC+((x.aLf.length+dV M.bO.sz x.aLf)+(M.aT.sz x.aLk+(M.aLe.sz x.aLe+((x.aLp.length+dV M.aLa.sz x.aLp)+(x.aLh.length+dV M.aLj.sz x.aLh)))))
structure M.Ask.ok (x:M.Ask):Prop where
 aLn:inI x.aLn
 R:inI x.R
 N:inI x.N
 aLu:x.aLu.size<=maxLen
 Value:inI x.Value
def M.Ask.sh:List Shp:=[.int .i64,.int .i64,.int .i64,.str,.int .i64]
def M.Ask.sz(x:M.Ask):Nat:=x.aLu.size
structure M.gN.ok (x:M.gN):Prop where
 aLn:inI x.aLn
 aE:x.aE.size<=maxLen
 Key:M.bD.ok x.Key
 aF:M.aF.ok x.aF
 Field:x.Field.size<=maxLen
def M.gN.sh:List Shp:=[.int .i64,.str,.int .i64,.int .i64,.str,.sl M.aR.sh,.str]
def M.gN.sz(x:M.gN):Nat:=x.aE.size+(M.bD.sz x.Key+(M.aF.sz x.aF+(x.Field.size)))
structure M.gE.ok (x:M.gE):Prop where
 Low:M.bD.ok x.Low
 aMK:M.bD.ok x.aMK
def M.gE.sh:List Shp:=[.bool,.bool,.int .i64,.int .i64,.str,.int .i64,.int .i64,.str]
def M.gE.sz(x:M.gE):Nat:=M.bD.sz x.Low+(M.bD.sz x.aMK)
structure M.pR.ok (x:M.pR):Prop where
 aLn:inI x.aLn
 aE:x.aE.size<=maxLen
 Field:x.Field.size<=maxLen
def M.pR.sh:List Shp:=[.int .i64,.str,.str]
def M.pR.sz(x:M.pR):Nat:=x.aE.size+(x.Field.size)
