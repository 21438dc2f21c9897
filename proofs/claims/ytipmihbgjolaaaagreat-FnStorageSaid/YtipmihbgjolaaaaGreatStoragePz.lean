/-
  Helper text. No conditions.
-/
import Derived.Test.YtipmihbgjolaaaaGreatStorageMod
set_option linter.unusedVariables false
set_option linter.unusedSimpArgs false
namespace Go.Proofs.YtipmihbgjolaaaaGreat.gen
open Go Go.Sh
structure M.Key.ok (x:M.Key):Prop where
 Zi:inI x.Zi
 N:inI x.N
 Zp:x.Zp.size<=maxLen
def M.Key.sh:List Shp:=[.int .i64,.int .i64,.str]
def M.Key.sz(x:M.Key):Nat:=x.Zp.size
structure M.aV.ok (x:M.aV):Prop where
 Zg:inI x.Zg
 ZI:inI x.ZI
 Key:M.Key.ok x.Key
 Field:x.Field.size<=maxLen
 N:inI x.N
def M.aV.sh:List Shp:=[.int .i64,.int .i64,.int .i64,.int .i64,.str,.str,.int .i64]
def M.aV.sz(x:M.aV):Nat:=M.Key.sz x.Key+(x.Field.size)
structure M.aF.ok (x:M.aF):Prop where
 Zg:inI x.Zg
 Zr:inI x.Zr
 Y9:(x.Y9.length<=maxLen/\∀y∈x.Y9,M.aV.ok y)
def M.aF.sh:List Shp:=[.int .i64,.int .i64,.sl M.aV.sh]
def M.aF.sz(x:M.aF):Nat:=x.Y9.length+jO M.aV.sz x.Y9
structure M.YZ.ok (x:M.YZ):Prop where
 Zh:x.Zh.size<=maxLen
 Zm:inI x.Zm
 Zs:inI x.Zs
 Zv:inI x.Zv
def M.YZ.sh:List Shp:=[.str,.int .i64,.int .i64,.int .i64]
def M.YZ.sz(x:M.YZ):Nat:=x.Zh.size
structure M.Y7.ok (x:M.Y7):Prop where
 ZC:inI x.ZC
 ZA:inI x.ZA
 Y2:inI x.Y2
 ZE:okB x.ZE
def M.Y7.sh:List Shp:=[.int .i64,.int .i64,.int .i64,.sl [.int .u8],.bool]
def M.Y7.sz(x:M.Y7):Nat:=x.ZE.length
structure M.Zb.ok (x:M.Zb):Prop where
 Zh:x.Zh.size<=maxLen
 Zy:x.Zy.size<=maxLen
 Y7:M.Y7.ok x.Y7
def M.Zb.sh:List Shp:=[.str,.str,.int .i64,.int .i64,.int .i64,.sl [.int .u8],.bool]
def M.Zb.sz(x:M.Zb):Nat:=x.Zh.size+(x.Zy.size+(M.Y7.sz x.Y7))
structure M.Y6.ok (x:M.Y6):Prop where
 Y2:inI x.Y2
 Y8:(x.Y8.length<=maxLen/\∀y∈x.Y8,M.Zb.ok y)
def M.Y6.sh:List Shp:=[.int .i64,.sl M.Zb.sh]
def M.Y6.sz(x:M.Y6):Nat:=x.Y8.length+jO M.Zb.sz x.Y8
structure M.aE.ok (x:M.aE):Prop where
 Y1:(x.Y1.length<=maxLen/\∀y∈x.Y1,M.Y6.ok y)
def M.aE.sh:List Shp:=[.sl M.Y6.sh]
def M.aE.sz(x:M.aE):Nat:=x.Y1.length+jO M.Y6.sz x.Y1
structure M.Field.ok (x:M.Field):Prop where
 Name:x.Name.size<=maxLen
 N:inI x.N
def M.Field.sh:List Shp:=[.str,.int .i64]
def M.Field.sz(x:M.Field):Nat:=x.Name.size
structure M.aC.ok (x:M.aC):Prop where
 Y4:(x.Y4.length<=maxLen/\∀y∈x.Y4,M.Field.ok y)
def M.aC.sh:List Shp:=[.sl M.Field.sh]
def M.aC.sz(x:M.aC):Nat:=x.Y4.length+jO M.Field.sz x.Y4
structure M.Zd.ok (x:M.Zd):Prop where
 Key:M.Key.ok x.Key
 aC:M.aC.ok x.aC
def M.Zd.sh:List Shp:=[.int .i64,.int .i64,.str,.sl M.Field.sh]
def M.Zd.sz(x:M.Zd):Nat:=M.Key.sz x.Key+(M.aC.sz x.aC)
structure M.aA.ok (x:M.aA):Prop where
 Name:x.Name.size<=maxLen
 Y3:(x.Y3.length<=maxLen/\∀y∈x.Y3,M.Zd.ok y)
 Zn:inI x.Zn
def M.aA.sh:List Shp:=[.str,.sl M.Zd.sh,.int .i64]
def M.aA.sz(x:M.aA):Nat:=x.Name.size+(x.Y3.length+jO M.Zd.sz x.Y3)
structure M.aM.ok (x:M.aM):Prop where
 aA:x.aA.size<=maxLen
 Field:x.Field.size<=maxLen
def M.aM.sh:List Shp:=[.str,.str]
def M.aM.sz(x:M.aM):Nat:=x.aA.size+(x.Field.size)
structure M.YY.ok (x:M.YY):Prop where
 Name:x.Name.size<=maxLen
 Y2:inI x.Y2
 Y5:(x.Y5.length<=maxLen/\∀y∈x.Y5,M.aA.ok y)
 Za:(x.Za.length<=maxLen/\∀y∈x.Za,M.aM.ok y)
def M.YY.sh:List Shp:=[.str,.int .i64,.sl M.aA.sh,.sl M.aM.sh]
def M.YY.sz(x:M.YY):Nat:=x.Name.size+((x.Y5.length+jO M.aA.sz x.Y5)+(x.Za.length+jO M.aM.sz x.Za))
structure M.Ze.ok (x:M.Ze):Prop where
 aF:M.aF.ok x.aF
 Zt:inI x.Zt
 Zj:inI x.Zj
def M.Ze.sh:List Shp:=[.int .i64,.int .i64,.sl M.aV.sh,.int .i64,.int .i64]
def M.Ze.sz(x:M.Ze):Nat:=M.aF.sz x.aF
structure M.aD.ok (x:M.aD):Prop where
 Zf:M.aA.ok x.Zf
 Zx:inI x.Zx
 Ze:M.Ze.ok x.Ze
def M.aD.sh:List Shp:=[.str,.sl M.Zd.sh,.int .i64,.int .i64,.int .i64,.int .i64,.sl M.aV.sh,.int .i64,.int .i64]
def M.aD.sz(x:M.aD):Nat:=M.aA.sz x.Zf+(M.Ze.sz x.Ze)
structure M.bG.ok (x:M.bG):Prop where
 Zf:M.YY.ok x.Zf
 ZD:okB x.ZD
 Zu:inI x.Zu
def M.bG.sh:List Shp:=[.str,.int .i64,.sl M.aA.sh,.sl M.aM.sh,.sl [.int .u8],.int .i64]
def M.bG.sz(x:M.bG):Nat:=M.YY.sz x.Zf+(x.ZD.length)
structure M.aK.ok (x:M.aK):Prop where
 Zh:x.Zh.size<=maxLen
 Zw:x.Zw.size<=maxLen
 YZ:M.YZ.ok x.YZ
 Y1:M.aE.ok x.Y1
 bG:M.bG.ok x.bG
 aD:M.aD.ok x.aD
 Zo:inI x.Zo
def M.aK.sh:List Shp:=[.str,.str,.str,.int .i64,.int .i64,.int .i64,.sl M.Y6.sh,.str,.int .i64,.sl M.aA.sh,.sl M.aM.sh,.sl [.int .u8],.int .i64,.str,.sl M.Zd.sh,.int .i64,.int .i64,.int .i64,.int .i64,.sl M.aV.sh,.int .i64,.int .i64,.int .i64,.bool]
def M.aK.sz(x:M.aK):Nat:=x.Zh.size+(x.Zw.size+(M.YZ.sz x.YZ+(M.aE.sz x.Y1+(M.bG.sz x.bG+(M.aD.sz x.aD)))))
structure M.Op.ok (x:M.Op):Prop where
 Zi:inI x.Zi
 aA:x.aA.size<=maxLen
 Key:M.Key.ok x.Key
 aC:M.aC.ok x.aC
 Field:x.Field.size<=maxLen
def M.Op.sh:List Shp:=[.int .i64,.str,.int .i64,.int .i64,.str,.sl M.Field.sh,.str]
def M.Op.sz(x:M.Op):Nat:=x.aA.size+(M.Key.sz x.Key+(M.aC.sz x.aC+(x.Field.size)))
structure M.eX.ok (x:M.eX):Prop where
 ZN:M.Key.ok x.ZN
 ZH:M.Key.ok x.ZH
def M.eX.sh:List Shp:=[.bool,.bool,.int .i64,.int .i64,.str,.int .i64,.int .i64,.str]
def M.eX.sz(x:M.eX):Nat:=M.Key.sz x.ZN+(M.Key.sz x.ZH)
structure M.aH.ok (x:M.aH):Prop where
 Y0:(x.Y0.length<=maxLen/\∀y∈x.Y0,M.aK.ok y)
def M.aH.sh:List Shp:=[.sl M.aK.sh]
def M.aH.sz(x:M.aH):Nat:=x.Y0.length+jO M.aK.sz x.Y0
structure M.iN.ok (x:M.iN):Prop where
 Zi:inI x.Zi
 aA:x.aA.size<=maxLen
 Field:x.Field.size<=maxLen
def M.iN.sh:List Shp:=[.int .i64,.str,.str]
def M.iN.sz(x:M.iN):Nat:=x.aA.size+(x.Field.size)
structure M.aT.ok (x:M.aT):Prop where
 Zg:inI x.Zg
 ZI:inI x.ZI
def M.aT.sh:List Shp:=[.int .i64,.int .i64]
structure M.Zk.ok (x:M.Zk):Prop where
 aA:M.aA.ok x.aA
 aT:(x.aT.length<=maxLen/\∀y∈x.aT,M.aT.ok y)
 Zq:(x.Zq.length<=maxLen/\∀y∈x.Zq,M.aV.ok y)
def M.Zk.sh:List Shp:=[.str,.sl M.Zd.sh,.int .i64,.sl M.aT.sh,.sl M.aV.sh]
def M.Zk.sz(x:M.Zk):Nat:=M.aA.sz x.aA+(x.aT.length+(x.Zq.length+jO M.aV.sz x.Zq))
structure M.Instr.ok (x:M.Instr):Prop where
 Zi:inI x.Zi
 R:inI x.R
 N:inI x.N
 Zp:x.Zp.size<=maxLen
def M.Instr.sh:List Shp:=[.int .i64,.int .i64,.int .i64,.str]
def M.Instr.sz(x:M.Instr):Nat:=x.Zp.size
structure M.Zc.ok (x:M.Zc):Prop where
 Zz:(x.Zz.length<=maxLen/\∀y∈x.Zz,M.Instr.ok y)
 Pc:inI x.Pc
 ZK:okI x.ZK
 ZG:inI x.ZG
def M.Zc.sh:List Shp:=[.sl M.Instr.sh,.int .i64,.sl [.int .i64],.int .i64,.bool,.bool]
def M.Zc.sz(x:M.Zc):Nat:=(x.Zz.length+jO M.Instr.sz x.Zz)+(x.ZK.length)
structure M.bC.ok (x:M.bC):Prop where
 Zy:x.Zy.size<=maxLen
 Y2:inI x.Y2
def M.bC.sh:List Shp:=[.str,.int .i64]
def M.bC.sz(x:M.bC):Nat:=x.Zy.size
structure M.fS.ok (x:M.fS):Prop where
 Id:inI x.Id
 Zh:x.Zh.size<=maxLen
 Zw:x.Zw.size<=maxLen
 Y2:inI x.Y2
 bC:(x.bC.length<=maxLen/\∀y∈x.bC,M.bC.ok y)
 Zc:M.Zc.ok x.Zc
def M.fS.sh:List Shp:=[.int .i64,.str,.str,.int .i64,.sl M.bC.sh,.sl M.Instr.sh,.int .i64,.sl [.int .i64],.int .i64,.bool,.bool]
def M.fS.sz(x:M.fS):Nat:=x.Zh.size+(x.Zw.size+((x.bC.length+jO M.bC.sz x.bC)+(M.Zc.sz x.Zc)))
end Go.Proofs.YtipmihbgjolaaaaGreat.gen
