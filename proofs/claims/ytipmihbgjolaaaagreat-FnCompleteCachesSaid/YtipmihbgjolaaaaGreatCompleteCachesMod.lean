/-
  Helper text. No conditions.
-/
import Derived.Test.YtipmihbgjolaaaaGreatCompleteCachesShT
set_option linter.unusedVariables false
set_option linter.unusedSimpArgs false
namespace Go.Proofs.YtipmihbgjolaaaaGreat.gen
open Go Go.Sh
open Go.IntKind (i64)
structure M.aN where
 b:List Int
 i:Int
 h:Int
def M.aN.en (x:M.aN):List D:=[.sl (List.map enB x.b),.int .i64 x.i,.int .i64 x.h]
structure M.aGl where
 Name:ByteArray
 aGg:Int
 aG8:List ByteArray
 aHJ:Bool
def M.aGl.en (x:M.aGl):List D:=[.str x.Name,.int .i64 x.aGg,.sl (List.map enS x.aG8),.bool x.aHJ]
structure M.aGm where
 aHX:Int
 aHO:Int
 aGg:Int
 aHT:List Int
 aHb:Bool
def M.aGm.en (x:M.aGm):List D:=[.int .i64 x.aHX,.int .i64 x.aHO,.int .i64 x.aGg,.sl (List.map enB x.aHT),.bool x.aHb]
structure M.aGw where
 aGl:ByteArray
 aHQ:ByteArray
 aGm:M.aGm
def M.aGw.en (x:M.aGw):List D:=[.str x.aGl,.str x.aHQ,.int .i64 x.aGm.aHX,.int .i64 x.aGm.aHO,.int .i64 x.aGm.aGg,.sl (List.map enB x.aGm.aHT),.bool x.aGm.aHb]
structure M.aGo where
 aGg:Int
 aGs:List M.aGw
def M.aGo.en (x:M.aGo):List D:=[.int .i64 x.aGg,.sl (List.map M.aGw.en x.aGs)]
structure M.aC where
 aGi:List M.aGo
def M.aC.en (x:M.aC):List D:=[.sl (List.map M.aGo.en x.aGi)]
structure M.aGf where
 aGl:ByteArray
 aG6:Int
 aHC:Int
 aHF:Int
def M.aGf.en (x:M.aGf):List D:=[.str x.aGl,.int .i64 x.aG6,.int .i64 x.aHC,.int .i64 x.aHF]
theorem M.aGf.en.fl (l:List M.aGf):(List.map M.aGf.en l).all (λy=>y.all D.flat)=true:=Gm (λ_=>rfl) l
structure M.Key where
 aG7:Int
 N:Int
 aHG:ByteArray
def M.Key.en (x:M.Key):List D:=[.int .i64 x.aG7,.int .i64 x.N,.str x.aHG]
theorem M.Key.en.fl (l:List M.Key):(List.map M.Key.en l).all (λy=>y.all D.flat)=true:=Gm (λ_=>rfl) l
structure M.Field where
 Name:ByteArray
 N:Int
def M.Field.en (x:M.Field):List D:=[.str x.Name,.int .i64 x.N]
theorem M.Field.en.fl (l:List M.Field):(List.map M.Field.en l).all (λy=>y.all D.flat)=true:=Gm (λ_=>rfl) l
structure M.aE where
 aGn:List M.Field
def M.aE.en (x:M.aE):List D:=[.sl (List.map M.Field.en x.aGn)]
structure M.aG1 where
 Key:M.Key
 aE:M.aE
def M.aG1.en (x:M.aG1):List D:=[.int .i64 x.Key.aG7,.int .i64 x.Key.N,.str x.Key.aHG,.sl (List.map M.Field.en x.aE.aGn)]
structure M.aD where
 Name:ByteArray
 aGk:List M.aG1
 aHD:Int
def M.aD.en (x:M.aD):List D:=[.str x.Name,.sl (List.map M.aG1.en x.aGk),.int .i64 x.aHD]
structure M.aO where
 aD:ByteArray
 Field:ByteArray
def M.aO.en (x:M.aO):List D:=[.str x.aD,.str x.Field]
theorem M.aO.en.fl (l:List M.aO):(List.map M.aO.en l).all (λy=>y.all D.flat)=true:=Gm (λ_=>rfl) l
structure M.aGh where
 Name:ByteArray
 aGg:Int
 aGq:List M.aD
 aG3:List M.aO
def M.aGh.en (x:M.aGh):List D:=[.str x.Name,.int .i64 x.aGg,.sl (List.map M.aD.en x.aGq),.sl (List.map M.aO.en x.aG3)]
structure M.bW where
 aG4:M.aGh
 Log:List Int
 aHM:Int
def M.bW.en (x:M.bW):List D:=[.str x.aG4.Name,.int .i64 x.aG4.aGg,.sl (List.map M.aD.en x.aG4.aGq),.sl (List.map M.aO.en x.aG4.aG3),.sl (List.map enB x.Log),.int .i64 x.aHM]
structure M.bC where
 aGp:Int
 Seq:Int
 Key:M.Key
 Field:ByteArray
 N:Int
def M.bC.en (x:M.bC):List D:=[.int .i64 x.aGp,.int .i64 x.Seq,.int .i64 x.Key.aG7,.int .i64 x.Key.N,.str x.Key.aHG,.str x.Field,.int .i64 x.N]
theorem M.bC.en.fl (l:List M.bC):(List.map M.bC.en l).all (λy=>y.all D.flat)=true:=Gm (λ_=>rfl) l
structure M.aM where
 aGp:Int
 aHH:Int
 aG0:List M.bC
def M.aM.en (x:M.aM):List D:=[.int .i64 x.aGp,.int .i64 x.aHH,.sl (List.map M.bC.en x.aG0)]
structure M.aG5 where
 aM:M.aM
 aHL:Int
 aHB:Int
def M.aG5.en (x:M.aG5):List D:=[.int .i64 x.aM.aGp,.int .i64 x.aM.aHH,.sl (List.map M.bC.en x.aM.aG0),.int .i64 x.aHL,.int .i64 x.aHB]
structure M.aH where
 aG4:M.aD
 aHS:Int
 aG5:M.aG5
def M.aH.en (x:M.aH):List D:=[.str x.aG4.Name,.sl (List.map M.aG1.en x.aG4.aGk),.int .i64 x.aG4.aHD,.int .i64 x.aHS,.int .i64 x.aG5.aM.aGp,.int .i64 x.aG5.aM.aHH,.sl (List.map M.bC.en x.aG5.aM.aG0),.int .i64 x.aG5.aHL,.int .i64 x.aG5.aHB]
structure M.aG where
 aGl:ByteArray
 Top:ByteArray
 aGf:M.aGf
 aGi:M.aC
 bW:M.bW
 aH:M.aH
 aHI:Int
 aHE:Bool
def M.aG.en (x:M.aG):List D:=[.str x.aGl,.str x.Top,.str x.aGf.aGl,.int .i64 x.aGf.aG6,.int .i64 x.aGf.aHC,.int .i64 x.aGf.aHF,.sl (List.map M.aGo.en x.aGi.aGi),.str x.bW.aG4.Name,.int .i64 x.bW.aG4.aGg,.sl (List.map M.aD.en x.bW.aG4.aGq),.sl (List.map M.aO.en x.bW.aG4.aG3),.sl (List.map enB x.bW.Log),.int .i64 x.bW.aHM,.str x.aH.aG4.Name,.sl (List.map M.aG1.en x.aH.aG4.aGk),.int .i64 x.aH.aG4.aHD,.int .i64 x.aH.aHS,.int .i64 x.aH.aG5.aM.aGp,.int .i64 x.aH.aG5.aM.aHH,.sl (List.map M.bC.en x.aH.aG5.aM.aG0),.int .i64 x.aH.aG5.aHL,.int .i64 x.aH.aG5.aHB,.int .i64 x.aHI,.bool x.aHE]
structure M.aA where
 aGj:List M.aG
def M.aA.en (x:M.aA):List D:=[.sl (List.map M.aG.en x.aGj)]
structure M.aW where
 aHQ:ByteArray
 aGg:Int
def M.aW.en (x:M.aW):List D:=[.str x.aHQ,.int .i64 x.aGg]
theorem M.aW.en.fl (l:List M.aW):(List.map M.aW.en l).all (λy=>y.all D.flat)=true:=Gm (λ_=>rfl) l
structure M.Instr where
 aG7:Int
 R:Int
 N:Int
 aHG:ByteArray
def M.Instr.en (x:M.Instr):List D:=[.int .i64 x.aG7,.int .i64 x.R,.int .i64 x.N,.str x.aHG]
theorem M.Instr.en.fl (l:List M.Instr):(List.map M.Instr.en l).all (λy=>y.all D.flat)=true:=Gm (λ_=>rfl) l
structure M.aGu where
 aHP:List M.Instr
 Pc:Int
 aHY:List Int
 aHV:Int
 aHd:Bool
 aHf:Bool
def M.aGu.en (x:M.aGu):List D:=[.sl (List.map M.Instr.en x.aHP),.int .i64 x.Pc,.sl (List.map enI x.aHY),.int .i64 x.aHV,.bool x.aHd,.bool x.aHf]
structure M.bJ where
 Id:Int
 aGl:ByteArray
 Top:ByteArray
 aGg:Int
 aW:List M.aW
 aGu:M.aGu
def M.bJ.en (x:M.bJ):List D:=[.int .i64 x.Id,.str x.aGl,.str x.Top,.int .i64 x.aGg,.sl (List.map M.aW.en x.aW),.sl (List.map M.Instr.en x.aGu.aHP),.int .i64 x.aGu.Pc,.sl (List.map enI x.aGu.aHY),.int .i64 x.aGu.aHV,.bool x.aGu.aHd,.bool x.aGu.aHf]
structure M.nW where
 Name:ByteArray
 bJ:Int
 aHJ:Bool
 aHc:Bool
def M.nW.en (x:M.nW):List D:=[.str x.Name,.int .i64 x.bJ,.bool x.aHJ,.bool x.aHc]
theorem M.nW.en.fl (l:List M.nW):(List.map M.nW.en l).all (λy=>y.all D.flat)=true:=Gm (λ_=>rfl) l
structure M.aR where
 aGy:List M.nW
def M.aR.en (x:M.aR):List D:=[.sl (List.map M.nW.en x.aGy)]
structure M.Bk where
 To:Int
 aHh:Int
 N:Int
def M.Bk.en (x:M.Bk):List D:=[.int .i64 x.To,.int .i64 x.aHh,.int .i64 x.N]
theorem M.Bk.en.fl (l:List M.Bk):(List.map M.Bk.en l).all (λy=>y.all D.flat)=true:=Gm (λ_=>rfl) l
structure M.aGt where
 aHN:List M.Bk
def M.aGt.en (x:M.aGt):List D:=[.sl (List.map M.Bk.en x.aHN)]
structure M.aP where
 aGp:Int
 Seq:Int
def M.aP.en (x:M.aP):List D:=[.int .i64 x.aGp,.int .i64 x.Seq]
theorem M.aP.en.fl (l:List M.aP):(List.map M.aP.en l).all (λy=>y.all D.flat)=true:=Gm (λ_=>rfl) l
structure M.aGr where
 aD:M.aD
 aP:List M.aP
 aG9:List M.bC
def M.aGr.en (x:M.aGr):List D:=[.str x.aD.Name,.sl (List.map M.aG1.en x.aD.aGk),.int .i64 x.aD.aHD,.sl (List.map M.aP.en x.aP),.sl (List.map M.bC.en x.aG9)]
structure M.World where
 Now:Int
 aHA:Bool
 aGp:Int
 aA:M.aA
 aGx:List M.bJ
 aGv:Int
 aGy:M.aR
 aGt:M.aGt
 aG2:List M.aGl
 aGz:List M.aGr
def M.World.en (x:M.World):List D:=[.int .i64 x.Now,.bool x.aHA,.int .i64 x.aGp,.sl (List.map M.aG.en x.aA.aGj),.sl (List.map M.bJ.en x.aGx),.int .i64 x.aGv,.sl (List.map M.nW.en x.aGy.aGy),.sl (List.map M.Bk.en x.aGt.aHN),.sl (List.map M.aGl.en x.aG2),.sl (List.map M.aGr.en x.aGz)]
structure M.Op where
 aG7:Int
 aD:ByteArray
 Key:M.Key
 aE:M.aE
 Field:ByteArray
def M.Op.en (x:M.Op):List D:=[.int .i64 x.aG7,.str x.aD,.int .i64 x.Key.aG7,.int .i64 x.Key.N,.str x.Key.aHG,.sl (List.map M.Field.en x.aE.aGn),.str x.Field]
structure M.gK where
 aHe:Bool
 aHU:Bool
 Low:M.Key
 aHZ:M.Key
def M.gK.en (x:M.gK):List D:=[.bool x.aHe,.bool x.aHU,.int .i64 x.Low.aG7,.int .i64 x.Low.N,.str x.Low.aHG,.int .i64 x.aHZ.aG7,.int .i64 x.aHZ.N,.str x.aHZ.aHG]
theorem M.gK.en.fl (l:List M.gK):(List.map M.gK.en l).all (λy=>y.all D.flat)=true:=Gm (λ_=>rfl) l
structure M.lD where
 aG7:Int
 aD:ByteArray
 Field:ByteArray
def M.lD.en (x:M.lD):List D:=[.int .i64 x.aG7,.str x.aD,.str x.Field]
theorem M.lD.en.fl (l:List M.lD):(List.map M.lD.en l).all (λy=>y.all D.flat)=true:=Gm (λ_=>rfl) l
def Gf (p0:List Int):Option Bool:=
 some (decide ((List.length p0:Int)>1048576))
set_option maxRecDepth 40000 in
def nE (p0:List Int):Nat->Int->Int->Option M.aN
 | 0,_,_=>none
 | aa+1,v3,v4=>if (decide (v4<(List.length p0:Int)))=true then (if (decide (v4<4000))=true then ((idx p0 v4).bind λx7=>(nE p0 aa (i64.wrap (BitVec.ofInt (IntKind.i64.bits) (i64.wrap ((i64.wrap ((i64.wrap (v3*137))+(i64.wrap x7)))+11))&&&BitVec.ofInt (IntKind.i64.bits) 1073741823).toNat) (i64.wrap (v4+1)))) else (some (⟨p0,0,v3⟩:M.aN))) else (some (⟨p0,0,v3⟩:M.aN))
set_option maxRecDepth 40000 in
theorem Rd:type_of% @nE.eq_2:=@nE.eq_2
def Bn (p0:List Int):Option M.aN:=
 nE p0 fuel (i64.wrap (193017+(List.length p0:Int))) 0
def sS (p0:M.aN):Option (Int×Int×Int):=
 if (decide (p0.i<(List.length p0.b:Int)))=true then ((idx p0.b p0.i).bind λx5=>(some ((i64.wrap (p0.i+1)),(i64.wrap ((i64.wrap (p0.h*6364136223846793005))+1442695040888963407)),(i64.wrap (BitVec.ofInt (IntKind.i64.bits) (i64.wrap ((i64.wrap (BitVec.ofInt (IntKind.i64.bits) (i64.wrap (BitVec.ofInt (IntKind.i64.bits) (Int.fdiv (i64.wrap ((i64.wrap (p0.h*6364136223846793005))+1442695040888963407)) (2^(min (33:Int).toNat IntKind.i64.bits))) ^^^ BitVec.ofInt (IntKind.i64.bits) (Int.fdiv (i64.wrap ((i64.wrap (p0.h*6364136223846793005))+1442695040888963407)) (2^(min (47:Int).toNat IntKind.i64.bits)))).toNat)&&&BitVec.ofInt (IntKind.i64.bits) 255).toNat)+(i64.wrap x5)))&&&BitVec.ofInt (IntKind.i64.bits) 255).toNat)))) else (some (p0.i,(i64.wrap ((i64.wrap (p0.h*6364136223846793005))+1442695040888963407)),(i64.wrap (BitVec.ofInt (IntKind.i64.bits) (i64.wrap (BitVec.ofInt (IntKind.i64.bits) (Int.fdiv (i64.wrap ((i64.wrap (p0.h*6364136223846793005))+1442695040888963407)) (2^(min (33:Int).toNat IntKind.i64.bits))) ^^^ BitVec.ofInt (IntKind.i64.bits) (Int.fdiv (i64.wrap ((i64.wrap (p0.h*6364136223846793005))+1442695040888963407)) (2^(min (47:Int).toNat IntKind.i64.bits)))).toNat)&&&BitVec.ofInt (IntKind.i64.bits) 255).toNat)))
def aF (p0:M.aN) (p1:Int):Option (Int×Int×Int):=
 if (decide (p1<=0))=true then (some (p0.i,p0.h,0)) else (if (decide (p1<=256))=true then ((sS p0).bind λx7=>(if (decide (p1=0))=true then none else (some (x7.1,x7.2.1,(Int.tmod x7.2.2 p1))))) else ((sS p0).bind λaa=>((sS (⟨p0.b,aa.1,aa.2.1⟩:M.aN)).bind λae=>((sS (⟨p0.b,ae.1,ae.2.1⟩:M.aN)).bind λaf=>(if (decide (p1=0))=true then none else (some (af.1,af.2.1,(Int.tmod (i64.wrap ((i64.wrap ((i64.wrap (aa.2.2*65536))+(i64.wrap (ae.2.2*256))))+af.2.2)) p1))))))))
def eD (p0:M.aN) (p1:List ByteArray):Option (Int×Int×ByteArray):=
 (aF p0 (List.length p1:Int)).bind λx5=>((idx p1 x5.2.2).bind λx7=>(some (x5.1,x5.2.1,x7)))
def kP (p0:M.aN):Option (Int×Int×ByteArray):=
 (eD p0 ([(⟨#[98,97,110,107]⟩:ByteArray),(⟨#[115,104,111,112]⟩:ByteArray),(⟨#[110,101,119,115]⟩:ByteArray)])).bind λx4=>(some (x4.1,x4.2.1,x4.2.2))
def bG (p0:M.aN) (p1:Int):Option (Int×Int×Bool):=
 (aF p0 p1).bind λx5=>(some (x5.1,x5.2.1,(x5.2.2==0)))
def AR (p0:M.aN) (p1:ByteArray):Option (Int×Int×M.aGl):=
 (aF p0 5).bind λx5=>((bG (⟨p0.b,x5.1,x5.2.1⟩:M.aN) 2).bind λx7=>((bG (⟨p0.b,x7.1,x7.2.1⟩:M.aN) 3).bind λaa=>(if aa.2.2=true then ((aF (⟨p0.b,aa.1,aa.2.1⟩:M.aN) 4).bind λae=>((An ([(⟨#[99,111,100,101]⟩:ByteArray),(⟨#[100,97,116,97]⟩:ByteArray),(⟨#[105,110,100,101,120]⟩:ByteArray),(⟨#[115,116,121,108,101]⟩:ByteArray)]) (i64.wrap (1+ae.2.2))).bind λaf=>(some (ae.1,ae.2.1,(⟨p1,(i64.wrap (1+x5.2.2)),(List.take (i64.wrap (1+ae.2.2)).toNat ([(⟨#[99,111,100,101]⟩:ByteArray),(⟨#[100,97,116,97]⟩:ByteArray),(⟨#[105,110,100,101,120]⟩:ByteArray),(⟨#[115,116,121,108,101]⟩:ByteArray)])),x7.2.2⟩:M.aGl))))) else (some (aa.1,aa.2.1,(⟨p1,(i64.wrap (1+x5.2.2)),[(⟨#[99,111,100,101]⟩:ByteArray),(⟨#[100,97,116,97]⟩:ByteArray),(⟨#[105,110,100,101,120]⟩:ByteArray),(⟨#[115,116,121,108,101]⟩:ByteArray)],x7.2.2⟩:M.aGl))))))
def bK (p0:M.aN) (p1:List Int):Option (Int×Int×Int):=
 (aF p0 (List.length p1:Int)).bind λx5=>((idx p1 x5.2.2).bind λx7=>(some (x5.1,x5.2.1,x7)))
def BR (p0:M.aN):Option (Int×Int×M.aGl):=
 (kP p0).bind λx4=>((AR (⟨p0.b,x4.1,x4.2.1⟩:M.aN) x4.2.2).bind λx6=>((aF (⟨p0.b,x6.1,x6.2.1⟩:M.aN) 12).bind λaa=>(if (aa.2.2==0)=true then ((bK (⟨p0.b,aa.1,aa.2.1⟩:M.aN) ([(-1),0,1000000000000,1000000000001])).bind λaf=>(some (af.1,af.2.1,(⟨x6.2.2.Name,af.2.2,x6.2.2.aG8,x6.2.2.aHJ⟩:M.aGl)))) else (if (aa.2.2==1)=true then ((eD (⟨p0.b,aa.1,aa.2.1⟩:M.aN) ([(⟨#[97]⟩:ByteArray),(⟨#[122,111,111]⟩:ByteArray),(⟨#[81]⟩:ByteArray)])).bind λae=>((app 16 x6.2.2.aG8 ([ae.2.2])).bind λah=>(some (ae.1,ae.2.1,(⟨x6.2.2.Name,x6.2.2.aGg,(x6.2.2.aG8++[ae.2.2]),x6.2.2.aHJ⟩:M.aGl))))) else (if (aa.2.2==2)=true then (some (aa.1,aa.2.1,(⟨(⟨#[]⟩:ByteArray),x6.2.2.aGg,x6.2.2.aG8,x6.2.2.aHJ⟩:M.aGl))) else (some (aa.1,aa.2.1,x6.2.2)))))))
def pH (p0:M.aGm):Option M.aGm:=
 (app 1 ([]:List Int) p0.aHT).bind λx1=>(some p0)
def mP (p0:M.aGo):Nat->Int->List M.aGw->Option M.aGo
 | 0,_,_=>none
 | ah+1,v4,aa=>if (decide (v4<(List.length p0.aGs:Int)))=true then ((idx p0.aGs v4).bind λae=>((pH ae.aGm).bind λaf=>((app 88 aa ([(⟨ae.aGl,ae.aHQ,af⟩:M.aGw)])).bind λai=>(mP p0 ah (i64.wrap (v4+1)) (aa++[(⟨ae.aGl,ae.aHQ,af⟩:M.aGw)]))))) else (some (⟨p0.aGg,aa⟩:M.aGo))
def Af (p0:M.aGo):Option M.aGo:=
 mP p0 fuel 0 ([]:List M.aGw)
def pF (p0:M.aC):Nat->Int->List M.aGo->Option M.aC
 | 0,_,_=>none
 | af+1,v4,aa=>if (decide (v4<(List.length p0.aGi:Int)))=true then ((idx p0.aGi v4).bind λah=>((Af ah).bind λae=>((app 32 aa ([ae])).bind λai=>(pF p0 af (i64.wrap (v4+1)) (aa++[ae]))))) else (some (⟨aa⟩:M.aC))
def bO (p0:M.aC):Option M.aC:=
 pF p0 fuel 0 ([]:List M.aGo)
def bA (p0:Int) (p1:Int) (p2:Int):Option Bool:=
 if (decide (p0>=p1))=true then (some (decide (p0<=p2))) else (some false)
def nS (p0:ByteArray):Nat->Int->Option Bool
 | 0,_=>none
 | aa+1,v3=>if (decide (v3<(p0.size:Int)))=true then ((W3 p0 v3).bind λx5=>(if (decide ((x5.toNat:Int)<97))=true then (some false) else (if (decide ((x5.toNat:Int)>122))=true then (some false) else (nS p0 aa (i64.wrap (v3+1)))))) else ((bA (p0.size:Int) 1 8).bind λae=>(some ae))
def cA (p0:ByteArray):Option Bool:=
 nS p0 fuel 0
def xP (p0:M.aGm):Option Bool:=
 (bA p0.aHX 1 4).bind λx1=>(if x1=true then ((bA p0.aHO 0 999).bind λx4=>(if x4=true then ((bA p0.aGg 0 1000000000000).bind λx7=>(if x7=true then (some (decide ((List.length p0.aHT:Int)<=60))) else (some false))) else (some false))) else (some false))
def gS (p0:List M.aGw) (v3:Int) (x5:M.aGw) (ae:Int->Option Bool):Nat->Int->Option Bool
 | 0,_=>none
 | af+1,aa=>if (decide (aa<v3))=true then ((idx p0 aa).bind λah=>(if (ah.aGl.toList==x5.aGl.toList)=true then (if (ah.aHQ.toList==x5.aHQ.toList)=true then (some false) else (gS p0 v3 x5 ae af (i64.wrap (aa+1)))) else (gS p0 v3 x5 ae af (i64.wrap (aa+1))))) else (ae aa)
def eS (p0:List M.aGw):Nat->Int->Option Bool
 | 0,_=>none
 | ae+1,v3=>if (decide (v3<(List.length p0:Int)))=true then ((idx p0 v3).bind λx5=>((cA x5.aGl).bind λaf=>(if (!af)=true then (some false) else ((cA x5.aHQ).bind λah=>(if (!ah)=true then (some false) else ((xP x5.aGm).bind λai=>(if (!ai)=true then (some false) else (gS p0 v3 x5 (λ(aa:Int)=>eS p0 ae (i64.wrap (v3+1))) fuel 0)))))))) else (some (decide ((List.length p0:Int)<=12)))
def tC (p0:List M.aGw):Option Bool:=
 eS p0 fuel 0
def eQ (p0:M.aC):Nat->Int->Option Bool
 | 0,_=>none
 | aa+1,v3=>if (decide (v3<(List.length p0.aGi:Int)))=true then ((idx p0.aGi v3).bind λx6=>((bA x6.aGg 1 1000000000000).bind λae=>(if (!ae)=true then (some false) else (if (decide (v3>0))=true then ((idx p0.aGi (i64.wrap (v3-1))).bind λaf=>(if (decide (af.aGg>=x6.aGg))=true then (some false) else ((tC x6.aGs).bind λah=>(if (!ah)=true then (some false) else (eQ p0 aa (i64.wrap (v3+1))))))) else ((tC x6.aGs).bind λai=>(if (!ai)=true then (some false) else (eQ p0 aa (i64.wrap (v3+1))))))))) else (some (decide ((List.length p0.aGi:Int)<=4)))
def cM (p0:M.aC):Option Bool:=
 eQ p0 fuel 0
def lR (p0:M.aC) (p1:Int) (x1:M.aC):Nat->Int->Option (M.aC×Bool)
 | 0,_=>none
 | ai+1,v7=>if (decide (v7<(List.length p0.aGi:Int)))=true then ((idx p0.aGi v7).bind λaj=>(if (decide (aj.aGg<p1))=true then (lR p0 p1 x1 ai (i64.wrap (v7+1))) else ((An x1.aGi v7).bind λar=>((app 32 ([]:List M.aGo) (List.take v7.toNat x1.aGi)).bind λav=>((app 32 (List.take v7.toNat x1.aGi) ([(⟨p1,([]:List M.aGw)⟩:M.aGo)])).bind λaw=>((app 32 ((List.take v7.toNat x1.aGi)++[(⟨p1,([]:List M.aGw)⟩:M.aGo)]) (List.drop v7.toNat x1.aGi)).bind λax=>((cM p0).bind λak=>(if (!ak)=true then ((bO p0).bind λal=>(some (al,false))) else ((cM (⟨(((List.take v7.toNat x1.aGi)++[(⟨p1,([]:List M.aGw)⟩:M.aGo)])++(List.drop v7.toNat x1.aGi))⟩:M.aC)).bind λao=>(if (!ao)=true then ((bO p0).bind λaq=>(some (aq,false))) else (some ((⟨(((List.take v7.toNat x1.aGi)++[(⟨p1,([]:List M.aGw)⟩:M.aGo)])++(List.drop v7.toNat x1.aGi))⟩:M.aC),true)))))))))))) else ((An x1.aGi v7).bind λay=>((app 32 ([]:List M.aGo) (List.take v7.toNat x1.aGi)).bind λaz=>((app 32 (List.take v7.toNat x1.aGi) ([(⟨p1,([]:List M.aGw)⟩:M.aGo)])).bind λba=>((app 32 ((List.take v7.toNat x1.aGi)++[(⟨p1,([]:List M.aGw)⟩:M.aGo)]) (List.drop v7.toNat x1.aGi)).bind λbd=>((cM p0).bind λaa=>(if (!aa)=true then ((bO p0).bind λae=>(some (ae,false))) else ((cM (⟨(((List.take v7.toNat x1.aGi)++[(⟨p1,([]:List M.aGw)⟩:M.aGo)])++(List.drop v7.toNat x1.aGi))⟩:M.aC)).bind λaf=>(if (!af)=true then ((bO p0).bind λah=>(some (ah,false))) else (some ((⟨(((List.take v7.toNat x1.aGi)++[(⟨p1,([]:List M.aGw)⟩:M.aGo)])++(List.drop v7.toNat x1.aGi))⟩:M.aC),true))))))))))
def kY (p0:M.aC) (p1:Int):Option (M.aC×Bool):=
 (bO p0).bind λx1=>(lR p0 p1 x1 fuel 0)
def kX (p0:M.aGl):Nat->Int->Option Bool
 | 0,_=>none
 | aa+1,v3=>if (decide (v3<(List.length p0.aG8:Int)))=true then ((idx p0.aG8 v3).bind λx6=>((cA x6).bind λae=>(if (!ae)=true then (some false) else (if (decide (v3>0))=true then ((idx p0.aG8 (i64.wrap (v3-1))).bind λaf=>(if (!(Op.bytesLess af.toList x6.toList))=true then (some false) else (kX p0 aa (i64.wrap (v3+1))))) else (kX p0 aa (i64.wrap (v3+1))))))) else ((cA p0.Name).bind λah=>(if ah=true then ((bA p0.aGg 1 1000000000000).bind λai=>(if ai=true then ((bA (List.length p0.aG8:Int) 1 6).bind λaj=>(some aj)) else (some false))) else (some false)))
def sQ (p0:M.aGl):Option Bool:=
 kX p0 fuel 0
def zM (p0:Int) (p1:Int):Option Int:=
 if (decide (p1>p0))=true then (some p1) else (some p0)
def nL (p0:M.aGl) (p1:Int):Option Bool:=
 (sQ p0).bind λx1=>(if x1=true then ((zM 1 (i64.wrap ((i64.wrap (p0.aGg-2))+1))).bind λx4=>((bA p1 x4 p0.aGg).bind λx6=>(some x6))) else (some false))
def cC  : Option M.aGm:=
 some (⟨4,0,0,([]:List Int),false⟩:M.aGm)
def oK (p0:M.aGl) (p1:ByteArray):Nat->Int->Option Bool
 | 0,_=>none
 | aa+1,v5=>if (decide (v5<(List.length p0.aG8:Int)))=true then ((idx p0.aG8 v5).bind λx7=>(if (x7.toList==p1.toList)=true then (some true) else (oK p0 p1 aa (i64.wrap (v5+1))))) else (some false)
def AS (p0:M.aGl) (p1:ByteArray):Option Bool:=
 oK p0 p1 fuel 0
def iH (p0:List Int):Nat->Int->List Int->Option (List Int)
 | 0,_,_=>none
 | ae+1,v4,r7=>if (decide (v4<(List.length p0:Int)))=true then ((idx p0 v4).bind λaa=>((app 8 r7 ([(i64.wrap aa)])).bind λaf=>(iH p0 ae (i64.wrap (v4+1)) (r7++[(i64.wrap aa)])))) else (some r7)
def rL (p0:List Int):Option (List Int):=
 iH p0 fuel 0 ([(List.length p0:Int)])
def DY (p0:Int) (p1:Int):Option Int:=
 (bA p1 1 1000000000000).bind λx1=>(if (!x1)=true then (some 0) else (if (decide (p1=0))=true then none else (some (Int.tmod (i64.wrap ((Int.tmod p0 p1)+p1)) p1))))
def wM (p0:List Int):Nat->Int->Int->Option Int
 | 0,_,_=>none
 | aa+1,v3,v4=>if (decide (v4<(List.length p0:Int)))=true then ((idx p0 v4).bind λx6=>((DY x6 2147483647).bind λae=>(wM p0 aa (Int.tmod (i64.wrap ((i64.wrap ((i64.wrap (v3*1000003))+ae))+13)) 2147483647) (i64.wrap (v4+1))))) else (some v3)
def B6 (p0:List Int):Option Int:=
 wM p0 fuel 11 0
def uZ (p0:Int) (p1:List Int):Option Int:=
 (app 8 ([p0]) p1).bind λx1=>((app 8 ([p0]++p1) ([p0])).bind λx3=>((B6 (([p0]++p1)++[p0])).bind λx5=>(some x5)))
def iX (p0:Int) (p1:ByteArray):Option Int:=
 (rL (bR p1)).bind λx1=>((uZ p0 x1).bind λx3=>((zM 1 x3).bind λx5=>(some x5)))
def uV (x5:Int):Nat->Int->List Int->Option (List Int)
 | 0,_,_=>none
 | ae+1,v9,aa=>if (decide (v9>=0))=true then (if (decide (0<=(i64.wrap (8*v9))))=true then ((app 1 aa ([(IntKind.u8.wrap (i64.wrap (BitVec.ofInt (IntKind.i64.bits) (Int.fdiv x5 (2^(min (i64.wrap (8*v9)).toNat IntKind.i64.bits)))&&&BitVec.ofInt (IntKind.i64.bits) 255).toNat))])).bind λaf=>(uV x5 ae (i64.wrap (v9-1)) (aa++[(IntKind.u8.wrap (i64.wrap (BitVec.ofInt (IntKind.i64.bits) (Int.fdiv x5 (2^(min (i64.wrap (8*v9)).toNat IntKind.i64.bits)))&&&BitVec.ofInt (IntKind.i64.bits) 255).toNat))]))) else none) else (some aa)
def mZ (p0:M.aGl) (p1:ByteArray) (p2:Int):Option (List Int):=
 (iX 107 p0.Name).bind λx1=>((iX 109 p1).bind λx3=>((uZ (i64.wrap (1+p2)) ([103,x1,x3])).bind λx5=>(uV x5 fuel 5 ([]:List Int))))
def iT (p0:M.aGl) (p1:ByteArray) (p2:Int):Option M.aGm:=
 (sQ p0).bind λx1=>(if (!x1)=true then ((cC).bind λx4=>(some x4)) else ((nL p0 p2).bind λx6=>(if (!x6)=true then (some (⟨1,404,p0.aGg,([]:List Int),false⟩:M.aGm)) else ((AS p0 p1).bind λx9=>(if (!x9)=true then (some (⟨1,404,p0.aGg,([]:List Int),false⟩:M.aGm)) else ((mZ p0 p1 p2).bind λaa=>(some (⟨1,200,p2,aa,p0.aHJ⟩:M.aGm))))))))
def lF (p0:M.aC) (p1:Int):Nat->Int->Option Int
 | 0,_=>none
 | aa+1,v5=>if (decide (v5<(List.length p0.aGi:Int)))=true then ((idx p0.aGi v5).bind λx7=>(if (x7.aGg==p1)=true then (some v5) else (lF p0 p1 aa (i64.wrap (v5+1))))) else (some (-1))
def nU (p0:M.aC) (p1:Int):Option Int:=
 lF p0 p1 fuel 0
def mG (p0:M.aGo) (p1:ByteArray) (p2:ByteArray):Nat->Int->Option Int
 | 0,_=>none
 | aa+1,v7=>if (decide (v7<(List.length p0.aGs:Int)))=true then ((idx p0.aGs v7).bind λx8=>(if (x8.aGl.toList==p1.toList)=true then (if (x8.aHQ.toList==p2.toList)=true then (some v7) else (mG p0 p1 p2 aa (i64.wrap (v7+1)))) else (mG p0 p1 p2 aa (i64.wrap (v7+1))))) else (some (-1))
def zA (p0:M.aGo) (p1:ByteArray) (p2:ByteArray):Option Int:=
 mG p0 p1 p2 fuel 0
def jP (p0:M.aC) (p1:Int) (p2:ByteArray) (p3:ByteArray) (p4:M.aGm):Option (M.aC×Bool):=
 (bO p0).bind λx1=>((nU p0 p1).bind λx3=>(if (decide (x3<0))=true then (some (x1,false)) else ((pH p4).bind λx6=>((idx x1.aGi x3).bind λx8=>((zA x8 p2 p3).bind λaa=>(if (decide (aa>=0))=true then ((idx x8.aGs aa).bind λaq=>((cM p0).bind λae=>(if (!ae)=true then ((bO p0).bind λaf=>(some (af,false))) else ((cM (⟨(List.set x1.aGi x3.toNat (⟨x8.aGg,(List.set x8.aGs aa.toNat (⟨p2,p3,x6⟩:M.aGw))⟩:M.aGo))⟩:M.aC)).bind λah=>(if (!ah)=true then ((bO p0).bind λai=>(some (ai,false))) else (some ((⟨(List.set x1.aGi x3.toNat (⟨x8.aGg,(List.set x8.aGs aa.toNat (⟨p2,p3,x6⟩:M.aGw))⟩:M.aGo))⟩:M.aC),true))))))) else ((app 88 x8.aGs ([(⟨p2,p3,x6⟩:M.aGw)])).bind λar=>((cM p0).bind λaj=>(if (!aj)=true then ((bO p0).bind λak=>(some (ak,false))) else ((cM (⟨(List.set x1.aGi x3.toNat (⟨x8.aGg,(x8.aGs++[(⟨p2,p3,x6⟩:M.aGw)])⟩:M.aGo))⟩:M.aC)).bind λal=>(if (!al)=true then ((bO p0).bind λao=>(some (ao,false))) else (some ((⟨(List.set x1.aGi x3.toNat (⟨x8.aGg,(x8.aGs++[(⟨p2,p3,x6⟩:M.aGw)])⟩:M.aGo))⟩:M.aC),true)))))))))))))
def jX (p0:M.aC) (p1:M.aGl) (p2:Int):Nat->Int->List M.aGo->Option (M.aC×Bool)
 | 0,_,_=>none
 | ai+1,ae,aa=>if (decide (ae<(List.length p1.aG8:Int)))=true then ((idx p1.aG8 ae).bind λaf=>((iT p1 af p2).bind λaj=>((jP (⟨aa⟩:M.aC) p2 p1.Name af aj).bind λah=>(if (!ah.2)=true then ((bO p0).bind λak=>(some (ak,false))) else (jX p0 p1 p2 ai (i64.wrap (ae+1)) ah.1.aGi))))) else (some ((⟨aa⟩:M.aC),true))
def oV (p0:M.aC) (p1:M.aGl) (p2:Int) (p3:Bool):Option (M.aC×Bool):=
 (kY p0 p2).bind λx1=>(if (!x1.2)=true then ((bO p0).bind λx4=>(some (x4,false))) else (if (!p3)=true then ((bO p0).bind λx7=>(some (x7,false))) else ((nL p1 p2).bind λx9=>(if (!x9)=true then ((bO p0).bind λaa=>(some (aa,false))) else (jX p0 p1 p2 fuel 0 x1.1.aGi)))))
def kN (p0:M.aN):Option (Int×Int×ByteArray):=
 (eD p0 ([(⟨#[105,110,100,101,120]⟩:ByteArray),(⟨#[115,116,121,108,101]⟩:ByteArray),(⟨#[99,111,100,101]⟩:ByteArray),(⟨#[100,97,116,97]⟩:ByteArray)])).bind λx4=>(some (x4.1,x4.2.1,x4.2.2))
def pC (p0:M.aN) (p1:Int):Nat->Int->List Int->Int->Int->Option (Int×Int×(List Int))
 | 0,_,_,_,_=>none
 | ah+1,v6,r7,aa,ae=>if (decide (v6<p1))=true then ((sS (⟨p0.b,aa,ae⟩:M.aN)).bind λaf=>((app 1 r7 ([(IntKind.u8.wrap af.2.2)])).bind λai=>(pC p0 p1 ah (i64.wrap (v6+1)) (r7++[(IntKind.u8.wrap af.2.2)]) af.1 af.2.1))) else (some (aa,ae,r7))
def zK (p0:M.aN) (p1:Int):Option (Int×Int×(List Int)):=
 pC p0 p1 fuel 0 ([]:List Int) p0.i p0.h
def rE (p0:M.aN):Option (Int×Int×M.aGm):=
 (aF p0 3).bind λx4=>((aF (⟨p0.b,x4.1,x4.2.1⟩:M.aN) 4).bind λx6=>((aF (⟨p0.b,x6.1,x6.2.1⟩:M.aN) 6).bind λx8=>((zK (⟨p0.b,x8.1,x8.2.1⟩:M.aN) x8.2.2).bind λaf=>((bG (⟨p0.b,af.1,af.2.1⟩:M.aN) 2).bind λae=>((aF (⟨p0.b,ae.1,ae.2.1⟩:M.aN) 14).bind λaa=>(if (aa.2.2==0)=true then ((bK (⟨p0.b,aa.1,aa.2.1⟩:M.aN) ([0,4,5])).bind λah=>(some (ah.1,ah.2.1,(⟨ah.2.2,200,(i64.wrap (1+x6.2.2)),af.2.2,ae.2.2⟩:M.aGm)))) else (if (aa.2.2==1)=true then ((bK (⟨p0.b,aa.1,aa.2.1⟩:M.aN) ([(-1),0,404,999,1000])).bind λai=>(some (ai.1,ai.2.1,(⟨(i64.wrap (1+x4.2.2)),ai.2.2,(i64.wrap (1+x6.2.2)),af.2.2,ae.2.2⟩:M.aGm)))) else (if (aa.2.2==2)=true then ((bK (⟨p0.b,aa.1,aa.2.1⟩:M.aN) ([60,61])).bind λaj=>((zK (⟨p0.b,aj.1,aj.2.1⟩:M.aN) aj.2.2).bind λak=>(some (ak.1,ak.2.1,(⟨(i64.wrap (1+x4.2.2)),200,(i64.wrap (1+x6.2.2)),ak.2.2,ae.2.2⟩:M.aGm))))) else (some (aa.1,aa.2.1,(⟨(i64.wrap (1+x4.2.2)),200,(i64.wrap (1+x6.2.2)),af.2.2,ae.2.2⟩:M.aGm)))))))))))
def nR (p0:M.aN):Nat->Int->Int->Int->List M.aGo->Option (Int×Int×M.aC)
 | 0,_,_,_,_=>none
 | ao+1,ah,aa,ae,af=>if (decide (ah>0))=true then ((aF (⟨p0.b,aa,ae⟩:M.aN) 4).bind λai=>((kP (⟨p0.b,ai.1,ai.2.1⟩:M.aN)).bind λaj=>((kN (⟨p0.b,aj.1,aj.2.1⟩:M.aN)).bind λak=>((rE (⟨p0.b,ak.1,ak.2.1⟩:M.aN)).bind λal=>((jP (⟨af⟩:M.aC) (i64.wrap (1+ai.2.2)) aj.2.2 ak.2.2 al.2.2).bind λaq=>(nR p0 ao (i64.wrap (ah-1)) al.1 al.2.1 aq.1.aGi)))))) else (some (aa,ae,(⟨af⟩:M.aC)))
def rP (p0:M.aN):Nat->Int->Int->Int->List M.aGo->Option (Int×Int×M.aC)
 | 0,_,_,_,_=>none
 | aj+1,v4,aa,ae,af=>if (decide (v4>0))=true then ((aF (⟨p0.b,aa,ae⟩:M.aN) 4).bind λah=>((kY (⟨af⟩:M.aC) (i64.wrap (1+ah.2.2))).bind λak=>(rP p0 aj (i64.wrap (v4-1)) ah.1 ah.2.1 ak.1.aGi))) else ((aF (⟨p0.b,aa,ae⟩:M.aN) 5).bind λai=>(nR p0 fuel ai.2.2 ai.1 ai.2.1 af))
def BA (p0:M.aN):Option (Int×Int×M.aC):=
 (aF p0 3).bind λx4=>(rP p0 fuel x4.2.2 x4.1 x4.2.1 ([]:List M.aGo))
def rR (ae:(Int×Int×Int)):Nat->Int->List M.aGo->Option (Int×Int×M.aC)
 | 0,_,_=>none
 | af+1,v4,aa=>if (decide (v4<=4))=true then ((kY (⟨aa⟩:M.aC) v4).bind λah=>(rR ae af (i64.wrap (v4+1)) ah.1.aGi)) else (some (ae.1,ae.2.1,(⟨aa⟩:M.aC)))
def yB (p0:M.aN):Option (Int×Int×M.aC):=
 (BA p0).bind λx4=>((aF (⟨p0.b,x4.1,x4.2.1⟩:M.aN) 12).bind λaa=>(if (aa.2.2==0)=true then ((bK (⟨p0.b,aa.1,aa.2.1⟩:M.aN) ([0,1,9,1000000000001])).bind λae=>((app 32 x4.2.2.aGi ([(⟨ae.2.2,([]:List M.aGw)⟩:M.aGo)])).bind λaj=>(some (ae.1,ae.2.1,(⟨(x4.2.2.aGi++[(⟨ae.2.2,([]:List M.aGw)⟩:M.aGo)])⟩:M.aC))))) else (if (aa.2.2==1)=true then (if (decide ((List.length x4.2.2.aGi:Int)>0))=true then ((idx x4.2.2.aGi 0).bind λai=>((eD (⟨p0.b,aa.1,aa.2.1⟩:M.aN) ([(⟨#[105,110,100,101,120]⟩:ByteArray),(⟨#[]⟩:ByteArray),(⟨#[122,122]⟩:ByteArray)])).bind λaf=>((rE (⟨p0.b,af.1,af.2.1⟩:M.aN)).bind λah=>((app 88 ai.aGs ([(⟨(⟨#[98,97,110,107]⟩:ByteArray),af.2.2,ah.2.2⟩:M.aGw)])).bind λak=>(some (ah.1,ah.2.1,(⟨(List.set x4.2.2.aGi (0:Int).toNat (⟨ai.aGg,(ai.aGs++[(⟨(⟨#[98,97,110,107]⟩:ByteArray),af.2.2,ah.2.2⟩:M.aGw)])⟩:M.aGo))⟩:M.aC))))))) else (some (aa.1,aa.2.1,x4.2.2))) else (if (aa.2.2==2)=true then (rR aa fuel 1 x4.2.2.aGi) else (some (aa.1,aa.2.1,x4.2.2))))))
def uL (p0:List Int):Option (M.aC×M.aGl×Int×ByteArray×Bool):=
 (Bn p0).bind λx1=>((BR x1).bind λaa=>((aF (⟨x1.b,aa.1,aa.2.1⟩:M.aN) 3).bind λae=>((oV (⟨([]:List M.aGo)⟩:M.aC) aa.2.2 (i64.wrap ((i64.wrap (aa.2.2.aGg+ae.2.2))-1)) true).bind λar=>(if (!ar.2)=true then ((yB (⟨x1.b,ae.1,ae.2.1⟩:M.aN)).bind λaj=>((kN (⟨x1.b,aj.1,aj.2.1⟩:M.aN)).bind λak=>((bG (⟨x1.b,ak.1,ak.2.1⟩:M.aN) 2).bind λav=>(some (aj.2.2,aa.2.2,(i64.wrap ((i64.wrap (aa.2.2.aGg+ae.2.2))-1)),ak.2.2,av.2.2))))) else ((bG (⟨x1.b,ae.1,ae.2.1⟩:M.aN) 2).bind λai=>(if ai.2.2=true then ((yB (⟨x1.b,ai.1,ai.2.1⟩:M.aN)).bind λal=>((kN (⟨x1.b,al.1,al.2.1⟩:M.aN)).bind λaf=>((bG (⟨x1.b,af.1,af.2.1⟩:M.aN) 2).bind λao=>(some (al.2.2,aa.2.2,(i64.wrap ((i64.wrap (aa.2.2.aGg+ae.2.2))-1)),af.2.2,ao.2.2))))) else ((kN (⟨x1.b,ai.1,ai.2.1⟩:M.aN)).bind λah=>((bG (⟨x1.b,ah.1,ah.2.1⟩:M.aN) 2).bind λaq=>(some (ar.1,aa.2.2,(i64.wrap ((i64.wrap (aa.2.2.aGg+ae.2.2))-1)),ah.2.2,aq.2.2))))))))))
def lX (p0:List Int):Option (M.aC×M.aGl×Int):=
 (uL p0).bind λx1=>(some (x1.1,x1.2.1,x1.2.2.1))
def vW (p0:M.aGo) (c0:Int):Option Bool:=
 some (p0.aGg==c0)
def dL (p0:List M.aGo) (p1:M.aGo->Option Bool):Nat->Int->Option Int
 | 0,_=>none
 | aa+1,v8=>if (decide (v8<(List.length p0:Int)))=true then ((idx p0 v8).bind λx7=>((p1 x7).bind λae=>(if ae=true then (some v8) else (dL p0 p1 aa (i64.wrap (v8+1)))))) else (some (-1))
def lV (p0:List M.aGo) (p1:M.aGo->Option Bool):Option Int:=
 dL p0 p1 fuel 0
def vH (p0:M.aC) (p1:Int):Option Int:=
 (lV p0.aGi (λz0=>vW z0 p1)).bind λx1=>(some x1)
def jN  : Option M.aGm:=
 some (⟨4,0,0,([]:List Int),false⟩:M.aGm)
def uT (p0:M.aGw) (c0:ByteArray) (c1:ByteArray):Option Bool:=
 if (p0.aGl.toList==c0.toList)=true then (some (p0.aHQ.toList==c1.toList)) else (some false)
def dE (p0:List M.aGw) (p1:M.aGw->Option Bool):Nat->Int->Option Int
 | 0,_=>none
 | aa+1,v8=>if (decide (v8<(List.length p0:Int)))=true then ((idx p0 v8).bind λx7=>((p1 x7).bind λae=>(if ae=true then (some v8) else (dE p0 p1 aa (i64.wrap (v8+1)))))) else (some (-1))
def kQ (p0:List M.aGw) (p1:M.aGw->Option Bool):Option Int:=
 dE p0 p1 fuel 0
def pG (p0:M.aGo) (p1:ByteArray) (p2:ByteArray):Option Int:=
 (kQ p0.aGs (λz0=>uT z0 p1 p2)).bind λx1=>(some x1)
def kW (p0:List Int):Option (List Int):=
 (app 1 ([]:List Int) p0).bind λx1=>(some p0)
def lL (p0:M.aGm):Option M.aGm:=
 (kW p0.aHT).bind λx1=>(some (⟨p0.aHX,p0.aHO,p0.aGg,x1,p0.aHb⟩:M.aGm))
def xW (p0:M.aC) (p1:Int) (p2:ByteArray) (p3:ByteArray):Option (M.aGm×Bool):=
 (vH p0 p1).bind λx1=>(if (decide (x1<0))=true then ((jN).bind λx4=>(some (x4,false))) else ((idx p0.aGi x1).bind λx6=>((pG x6 p2 p3).bind λaa=>(if (decide (aa<0))=true then ((jN).bind λae=>(some (ae,false))) else ((idx x6.aGs aa).bind λaf=>((lL af.aGm).bind λah=>(some (ah,true))))))))
def iM (p0:List Int):Nat->Int->List Int->Option (List Int)
 | 0,_,_=>none
 | ae+1,v11,r8=>if (decide (v11<(List.length p0:Int)))=true then ((idx p0 v11).bind λaa=>((app 8 r8 ([(i64.wrap aa)])).bind λaf=>(iM p0 ae (i64.wrap (v11+1)) (r8++[(i64.wrap aa)])))) else (some r8)
def wF (p0:List Int):Option (List Int):=
 iM p0 fuel 0 ([(List.length p0:Int)])
def bB (p0:Int) (p1:Int) (p2:Int):Option Bool:=
 if (decide (p1<=p0))=true then (some (decide (p0<=p2))) else (some false)
def Ej (p0:Int) (p1:Int):Option Int:=
 (bB p1 1 1000000000000).bind λx1=>(if (!x1)=true then (some 0) else (if (decide (p1=0))=true then none else (if (decide ((Int.tmod p0 p1)<0))=true then (some (i64.wrap ((Int.tmod p0 p1)+p1))) else (some (Int.tmod p0 p1)))))
def wQ (p0:List Int):Nat->Int->Int->Option Int
 | 0,_,_=>none
 | aa+1,v3,v8=>if (decide (v8<(List.length p0:Int)))=true then ((idx p0 v8).bind λx7=>((Ej x7 2147483647).bind λae=>(wQ p0 aa (Int.tmod (i64.wrap ((i64.wrap ((i64.wrap (v3*1000003))+ae))+13)) 2147483647) (i64.wrap (v8+1))))) else (some v3)
def Dl (p0:List Int):Option Int:=
 wQ p0 fuel 11 0
def vC (p0:Int) (p1:List Int):Option Int:=
 (app 8 ([p0]) p1).bind λx1=>((app 8 ([p0]++p1) ([p0])).bind λx3=>((Dl (([p0]++p1)++[p0])).bind λx5=>(some x5)))
def jH (p0:Int) (p1:ByteArray):Option Int:=
 (wF (bR p1)).bind λx1=>((vC p0 x1).bind λx3=>(if (x3==0)=true then (some 1) else (some x3)))
def bV (x5:Int):Nat->Int->List Int->Option (List Int)
 | 0,_,_=>none
 | ae+1,v9,aa=>if (decide (v9>=0))=true then (if (decide (0<=(i64.wrap (8*v9))))=true then ((app 1 aa ([(IntKind.u8.wrap (Int.fdiv x5 (2^(min (i64.wrap (8*v9)).toNat IntKind.i64.bits))))])).bind λaf=>(bV x5 ae (i64.wrap (v9-1)) (aa++[(IntKind.u8.wrap (Int.fdiv x5 (2^(min (i64.wrap (8*v9)).toNat IntKind.i64.bits))))]))) else none) else (some aa)
def wB (p0:M.aGl) (p1:ByteArray) (p2:Int):Option (List Int):=
 (jH 107 p0.Name).bind λx1=>((jH 109 p1).bind λx3=>((vC (i64.wrap (1+p2)) ([103,x1,x3])).bind λx5=>(bV x5 fuel 5 ([]:List Int))))
def jY (p0:List Int) (p1:List Int):Nat->Int->Option Bool
 | 0,_=>none
 | ae+1,aa=>if (decide (aa<(List.length p0:Int)))=true then ((idx p0 aa).bind λx8=>((idx p1 aa).bind λaf=>(if (x8 != af)=true then (some false) else (jY p0 p1 ae (i64.wrap (aa+1)))))) else (some true)
def uH (p0:List Int) (p1:List Int):Option Bool:=
 if ((List.length p0:Int) != (List.length p1:Int))=true then (some false) else (jY p0 p1 fuel 0)
def oE (p0:List Int) (p1:List Int):Option Bool:=
 (uH p0 p1).bind λx1=>(some x1)
def dY (p0:M.aC) (p1:M.aGl) (p2:Int):Nat->Int->Option Bool
 | 0,_=>none
 | ah+1,ae=>if (decide (ae<(List.length p1.aG8:Int)))=true then ((idx p1.aG8 ae).bind λaf=>((xW p0 p2 p1.Name af).bind λaa=>(if (!aa.2)=true then (some false) else (if (aa.1.aHO != 200)=true then (some false) else (if (aa.1.aGg != p2)=true then (some false) else ((wB p1 af p2).bind λai=>((oE aa.1.aHT ai).bind λaj=>(if (!aj)=true then (some false) else (dY p0 p1 p2 ah (i64.wrap (ae+1))))))))))) else ((vH p0 p2).bind λak=>(some (decide (ak>=0))))
def sK (p0:M.aC) (p1:M.aGl) (p2:Int):Option Bool:=
 dY p0 p1 p2 fuel 0
def gO (p0:M.aC) (p1:Int) (p2:ByteArray) (p3:ByteArray):Option (M.aGm×Bool):=
 (nU p0 p1).bind λx1=>(if (decide (x1<0))=true then ((cC).bind λx4=>(some (x4,false))) else ((idx p0.aGi x1).bind λx6=>((zA x6 p2 p3).bind λaa=>(if (decide (aa<0))=true then ((cC).bind λae=>(some (ae,false))) else ((idx x6.aGs aa).bind λaf=>((pH af.aGm).bind λah=>(some (ah,true))))))))
def tE (p0:List Int) (p1:List Int):Option Bool:=
 (toStr p0).bind λx1=>((toStr p1).bind λx3=>(some ((dH p0).toList==(dH p1).toList)))
def dZ (p0:M.aC) (p1:M.aGl) (p2:Int):Nat->Int->Option Bool
 | 0,_=>none
 | ae+1,v7=>if (decide (v7<(List.length p1.aG8:Int)))=true then ((idx p1.aG8 v7).bind λx9=>((gO p0 p2 p1.Name x9).bind λaa=>(if (!aa.2)=true then (some false) else (if (aa.1.aHO != 200)=true then (some false) else (if (aa.1.aGg != p2)=true then (some false) else ((mZ p1 x9 p2).bind λaf=>((tE aa.1.aHT af).bind λah=>(if (!ah)=true then (some false) else (dZ p0 p1 p2 ae (i64.wrap (v7+1))))))))))) else ((nU p0 p2).bind λai=>(some (decide (ai>=0))))
def sI (p0:M.aC) (p1:M.aGl) (p2:Int):Option Bool:=
 dZ p0 p1 p2 fuel 0
def hJ (p0:M.aC) (p1:M.aGl) (p2:Int) (p3:ByteArray) (p4:Bool):Option M.aGm:=
 (gO p0 p2 p1.Name p3).bind λx1=>(if x1.2=true then (some x1.1) else (if p4=true then ((iT p1 p3 p2).bind λx5=>(some x5)) else ((cC).bind λx7=>(some x7))))
def oH (p0:List Int) (p1:List Int):Nat->Int->Option Bool
 | 0,_=>none
 | aa+1,v5=>if (decide (v5<(List.length p0:Int)))=true then ((idx p0 v5).bind λx7=>((idx p1 v5).bind λae=>(if (x7 != ae)=true then (some false) else (oH p0 p1 aa (i64.wrap (v5+1)))))) else (some true)
def yM (p0:List Int) (p1:List Int):Option Bool:=
 if ((List.length p0:Int) != (List.length p1:Int))=true then (some false) else (oH p0 p1 fuel 0)
def tV  : Option (List ByteArray):=
 some ([(⟨#[98,97,110,107]⟩:ByteArray),(⟨#[110,101,119,115]⟩:ByteArray),(⟨#[115,104,111,112]⟩:ByteArray)])
def zP (p0:Int) (x4:(List ByteArray)):Nat->Int->List M.aGl->List M.aGr->Option M.World
 | 0,_,_,_=>none
 | ah+1,v5,aa,ae=>if (decide (v5<(List.length x4:Int)))=true then ((idx x4 v5).bind λaf=>((app 56 aa ([(⟨af,1,[(⟨#[99,111,100,101]⟩:ByteArray),(⟨#[100,97,116,97]⟩:ByteArray),(⟨#[105,110,100,101,120]⟩:ByteArray),(⟨#[115,116,121,108,101]⟩:ByteArray)],(af.toList==(⟨#[110,101,119,115]⟩:ByteArray).toList)⟩:M.aGl)])).bind λai=>((app 96 ae ([(⟨(⟨(⟨#[110,111,116,101,115]⟩:ByteArray),([]:List M.aG1),0⟩:M.aD),([]:List M.aP),([]:List M.bC)⟩:M.aGr)])).bind λaj=>(zP p0 x4 ah (i64.wrap (v5+1)) (aa++[(⟨af,1,[(⟨#[99,111,100,101]⟩:ByteArray),(⟨#[100,97,116,97]⟩:ByteArray),(⟨#[105,110,100,101,120]⟩:ByteArray),(⟨#[115,116,121,108,101]⟩:ByteArray)],(af.toList==(⟨#[110,101,119,115]⟩:ByteArray).toList)⟩:M.aGl)]) (ae++[(⟨(⟨(⟨#[110,111,116,101,115]⟩:ByteArray),([]:List M.aG1),0⟩:M.aD),([]:List M.aP),([]:List M.bC)⟩:M.aGr)]))))) else (some (⟨0,true,p0,(⟨([]:List M.aG)⟩:M.aA),([]:List M.bJ),1,(⟨([]:List M.nW)⟩:M.aR),(⟨([]:List M.Bk)⟩:M.aGt),aa,ae⟩:M.World))
def zX (p0:Int):Option M.World:=
 (bA p0 1 1000000).bind λx1=>(if (!x1)=true then (some (⟨0,false,0,(⟨([]:List M.aG)⟩:M.aA),([]:List M.bJ),0,(⟨([]:List M.nW)⟩:M.aR),(⟨([]:List M.Bk)⟩:M.aGt),([]:List M.aGl),([]:List M.aGr)⟩:M.World)) else ((tV).bind λx4=>(zP p0 x4 fuel 0 ([]:List M.aGl) ([]:List M.aGr))))
def cK (p0:M.aE):Option M.aE:=
 (app 24 ([]:List M.Field) p0.aGn).bind λx1=>(some p0)
def yC (p0:M.aG1):Option M.aG1:=
 (cK p0.aE).bind λx1=>(some (⟨p0.Key,x1⟩:M.aG1))
def rV (p0:M.aD):Nat->Int->List M.aG1->Option M.aD
 | 0,_,_=>none
 | af+1,v4,aa=>if (decide (v4<(List.length p0.aGk:Int)))=true then ((idx p0.aGk v4).bind λah=>((yC ah).bind λae=>((app 56 aa ([ae])).bind λai=>(rV p0 af (i64.wrap (v4+1)) (aa++[ae]))))) else (some (⟨p0.Name,aa,p0.aHD⟩:M.aD))
def bZ (p0:M.aD):Option M.aD:=
 rV p0 fuel 0 ([]:List M.aG1)
def rZ (p0:M.aGh):Nat->Int->List M.aD->Option M.aGh
 | 0,_,_=>none
 | af+1,v4,aa=>if (decide (v4<(List.length p0.aGq:Int)))=true then ((idx p0.aGq v4).bind λah=>((bZ ah).bind λae=>((app 48 aa ([ae])).bind λai=>(rZ p0 af (i64.wrap (v4+1)) (aa++[ae]))))) else (some (⟨p0.Name,p0.aGg,aa,p0.aG3⟩:M.aGh))
def eR (p0:M.aGh):Option M.aGh:=
 (app 32 ([]:List M.aO) p0.aG3).bind λx1=>(rZ p0 fuel 0 ([]:List M.aD))
def zG (p0:M.bW):Option M.bW:=
 (eR p0.aG4).bind λx1=>((app 1 ([]:List Int) p0.Log).bind λx3=>(some (⟨x1,p0.Log,p0.aHM⟩:M.bW)))
def sX (p0:M.aM):Option M.aM:=
 (app 72 ([]:List M.bC) p0.aG0).bind λx1=>(some p0)
def wN (p0:M.aG5):Option M.aG5:=
 (sX p0.aM).bind λx1=>(some (⟨x1,p0.aHL,p0.aHB⟩:M.aG5))
def wS (p0:M.aH):Option M.aH:=
 (bZ p0.aG4).bind λx1=>((wN p0.aG5).bind λx3=>(some (⟨x1,p0.aHS,x3⟩:M.aH)))
def gN (p0:M.aG):Option M.aG:=
 (bO p0.aGi).bind λx1=>((zG p0.bW).bind λx3=>((wS p0.aH).bind λx5=>(some (⟨p0.aGl,p0.Top,p0.aGf,x1,x3,x5,p0.aHI,p0.aHE⟩:M.aG))))
def oG (p0:M.aA):Nat->Int->List M.aG->Option M.aA
 | 0,_,_=>none
 | af+1,v4,aa=>if (decide (v4<(List.length p0.aGj:Int)))=true then ((idx p0.aGj v4).bind λah=>((gN ah).bind λae=>((app 328 aa ([ae])).bind λai=>(oG p0 af (i64.wrap (v4+1)) (aa++[ae]))))) else (some (⟨aa⟩:M.aA))
def fG (p0:M.aA):Option M.aA:=
 oG p0 fuel 0 ([]:List M.aG)
def vA (p0:List M.Instr):Option (List M.Instr):=
 (app 40 ([]:List M.Instr) p0).bind λx1=>(some p0)
def A3 (p0:M.aGu):Option M.aGu:=
 (vA p0.aHP).bind λx1=>((app 8 ([]:List Int) p0.aHY).bind λx3=>(some (⟨x1,p0.Pc,p0.aHY,p0.aHV,p0.aHd,p0.aHf⟩:M.aGu)))
def kI (p0:M.bJ):Option M.bJ:=
 (app 24 ([]:List M.aW) p0.aW).bind λx1=>((A3 p0.aGu).bind λaa=>(some (⟨p0.Id,p0.aGl,p0.Top,p0.aGg,p0.aW,aa⟩:M.bJ)))
def wR (p0:M.aR):Option M.aR:=
 (app 32 ([]:List M.nW) p0.aGy).bind λx1=>(some p0)
def zJ (p0:M.aGt):Option M.aGt:=
 (app 24 ([]:List M.Bk) p0.aHN).bind λx1=>(some p0)
def sV (p0:M.aGl):Option M.aGl:=
 (app 16 ([]:List ByteArray) p0.aG8).bind λx1=>(some p0)
def gP (p0:M.aGr):Option M.aGr:=
 (bZ p0.aD).bind λx1=>((app 16 ([]:List M.aP) p0.aP).bind λx3=>((app 72 ([]:List M.bC) p0.aG9).bind λx5=>(some (⟨x1,p0.aP,p0.aG9⟩:M.aGr))))
def iZ (p0:M.World) (x1:M.aA) (ah:List M.bJ) (ai:M.aR) (aj:M.aGt) (ak:List M.aGl):Nat->Int->List M.aGr->Option M.World
 | 0,_,_=>none
 | al+1,v6,ae=>if (decide (v6<(List.length p0.aGz:Int)))=true then ((idx p0.aGz v6).bind λaf=>((gP af).bind λaa=>((app 96 ae ([aa])).bind λao=>(iZ p0 x1 ah ai aj ak al (i64.wrap (v6+1)) (ae++[aa]))))) else (some (⟨p0.Now,p0.aHA,p0.aGp,x1,ah,p0.aGv,ai,aj,ak,ae⟩:M.World))
def jC (p0:M.World) (x1:M.aA) (ae:List M.bJ) (af:M.aR) (ah:M.aGt):Nat->Int->List M.aGl->Option M.World
 | 0,_,_=>none
 | aj+1,v5,aa=>if (decide (v5<(List.length p0.aG2:Int)))=true then ((idx p0.aG2 v5).bind λak=>((sV ak).bind λai=>((app 56 aa ([ai])).bind λal=>(jC p0 x1 ae af ah aj (i64.wrap (v5+1)) (aa++[ai]))))) else (iZ p0 x1 ae af ah aa fuel 0 ([]:List M.aGr))
def mB (p0:M.World) (x1:M.aA):Nat->Int->List M.bJ->Option M.World
 | 0,_,_=>none
 | af+1,v4,aa=>if (decide (v4<(List.length p0.aGx:Int)))=true then ((idx p0.aGx v4).bind λah=>((kI ah).bind λae=>((app 144 aa ([ae])).bind λak=>(mB p0 x1 af (i64.wrap (v4+1)) (aa++[ae]))))) else ((wR p0.aGy).bind λai=>((zJ p0.aGt).bind λaj=>(jC p0 x1 aa ai aj fuel 0 ([]:List M.aGl))))
def bP (p0:M.World):Option M.World:=
 (fG p0.aA).bind λx1=>(mB p0 x1 fuel 0 ([]:List M.bJ))
def oI (p0:List M.bJ) (p1:Int):Nat->Int->Option Int
 | 0,_=>none
 | aa+1,v5=>if (decide (v5<(List.length p0:Int)))=true then ((idx p0 v5).bind λx6=>(if (x6.Id==p1)=true then (some v5) else (oI p0 p1 aa (i64.wrap (v5+1))))) else (some (-1))
def A8 (p0:List M.bJ) (p1:Int):Option Int:=
 oI p0 p1 fuel 0
def yR (p0:M.World) (p1:Int):Option Int:=
 (A8 p0.aGx p1).bind λx1=>(some x1)
def iQ (p0:ByteArray):Nat->Int->Option Bool
 | 0,_=>none
 | aa+1,v3=>if (decide (v3<(p0.size:Int)))=true then ((W3 p0 v3).bind λx5=>(if (decide ((x5.toNat:Int)<97))=true then (if (decide ((x5.toNat:Int)<48))=true then (some false) else (if (decide ((x5.toNat:Int)>57))=true then (some false) else (iQ p0 aa (i64.wrap (v3+1))))) else (if (decide ((x5.toNat:Int)>122))=true then (if (decide ((x5.toNat:Int)<48))=true then (some false) else (if (decide ((x5.toNat:Int)>57))=true then (some false) else (iQ p0 aa (i64.wrap (v3+1))))) else (iQ p0 aa (i64.wrap (v3+1)))))) else (some (decide ((p0.size:Int)<=12)))
def As (p0:ByteArray):Option Bool:=
 iQ p0 fuel 0
def fP (p0:M.Key):Option Bool:=
 (bA p0.aG7 1 3).bind λx1=>(if x1=true then ((bA p0.N (-1000000000000) 1000000000000).bind λx4=>(if x4=true then (if (p0.aG7 != 2)=true then ((As p0.aHG).bind λx8=>(if x8=true then (if (p0.aG7 != 1)=true then (some true) else (some (p0.aHG.toList==(⟨#[]⟩:ByteArray).toList))) else (some false))) else (if (p0.N==0)=true then ((As p0.aHG).bind λaa=>(if aa=true then (if (p0.aG7 != 1)=true then (some true) else (some (p0.aHG.toList==(⟨#[]⟩:ByteArray).toList))) else (some false))) else (some false))) else (some false))) else (some false))
def jR (p0:M.bC):Option Bool:=
 (bA p0.aGp 1 1000000).bind λx1=>(if x1=true then ((bA p0.Seq 1 1000000).bind λx4=>(if x4=true then ((fP p0.Key).bind λx7=>(if x7=true then ((cA p0.Field).bind λaa=>(if aa=true then ((bA p0.N 0 1000000000).bind λae=>(some ae)) else (some false))) else (some false))) else (some false))) else (some false))
def hH (p0:M.aE):Nat->Int->Option Bool
 | 0,_=>none
 | aa+1,v3=>if (decide (v3<(List.length p0.aGn:Int)))=true then ((idx p0.aGn v3).bind λx6=>((cA x6.Name).bind λae=>(if (!ae)=true then (some false) else ((bA x6.N 0 1000000000).bind λaf=>(if (!af)=true then (some false) else (if (decide (v3>0))=true then ((idx p0.aGn (i64.wrap (v3-1))).bind λah=>(if (!(Op.bytesLess ah.Name.toList x6.Name.toList))=true then (some false) else (hH p0 aa (i64.wrap (v3+1))))) else (hH p0 aa (i64.wrap (v3+1))))))))) else (some (decide ((List.length p0.aGn:Int)<=6)))
def bL (p0:M.aE):Option Bool:=
 hH p0 fuel 0
def Au (p0:Bool) (p1:Bool):Option Int:=
 if p0=true then (some (-1)) else (if p1=true then (some 1) else (some 0))
def bI (p0:M.Key) (p1:M.Key):Option Int:=
 (fP p0).bind λx1=>(if (!x1)=true then (some 0) else ((fP p1).bind λx4=>(if (!x4)=true then (some 0) else (if (p0.aG7 != p1.aG7)=true then ((Au (decide (p0.aG7<p1.aG7)) true).bind λx8=>(some x8)) else (if (p0.N != p1.N)=true then ((Au (decide (p0.N<p1.N)) true).bind λaa=>(some aa)) else ((Au (Op.bytesLess p0.aHG.toList p1.aHG.toList) (!(Op.bytesLess p0.aHG.toList p1.aHG.toList||p0.aHG.toList==p1.aHG.toList))).bind λae=>(some ae)))))))
def jD (p0:M.aD):Nat->Int->Option Bool
 | 0,_=>none
 | aa+1,v3=>if (decide (v3<(List.length p0.aGk:Int)))=true then ((idx p0.aGk v3).bind λx6=>((fP x6.Key).bind λae=>(if (!ae)=true then (some false) else ((bL x6.aE).bind λaf=>(if (!af)=true then (some false) else (if (decide (v3>0))=true then ((idx p0.aGk (i64.wrap (v3-1))).bind λah=>((bI ah.Key x6.Key).bind λai=>(if (decide (ai>=0))=true then (some false) else (jD p0 aa (i64.wrap (v3+1)))))) else (jD p0 aa (i64.wrap (v3+1))))))))) else ((cA p0.Name).bind λaj=>(if aj=true then (if (decide ((List.length p0.aGk:Int)<=16))=true then ((bA p0.aHD 0 1000000).bind λak=>(some ak)) else (some false)) else (some false)))
def mL (p0:M.aD):Option Bool:=
 jD p0 fuel 0
def jS (p0:M.aGr):Nat->Int->Option Bool
 | 0,_=>none
 | aa+1,v4=>if (decide (v4<(List.length p0.aG9:Int)))=true then ((idx p0.aG9 v4).bind λae=>((jR ae).bind λaf=>(if (!af)=true then (some false) else (jS p0 aa (i64.wrap (v4+1)))))) else ((mL p0.aD).bind λah=>(if ah=true then (if (p0.aD.Name.toList==(⟨#[110,111,116,101,115]⟩:ByteArray).toList)=true then (some (decide ((List.length p0.aP:Int)<=60))) else (some false)) else (some false)))
def hU (p0:M.aGr):Nat->Int->Option Bool
 | 0,_=>none
 | aa+1,v3=>if (decide (v3<(List.length p0.aP:Int)))=true then ((idx p0.aP v3).bind λx6=>((bA x6.aGp 1 1000000).bind λae=>(if (!ae)=true then (some false) else ((bA x6.Seq 0 1000000).bind λaf=>(if (!af)=true then (some false) else (if (decide (v3>0))=true then ((idx p0.aP (i64.wrap (v3-1))).bind λah=>(if (decide (ah.aGp>=x6.aGp))=true then (some false) else (hU p0 aa (i64.wrap (v3+1))))) else (hU p0 aa (i64.wrap (v3+1))))))))) else (jS p0 fuel 0)
def pR (p0:M.aGr):Option Bool:=
 hU p0 fuel 0
def rQ (p0:M.bJ):Nat->Int->Option Bool
 | 0,_=>none
 | aa+1,v3=>if (decide (v3<(List.length p0.aW:Int)))=true then ((idx p0.aW v3).bind λx6=>((cA x6.aHQ).bind λae=>(if (!ae)=true then (some false) else (if (x6.aGg != p0.aGg)=true then (some false) else (rQ p0 aa (i64.wrap (v3+1))))))) else ((bA p0.Id 1 1000000000000).bind λaf=>(if af=true then ((cA p0.aGl).bind λah=>(if ah=true then ((cA p0.Top).bind λai=>(if ai=true then ((bA p0.aGg 1 1000000000000).bind λaj=>(if aj=true then (some (decide ((List.length p0.aW:Int)<=8))) else (some false))) else (some false))) else (some false))) else (some false)))
def sR (p0:M.bJ):Option Bool:=
 rQ p0 fuel 0
def gT (p0:M.aA) (p1:ByteArray) (p2:ByteArray):Nat->Int->Option Int
 | 0,_=>none
 | aa+1,v7=>if (decide (v7<(List.length p0.aGj:Int)))=true then ((idx p0.aGj v7).bind λx8=>(if (x8.aGl.toList==p1.toList)=true then (if (x8.Top.toList==p2.toList)=true then (some v7) else (gT p0 p1 p2 aa (i64.wrap (v7+1)))) else (gT p0 p1 p2 aa (i64.wrap (v7+1))))) else (some (-1))
def fD (p0:M.aA) (p1:ByteArray) (p2:ByteArray):Option Int:=
 gT p0 p1 p2 fuel 0
def bU (p0:M.aGf):Nat->Int->Int->Option Bool
 | 0,_,_=>none
 | ae+1,v3,v5=>if (decide (v5<((3:Nat):Int)))=true then ((idx ([p0.aHF,p0.aHC,p0.aG6]) v5).bind λaa=>((bA aa 0 1000000000000).bind λaf=>(if (!af)=true then (some false) else (if (aa != 0)=true then (if (decide (aa<=v3))=true then (some false) else (bU p0 ae aa (i64.wrap (v5+1)))) else (bU p0 ae v3 (i64.wrap (v5+1))))))) else ((cA p0.aGl).bind λah=>(some ah))
def cE (p0:M.aGf):Option Bool:=
 bU p0 fuel 0 0
def lQ (p0:M.aGh) (p1:ByteArray):Nat->Int->Option Int
 | 0,_=>none
 | aa+1,v5=>if (decide (v5<(List.length p0.aGq:Int)))=true then ((idx p0.aGq v5).bind λx7=>(if (x7.Name.toList==p1.toList)=true then (some v5) else (lQ p0 p1 aa (i64.wrap (v5+1))))) else (some (-1))
def rO (p0:M.aGh) (p1:ByteArray):Option Int:=
 lQ p0 p1 fuel 0
def rA (p0:M.aE) (p1:ByteArray):Nat->Int->Option (Int×Bool)
 | 0,_=>none
 | aa+1,v6=>if (decide (v6<(List.length p0.aGn:Int)))=true then ((idx p0.aGn v6).bind λx7=>(if (x7.Name.toList==p1.toList)=true then (some (x7.N,true)) else (rA p0 p1 aa (i64.wrap (v6+1))))) else (some (0,false))
def kO (p0:M.aE) (p1:ByteArray):Option (Int×Bool):=
 rA p0 p1 fuel 0
def BW (p0:M.aG1) (p1:M.aG1) (p2:ByteArray):Option Bool:=
 (kO p0.aE p2).bind λx1=>((kO p1.aE p2).bind λx3=>(if (decide (x1.1<x3.1))=true then (some true) else (if (x1.1==x3.1)=true then ((bI p0.Key p1.Key).bind λx7=>(some (decide (x7<0)))) else (some false))))
def oA (p1:ByteArray) (ae:List M.aG1) (ah:M.aG1) (af:Int->Option (List M.aG1)):Nat->Int->Option (List M.aG1)
 | 0,_=>none
 | ai+1,aa=>if (decide (aa>0))=true then ((idx ae (i64.wrap (aa-1))).bind λaj=>((BW ah aj p1).bind λak=>(if ak=true then (oA p1 ae ah af ai (i64.wrap (aa-1))) else (af aa)))) else (af aa)
def lT (p0:M.aD) (p1:ByteArray):Nat->Int->List M.aG1->Option (List M.aG1)
 | 0,_,_=>none
 | ai+1,v6,aa=>if (decide (v6<(List.length p0.aGk:Int)))=true then ((idx p0.aGk v6).bind λaf=>((kO af.aE p1).bind λaj=>(if (!aj.2)=true then (lT p0 p1 ai (i64.wrap (v6+1)) aa) else (oA p1 aa af (λ(ae:Int)=>(An aa ae).bind λal=>((app 56 ([]:List M.aG1) (List.take ae.toNat aa)).bind λao=>((yC af).bind λah=>((app 56 (List.take ae.toNat aa) ([ah])).bind λaq=>((app 56 ((List.take ae.toNat aa)++[ah]) (List.drop ae.toNat aa)).bind λak=>(lT p0 p1 ai (i64.wrap (v6+1)) (((List.take ae.toNat aa)++[ah])++(List.drop ae.toNat aa)))))))) fuel (List.length aa:Int))))) else (some aa)
def A5 (p0:M.aD) (p1:ByteArray):Option (List M.aG1):=
 lT p0 p1 fuel 0 ([]:List M.aG1)
def mE (p1:ByteArray) (x1:(List M.aG1)):Nat->Int->Option (M.Key×M.Key×Bool)
 | 0,_=>none
 | af+1,v8=>if (decide (v8<(List.length x1:Int)))=true then ((idx x1 (i64.wrap (v8-1))).bind λaa=>((kO aa.aE p1).bind λah=>((idx x1 v8).bind λae=>((kO ae.aE p1).bind λai=>(if (ah.1==ai.1)=true then (some (aa.Key,ae.Key,true)) else (mE p1 x1 af (i64.wrap (v8+1)))))))) else (some ((⟨0,0,(⟨#[]⟩:ByteArray)⟩:M.Key),(⟨0,0,(⟨#[]⟩:ByteArray)⟩:M.Key),false))
def vO (p0:M.aD) (p1:ByteArray):Option (M.Key×M.Key×Bool):=
 (A5 p0 p1).bind λx1=>(mE p1 x1 fuel 1)
def gR (p0:M.aGh) (v4:Int) (ae:M.aO) (af:Int->Option Bool):Nat->Int->Option Bool
 | 0,_=>none
 | ai+1,aa=>if (decide (aa<v4))=true then ((idx p0.aG3 aa).bind λah=>(if ((ah.aD.toList==ae.aD.toList)&&(ah.Field.toList==ae.Field.toList))=true then (some false) else (gR p0 v4 ae af ai (i64.wrap (aa+1))))) else (af aa)
def eW (p0:M.aGh):Nat->Int->Option Bool
 | 0,_=>none
 | ah+1,v4=>if (decide (v4<(List.length p0.aG3:Int)))=true then ((idx p0.aG3 v4).bind λaa=>((rO p0 aa.aD).bind λae=>(if (decide (ae<0))=true then (some false) else ((cA aa.Field).bind λai=>(if (!ai)=true then (some false) else ((idx p0.aGq ae).bind λaj=>((vO aj aa.Field).bind λak=>(if ak.2.2=true then (some false) else (gR p0 v4 aa (λ(af:Int)=>eW p0 ah (i64.wrap (v4+1))) fuel 0))))))))) else ((cA p0.Name).bind λal=>(if al=true then ((bA p0.aGg 0 1000).bind λao=>(if ao=true then (if (decide ((List.length p0.aGq:Int)<=4))=true then (some (decide ((List.length p0.aG3:Int)<=4))) else (some false)) else (some false))) else (some false)))
def eV (p0:M.aGh):Nat->Int->Option Bool
 | 0,_=>none
 | aa+1,v3=>if (decide (v3<(List.length p0.aGq:Int)))=true then ((idx p0.aGq v3).bind λx6=>((mL x6).bind λae=>(if (!ae)=true then (some false) else (if (decide (v3>0))=true then ((idx p0.aGq (i64.wrap (v3-1))).bind λaf=>(if (!(Op.bytesLess af.Name.toList x6.Name.toList))=true then (some false) else (eV p0 aa (i64.wrap (v3+1))))) else (eV p0 aa (i64.wrap (v3+1))))))) else (eW p0 fuel 0)
def cD (p0:M.aGh):Option Bool:=
 eV p0 fuel 0
def mQ (p0:M.aM):Nat->Int->Option Bool
 | 0,_=>none
 | ae+1,v4=>if (decide (v4<(List.length p0.aG0:Int)))=true then ((idx p0.aG0 v4).bind λaa=>((jR aa).bind λaf=>(if (!af)=true then (some false) else (if (aa.aGp != p0.aGp)=true then (some false) else (if (aa.Seq != (i64.wrap ((i64.wrap (p0.aHH-(List.length p0.aG0:Int)))+v4)))=true then (some false) else (mQ p0 ae (i64.wrap (v4+1)))))))) else (some true)
def iN (p0:M.aM):Option Bool:=
 (bA p0.aGp 1 1000000).bind λx1=>(if (!x1)=true then (some false) else ((bA p0.aHH 1 1000000).bind λx4=>(if (!x4)=true then (some false) else (if (decide ((List.length p0.aG0:Int)>20))=true then (some false) else (mQ p0 fuel 0)))))
def nO (p0:M.aH):Option Bool:=
 (mL p0.aG4).bind λx1=>(if x1=true then (if (p0.aG4.Name.toList==(⟨#[110,111,116,101,115]⟩:ByteArray).toList)=true then ((bA p0.aHS 0 1000000000000).bind λx5=>(if x5=true then ((iN p0.aG5.aM).bind λx8=>(some x8)) else (some false))) else (some false)) else (some false))
def xI (p0:M.aGm) (p1:Bool):Option Int:=
 if p1=true then (some 76) else (some (i64.wrap (16+(List.length p0.aHT:Int))))
def jO (p0:M.aC) (v4:Int) (k8:Int->Int->Option Int):Nat->Int->Int->Option Int
 | 0,_,_=>none
 | ai+1,ae,aa=>(idx p0.aGi v4).bind λaf=>(if (decide (aa<(List.length af.aGs:Int)))=true then ((idx af.aGs aa).bind λah=>((xI ah.aGm (ah.aGm.aHX==3)).bind λaj=>(jO p0 v4 k8 ai (i64.wrap (ae+aj)) (i64.wrap (aa+1))))) else (k8 ae aa))
def eO (p0:M.aC):Nat->Int->Int->Option Int
 | 0,_,_=>none
 | af+1,v3,v4=>if (decide (v4<(List.length p0.aGi:Int)))=true then (jO p0 v4 (λ(aa:Int) (ae:Int)=>eO p0 af aa (i64.wrap (v4+1))) fuel v3 0) else (some v3)
def xC (p0:M.aC):Option Int:=
 eO p0 fuel 0 0
def bE (p0:M.Key):Nat->Int->List Int->Option (List Int)
 | 0,_,_=>none
 | ae+1,v4,aa=>if (decide (v4>=0))=true then (if (p0.aG7 != 2)=true then (if (decide (0<=(i64.wrap (8*v4))))=true then ((app 1 aa ([(IntKind.u8.wrap (i64.wrap (BitVec.ofInt (IntKind.i64.bits) (Int.fdiv (i64.wrap (p0.N+1000000000000)) (2^(min (i64.wrap (8*v4)).toNat IntKind.i64.bits)))&&&BitVec.ofInt (IntKind.i64.bits) 255).toNat))])).bind λaf=>(bE p0 ae (i64.wrap (v4-1)) (aa++[(IntKind.u8.wrap (i64.wrap (BitVec.ofInt (IntKind.i64.bits) (Int.fdiv (i64.wrap (p0.N+1000000000000)) (2^(min (i64.wrap (8*v4)).toNat IntKind.i64.bits)))&&&BitVec.ofInt (IntKind.i64.bits) 255).toNat))]))) else none) else ((app 1 aa (bR p0.aHG)).bind λah=>(some (aa++(bR p0.aHG))))) else ((app 1 aa (bR p0.aHG)).bind λai=>(some (aa++(bR p0.aHG))))
def kT (p0:M.Key):Option (List Int):=
 (fP p0).bind λx1=>(if (!x1)=true then (some ([]:List Int)) else (bE p0 fuel 5 ([(IntKind.u8.wrap p0.aG7)])))
def cQ  : Nat->Int->List Int->Option (List Int)
 | 0,_,_=>none
 | aa+1,v1,r6=>if (decide (v1>127))=true then ((app 1 r6 ([(IntKind.u8.wrap (i64.wrap (BitVec.ofInt (IntKind.i64.bits) (i64.wrap (BitVec.ofInt (IntKind.i64.bits) v1&&&BitVec.ofInt (IntKind.i64.bits) 127).toNat)|||BitVec.ofInt (IntKind.i64.bits) 128).toNat))])).bind λae=>(cQ aa (Int.fdiv v1 (2^(min (7:Int).toNat IntKind.i64.bits))) (r6++[(IntKind.u8.wrap (i64.wrap (BitVec.ofInt (IntKind.i64.bits) (i64.wrap (BitVec.ofInt (IntKind.i64.bits) v1&&&BitVec.ofInt (IntKind.i64.bits) 127).toNat)|||BitVec.ofInt (IntKind.i64.bits) 128).toNat))]))) else ((app 1 r6 ([(IntKind.u8.wrap v1)])).bind λaf=>(some (r6++[(IntKind.u8.wrap v1)])))
def bS (p0:List Int) (p1:Int):Option (List Int):=
 (app 1 ([]:List Int) p0).bind λx1=>((bA p1 0 1000000000000).bind λx7=>(if (!x7)=true then (some p0) else (cQ fuel p1 p0)))
def bQ (p0:List Int) (p1:List Int):Option (List Int):=
 (bS p0 (List.length p1:Int)).bind λx1=>((app 1 x1 p1).bind λx3=>(some (x1++p1)))
def cW (p0:M.aE):Nat->Int->List Int->Option (List Int)
 | 0,_,_=>none
 | af+1,v4,aa=>if (decide (v4<(List.length p0.aGn:Int)))=true then ((idx p0.aGn v4).bind λae=>((bQ aa (bR ae.Name)).bind λah=>((bS ah ae.N).bind λai=>(cW p0 af (i64.wrap (v4+1)) ai)))) else (some aa)
def gG (p0:M.aE):Option (List Int):=
 (bL p0).bind λx1=>(if (!x1)=true then (some ([]:List Int)) else ((bS ([]:List Int) (List.length p0.aGn:Int)).bind λx4=>(cW p0 fuel 0 x4)))
def lI (p0:M.aD):Nat->Int->Int->Option Int
 | 0,_,_=>none
 | aa+1,v3,v4=>if (decide (v4<(List.length p0.aGk:Int)))=true then ((idx p0.aGk v4).bind λx7=>((kT x7.Key).bind λae=>((gG x7.aE).bind λaf=>(lI p0 aa (i64.wrap ((i64.wrap (v3+(List.length ae:Int)))+(List.length af:Int))) (i64.wrap (v4+1)))))) else (some v3)
def vE (p0:M.aD):Option Int:=
 lI p0 fuel 0 0
def gX (p0:M.aGh):Nat->Int->Int->Option Int
 | 0,_,_=>none
 | aa+1,v3,v4=>if (decide (v4<(List.length p0.aGq:Int)))=true then ((idx p0.aGq v4).bind λx7=>((vE x7).bind λae=>(gX p0 aa (i64.wrap (v3+ae)) (i64.wrap (v4+1))))) else (some v3)
def uD (p0:M.aGh):Option Int:=
 gX p0 fuel 0 0
def BP (p0:M.bW):Option Int:=
 (uD p0.aG4).bind λx1=>(some (i64.wrap (x1+(List.length p0.Log:Int))))
def Ba (p0:M.aG):Option Int:=
 (xC p0.aGi).bind λx1=>((BP p0.bW).bind λx3=>((vE p0.aH.aG4).bind λx5=>(some (i64.wrap ((i64.wrap ((i64.wrap (x1+x3))+x5))+(i64.wrap (40*(List.length p0.aH.aG5.aM.aG0:Int))))))))
def nD (p0:M.aG):Option Bool:=
 (cA p0.aGl).bind λx1=>(if x1=true then ((cA p0.Top).bind λx4=>(if x4=true then ((cE p0.aGf).bind λx7=>(if x7=true then (if (p0.aGf.aGl.toList==p0.aGl.toList)=true then ((cM p0.aGi).bind λaa=>(if aa=true then ((cD p0.bW.aG4).bind λae=>(if ae=true then ((nO p0.aH).bind λaf=>(if af=true then ((bA p0.aHI 0 1000000000000).bind λah=>(if ah=true then ((Ba p0).bind λai=>(some (decide (ai<=2500)))) else (some false))) else (some false))) else (some false))) else (some false))) else (some false)) else (some false))) else (some false))) else (some false))
def zF (p0:M.aG) (p1:ByteArray) (p2:ByteArray):Option Bool:=
 if (Op.bytesLess p0.aGl.toList p1.toList)=true then (some true) else (if (p0.aGl.toList==p1.toList)=true then (some (Op.bytesLess p0.Top.toList p2.toList)) else (some false))
def gH (p0:M.aA):Nat->Int->Option Bool
 | 0,_=>none
 | aa+1,v3=>if (decide (v3<(List.length p0.aGj:Int)))=true then ((idx p0.aGj v3).bind λx6=>((nD x6).bind λae=>(if (!ae)=true then (some false) else (if (decide (v3>0))=true then ((idx p0.aGj (i64.wrap (v3-1))).bind λaf=>((zF af x6.aGl x6.Top).bind λah=>(if (!ah)=true then (some false) else (gH p0 aa (i64.wrap (v3+1)))))) else (gH p0 aa (i64.wrap (v3+1))))))) else (some (decide ((List.length p0.aGj:Int)<=9)))
def cN (p0:M.aA):Option Bool:=
 gH p0 fuel 0
def dQ (p0:ByteArray):Nat->Int->Option Bool
 | 0,_=>none
 | aa+1,v3=>if (decide (v3<(p0.size:Int)))=true then ((W3 p0 v3).bind λx5=>(if (decide ((x5.toNat:Int)<97))=true then (if ((x5.toNat:Int) != 47)=true then (some false) else (dQ p0 aa (i64.wrap (v3+1)))) else (if (decide ((x5.toNat:Int)>122))=true then (if ((x5.toNat:Int) != 47)=true then (some false) else (dQ p0 aa (i64.wrap (v3+1)))) else (dQ p0 aa (i64.wrap (v3+1)))))) else ((bA (p0.size:Int) 1 30).bind λae=>(some ae))
def wV (p0:ByteArray):Option Bool:=
 dQ p0 fuel 0
def cU (p0:M.aR) (v3:Int) (x6:M.nW) (ae:Int->Option Bool):Nat->Int->Option Bool
 | 0,_=>none
 | af+1,aa=>if (decide (aa<v3))=true then ((idx p0.aGy aa).bind λah=>(if x6.aHc=true then (if (ah.Name.toList==x6.Name.toList)=true then (if (!ah.aHc)=true then (some false) else (if (!x6.aHJ)=true then (some false) else (if (!ah.aHJ)=true then (some false) else (cU p0 v3 x6 ae af (i64.wrap (aa+1)))))) else (cU p0 v3 x6 ae af (i64.wrap (aa+1)))) else (cU p0 v3 x6 ae af (i64.wrap (aa+1))))) else (ae aa)
def fR (p0:M.aR):Nat->Int->Option Bool
 | 0,_=>none
 | ae+1,v3=>if (decide (v3<(List.length p0.aGy:Int)))=true then ((idx p0.aGy v3).bind λx6=>((wV x6.Name).bind λaf=>(if (!af)=true then (some false) else ((bA x6.bJ 1 1000000000000).bind λah=>(if (!ah)=true then (some false) else (cU p0 v3 x6 (λ(aa:Int)=>fR p0 ae (i64.wrap (v3+1))) fuel 0)))))) else (some (decide ((List.length p0.aGy:Int)<=12)))
def wI (p0:M.aR):Option Bool:=
 fR p0 fuel 0
def dW (p0:M.World):Nat->Int->Option Bool
 | 0,_=>none
 | ae+1,v4=>if (decide (v4<(List.length p0.aGx:Int)))=true then ((idx p0.aGx v4).bind λaa=>((sR aa).bind λaf=>(if (!af)=true then (some false) else (if (decide (aa.Id>=p0.aGv))=true then (some false) else (if (decide (v4>0))=true then ((idx p0.aGx (i64.wrap (v4-1))).bind λah=>(if (decide (ah.Id>=aa.Id))=true then (some false) else ((fD p0.aA aa.aGl aa.Top).bind λai=>(if (decide (ai<0))=true then (some false) else (dW p0 ae (i64.wrap (v4+1))))))) else ((fD p0.aA aa.aGl aa.Top).bind λaj=>(if (decide (aj<0))=true then (some false) else (dW p0 ae (i64.wrap (v4+1)))))))))) else ((bA p0.Now 0 999999990000).bind λak=>(if ak=true then ((bA p0.aGp 1 1000000).bind λal=>(if al=true then ((cN p0.aA).bind λao=>(if ao=true then ((bA p0.aGv 1 1000000000000).bind λaq=>(if aq=true then ((wI p0.aGy).bind λar=>(some ar)) else (some false))) else (some false))) else (some false))) else (some false)))
def lW (p0:M.World):Nat->Int->Option Bool
 | 0,_=>none
 | aa+1,v3=>if (decide (v3<3))=true then ((idx p0.aG2 v3).bind λx9=>((sQ x9).bind λae=>(if (!ae)=true then (some false) else ((tV).bind λaf=>((idx af v3).bind λah=>(if (!(x9.Name.toList==ah.toList))=true then (some false) else ((idx p0.aGz v3).bind λai=>((pR ai).bind λaj=>(if (!aj)=true then (some false) else (lW p0 aa (i64.wrap (v3+1)))))))))))) else (dW p0 fuel 0)
def gQ (p0:M.World):Option Bool:=
 if ((List.length p0.aG2:Int) != 3)=true then (some false) else (if ((List.length p0.aGz:Int) != 3)=true then (some false) else (if (decide ((List.length p0.aGx:Int)>6))=true then (some false) else (lW p0 fuel 0)))
def nN (p0:List M.nW) (p1:Int) (p2:M.nW):Nat->Int->Option Bool
 | 0,_=>none
 | aa+1,v7=>if (decide (v7<p1))=true then ((idx p0 v7).bind λx8=>(if (x8.Name.toList==p2.Name.toList)=true then (if (!x8.aHc)=true then (some false) else (if (!x8.aHJ)=true then (some false) else (if (!p2.aHJ)=true then (some false) else (nN p0 p1 p2 aa (i64.wrap (v7+1)))))) else (nN p0 p1 p2 aa (i64.wrap (v7+1))))) else (some true)
def Bz (p0:List M.nW) (p1:Int) (p2:M.nW):Option Bool:=
 nN p0 p1 p2 fuel 0
def eT  : Nat->Int->List M.nW->Option M.aR
 | 0,_,_=>none
 | ae+1,v4,r6=>if (decide (v4<(List.length r6:Int)))=true then ((idx r6 v4).bind λaa=>(if (!aa.aHc)=true then ((Bz r6 v4 aa).bind λaf=>(if af=true then (eT ae (i64.wrap (v4+1)) (List.set r6 v4.toNat (⟨aa.Name,aa.bJ,aa.aHJ,true⟩:M.nW))) else (eT ae (i64.wrap (v4+1)) r6))) else (eT ae (i64.wrap (v4+1)) r6))) else (some (⟨r6⟩:M.aR))
def tM (p0:M.aR):Option M.aR:=
 (wR p0).bind λx1=>(eT fuel 0 x1.aGy)
def eM (p0:M.aR) (p1:Int):Nat->Int->List M.nW->Option M.aR
 | 0,_,_=>none
 | af+1,v6,aa=>if (decide (v6<(List.length p0.aGy:Int)))=true then ((idx p0.aGy v6).bind λae=>(if (ae.bJ != p1)=true then ((app 32 aa ([ae])).bind λai=>(eM p0 p1 af (i64.wrap (v6+1)) (aa++[ae]))) else (eM p0 p1 af (i64.wrap (v6+1)) aa))) else ((tM (⟨aa⟩:M.aR)).bind λah=>(some ah))
def tY (p0:M.aR) (p1:Int):Option M.aR:=
 eM p0 p1 fuel 0 ([]:List M.nW)
def iJ (p0:M.aGt) (p1:Int):Nat->Int->List M.Bk->Option M.aGt
 | 0,_,_=>none
 | af+1,v6,aa=>if (decide (v6<(List.length p0.aHN:Int)))=true then ((idx p0.aHN v6).bind λae=>(if (ae.To != p1)=true then ((app 24 aa ([ae])).bind λah=>(iJ p0 p1 af (i64.wrap (v6+1)) (aa++[ae]))) else (iJ p0 p1 af (i64.wrap (v6+1)) aa))) else (some (⟨aa⟩:M.aGt))
def yV (p0:M.aGt) (p1:Int):Option M.aGt:=
 iJ p0 p1 fuel 0 ([]:List M.Bk)
def kS (p0:M.World) (p1:Int):Option (M.World×Bool):=
 (bP p0).bind λx1=>((yR p0 p1).bind λx3=>((gQ p0).bind λx5=>(if (!x5)=true then (some (x1,false)) else (if (decide (x3<0))=true then (some (x1,false)) else ((An x1.aGx x3).bind λx9=>((Cb x1.aGx (i64.wrap (x3+1))).bind λaf=>((app 144 (List.take x3.toNat x1.aGx) (List.drop (i64.wrap (x3+1)).toNat x1.aGx)).bind λah=>((tY p0.aGy p1).bind λaa=>((yV p0.aGt p1).bind λae=>(some ((⟨x1.Now,x1.aHA,x1.aGp,x1.aA,((List.take x3.toNat x1.aGx)++(List.drop (i64.wrap (x3+1)).toNat x1.aGx)),x1.aGv,aa,ae,x1.aG2,x1.aGz⟩:M.World),true)))))))))))
def sW (p0:M.aN):Option (Int×Int×ByteArray):=
 (eD p0 ([(⟨#[98,97,110,107]⟩:ByteArray),(⟨#[110,101,119,115]⟩:ByteArray),(⟨#[115,104,111,112]⟩:ByteArray)])).bind λx4=>(some (x4.1,x4.2.1,x4.2.2))
def dG (p0:M.aN):Option (Int×Int×ByteArray):=
 (eD p0 ([(⟨#[97]⟩:ByteArray),(⟨#[98]⟩:ByteArray),(⟨#[99]⟩:ByteArray),(⟨#[100,111,110,101]⟩:ByteArray),(⟨#[116,105,116,108,101]⟩:ByteArray)])).bind λx4=>(some (x4.1,x4.2.1,x4.2.2))
def Am (p0:M.aN) (p1:Int):Option (Int×Int×M.Instr):=
 (aF p0 9).bind λx5=>((aF (⟨p0.b,x5.1,x5.2.1⟩:M.aN) 4).bind λx7=>(if ((i64.wrap (1+x5.2.2))==1)=true then ((aF (⟨p0.b,x7.1,x7.2.1⟩:M.aN) 6).bind λaa=>(some (aa.1,aa.2.1,(⟨(i64.wrap (1+x5.2.2)),x7.2.2,aa.2.2,(⟨#[]⟩:ByteArray)⟩:M.Instr)))) else (if ((i64.wrap (1+x5.2.2))==2)=true then ((aF (⟨p0.b,x7.1,x7.2.1⟩:M.aN) 4).bind λae=>(some (ae.1,ae.2.1,(⟨(i64.wrap (1+x5.2.2)),x7.2.2,ae.2.2,(⟨#[]⟩:ByteArray)⟩:M.Instr)))) else (if ((i64.wrap (1+x5.2.2))==3)=true then ((aF (⟨p0.b,x7.1,x7.2.1⟩:M.aN) (i64.wrap (p1+1))).bind λaf=>(some (af.1,af.2.1,(⟨(i64.wrap (1+x5.2.2)),x7.2.2,af.2.2,(⟨#[]⟩:ByteArray)⟩:M.Instr)))) else (if ((i64.wrap (1+x5.2.2))==4)=true then ((aF (⟨p0.b,x7.1,x7.2.1⟩:M.aN) (i64.wrap (p1+1))).bind λah=>(some (ah.1,ah.2.1,(⟨(i64.wrap (1+x5.2.2)),0,ah.2.2,(⟨#[]⟩:ByteArray)⟩:M.Instr)))) else (if ((i64.wrap (1+x5.2.2))==5)=true then ((eD (⟨p0.b,x7.1,x7.2.1⟩:M.aN) ([(⟨#[105,110,100,101,120]⟩:ByteArray),(⟨#[115,116,121,108,101]⟩:ByteArray),(⟨#[100,97,116,97]⟩:ByteArray)])).bind λai=>(some (ai.1,ai.2.1,(⟨(i64.wrap (1+x5.2.2)),x7.2.2,0,ai.2.2⟩:M.Instr)))) else (if ((i64.wrap (1+x5.2.2))==6)=true then ((aF (⟨p0.b,x7.1,x7.2.1⟩:M.aN) 4).bind λaj=>((dG (⟨p0.b,aj.1,aj.2.1⟩:M.aN)).bind λak=>(some (ak.1,ak.2.1,(⟨(i64.wrap (1+x5.2.2)),x7.2.2,aj.2.2,ak.2.2⟩:M.Instr))))) else (if ((i64.wrap (1+x5.2.2))==7)=true then ((aF (⟨p0.b,x7.1,x7.2.1⟩:M.aN) 4).bind λal=>((dG (⟨p0.b,al.1,al.2.1⟩:M.aN)).bind λao=>(some (ao.1,ao.2.1,(⟨(i64.wrap (1+x5.2.2)),x7.2.2,al.2.2,ao.2.2⟩:M.Instr))))) else (if ((i64.wrap (1+x5.2.2))==8)=true then ((aF (⟨p0.b,x7.1,x7.2.1⟩:M.aN) 4).bind λaq=>((dG (⟨p0.b,aq.1,aq.2.1⟩:M.aN)).bind λar=>(some (ar.1,ar.2.1,(⟨(i64.wrap (1+x5.2.2)),x7.2.2,aq.2.2,ar.2.2⟩:M.Instr))))) else (if ((i64.wrap (1+x5.2.2))==9)=true then (some (x7.1,x7.2.1,(⟨(i64.wrap (1+x5.2.2)),0,0,(⟨#[]⟩:ByteArray)⟩:M.Instr))) else (some (x7.1,x7.2.1,(⟨(i64.wrap (1+x5.2.2)),x7.2.2,0,(⟨#[]⟩:ByteArray)⟩:M.Instr)))))))))))))
def lC (p0:M.aN) (x4:(Int×Int×Int)):Nat->Int->List M.Instr->Int->Int->Option (Int×Int×(List M.Instr))
 | 0,_,_,_,_=>none
 | ah+1,v5,r8,aa,ae=>if (decide (v5<x4.2.2))=true then ((Am (⟨p0.b,aa,ae⟩:M.aN) x4.2.2).bind λaf=>((app 40 r8 ([af.2.2])).bind λai=>(lC p0 x4 ah (i64.wrap (v5+1)) (r8++[af.2.2]) af.1 af.2.1))) else (some (aa,ae,r8))
def iR (p0:M.aN):Option (Int×Int×(List M.Instr)):=
 (aF p0 8).bind λx4=>(lC p0 x4 fuel 0 ([]:List M.Instr) x4.1 x4.2.1)
def jQ (p0:ByteArray) (x1:(List ByteArray)):Nat->Int->Option Int
 | 0,_=>none
 | aa+1,v4=>if (decide (v4<(List.length x1:Int)))=true then ((idx x1 v4).bind λx9=>(if (x9.toList==p0.toList)=true then (some v4) else (jQ p0 x1 aa (i64.wrap (v4+1))))) else (some (-1))
def jE (p0:ByteArray):Option Int:=
 (tV).bind λx1=>(jQ p0 x1 fuel 0)
def yD (p0:M.World):Option Int:=
 some (i64.wrap ((i64.wrap (1000*p0.aGp))+p0.aGv))
def nQ (p0:Int):Option (M.aM×Bool):=
 (iN (⟨p0,1,([]:List M.bC)⟩:M.aM)).bind λx1=>(if (!x1)=true then (some ((⟨0,0,([]:List M.bC)⟩:M.aM),false)) else (some ((⟨p0,1,([]:List M.bC)⟩:M.aM),true)))
def rN (p0:ByteArray) (p1:ByteArray) (p2:Int):Option (M.aG×Bool):=
 (nQ p2).bind λx1=>(if (!x1.2)=true then (some ((⟨(⟨#[]⟩:ByteArray),(⟨#[]⟩:ByteArray),(⟨(⟨#[]⟩:ByteArray),0,0,0⟩:M.aGf),(⟨([]:List M.aGo)⟩:M.aC),(⟨(⟨(⟨#[]⟩:ByteArray),0,([]:List M.aD),([]:List M.aO)⟩:M.aGh),([]:List Int),0⟩:M.bW),(⟨(⟨(⟨#[]⟩:ByteArray),([]:List M.aG1),0⟩:M.aD),0,(⟨(⟨0,0,([]:List M.bC)⟩:M.aM),0,0⟩:M.aG5)⟩:M.aH),0,false⟩:M.aG),false)) else ((nD (⟨p0,p1,(⟨p0,0,0,0⟩:M.aGf),(⟨([]:List M.aGo)⟩:M.aC),(⟨(⟨(⟨#[97,112,112]⟩:ByteArray),1,[(⟨(⟨#[110,111,116,101,115]⟩:ByteArray),([]:List M.aG1),0⟩:M.aD)],([]:List M.aO)⟩:M.aGh),([]:List Int),0⟩:M.bW),(⟨(⟨(⟨#[110,111,116,101,115]⟩:ByteArray),([]:List M.aG1),0⟩:M.aD),0,(⟨x1.1,0,0⟩:M.aG5)⟩:M.aH),0,false⟩:M.aG)).bind λaa=>(if (!aa)=true then (some ((⟨(⟨#[]⟩:ByteArray),(⟨#[]⟩:ByteArray),(⟨(⟨#[]⟩:ByteArray),0,0,0⟩:M.aGf),(⟨([]:List M.aGo)⟩:M.aC),(⟨(⟨(⟨#[]⟩:ByteArray),0,([]:List M.aD),([]:List M.aO)⟩:M.aGh),([]:List Int),0⟩:M.bW),(⟨(⟨(⟨#[]⟩:ByteArray),([]:List M.aG1),0⟩:M.aD),0,(⟨(⟨0,0,([]:List M.bC)⟩:M.aM),0,0⟩:M.aG5)⟩:M.aH),0,false⟩:M.aG),false)) else (some ((⟨p0,p1,(⟨p0,0,0,0⟩:M.aGf),(⟨([]:List M.aGo)⟩:M.aC),(⟨(⟨(⟨#[97,112,112]⟩:ByteArray),1,[(⟨(⟨#[110,111,116,101,115]⟩:ByteArray),([]:List M.aG1),0⟩:M.aD)],([]:List M.aO)⟩:M.aGh),([]:List Int),0⟩:M.bW),(⟨(⟨(⟨#[110,111,116,101,115]⟩:ByteArray),([]:List M.aG1),0⟩:M.aD),0,(⟨x1.1,0,0⟩:M.aG5)⟩:M.aH),0,false⟩:M.aG),true)))))
def lM (p0:M.aA) (p1:M.aG) (x1:M.aA):Nat->Int->Option (M.aA×Bool)
 | 0,_=>none
 | al+1,v8=>if (decide (v8<(List.length p0.aGj:Int)))=true then ((idx p0.aGj v8).bind λao=>((zF ao p1.aGl p1.Top).bind λaq=>(if aq=true then (lM p0 p1 x1 al (i64.wrap (v8+1))) else ((An x1.aGj v8).bind λbd=>((app 328 ([]:List M.aG) (List.take v8.toNat x1.aGj)).bind λbf=>((gN p1).bind λae=>((app 328 (List.take v8.toNat x1.aGj) ([ae])).bind λbg=>((app 328 ((List.take v8.toNat x1.aGj)++[ae]) (List.drop v8.toNat x1.aGj)).bind λbh=>((cN p0).bind λar=>(if (!ar)=true then ((fG p0).bind λav=>(some (av,false))) else ((cN (⟨(((List.take v8.toNat x1.aGj)++[ae])++(List.drop v8.toNat x1.aGj))⟩:M.aA)).bind λaw=>(if (!aw)=true then ((fG p0).bind λaf=>(some (af,false))) else (some ((⟨(((List.take v8.toNat x1.aGj)++[ae])++(List.drop v8.toNat x1.aGj))⟩:M.aA),true)))))))))))))) else ((An x1.aGj v8).bind λax=>((app 328 ([]:List M.aG) (List.take v8.toNat x1.aGj)).bind λay=>((gN p1).bind λaa=>((app 328 (List.take v8.toNat x1.aGj) ([aa])).bind λaz=>((app 328 ((List.take v8.toNat x1.aGj)++[aa]) (List.drop v8.toNat x1.aGj)).bind λba=>((cN p0).bind λah=>(if (!ah)=true then ((fG p0).bind λai=>(some (ai,false))) else ((cN (⟨(((List.take v8.toNat x1.aGj)++[aa])++(List.drop v8.toNat x1.aGj))⟩:M.aA)).bind λaj=>(if (!aj)=true then ((fG p0).bind λak=>(some (ak,false))) else (some ((⟨(((List.take v8.toNat x1.aGj)++[aa])++(List.drop v8.toNat x1.aGj))⟩:M.aA),true)))))))))))
def gI (p0:M.aA) (p1:M.aG):Option (M.aA×Bool):=
 (fG p0).bind λx1=>((fD p0 p1.aGl p1.Top).bind λx3=>(if (decide (x3>=0))=true then ((gN p1).bind λx6=>((idx x1.aGj x3).bind λx8=>((cN p0).bind λaa=>(if (!aa)=true then ((fG p0).bind λae=>(some (ae,false))) else ((cN (⟨(List.set x1.aGj x3.toNat x6)⟩:M.aA)).bind λaf=>(if (!af)=true then ((fG p0).bind λah=>(some (ah,false))) else (some ((⟨(List.set x1.aGj x3.toNat x6)⟩:M.aA),true)))))))) else (lM p0 p1 x1 fuel 0)))
def oL (p0:M.aGf) (p1:M.aGl) (p2:Bool):Option Int:=
 if (p0.aHF != 0)=true then (some p0.aHF) else (if p2=true then (some p1.aGg) else (some 0))
def wK (p0:M.Instr) (p1:Int):Option Bool:=
 (if (p0.aG7==5)=true then (some true) else ((bA p0.aG7 6 8).bind λx9=>(some x9))).bind λx1=>((if (p0.aG7==1)=true then (some 1000) else (if (p0.aG7==2)=true then (some 3) else ((if (p0.aG7==3)=true then (some (p0.aG7==3)) else (some (p0.aG7==4))).bind λaa=>(if aa=true then (some p1) else ((if (p0.aG7==6)=true then (some (p0.aG7==6)) else (if (p0.aG7==7)=true then (some (p0.aG7==7)) else (some (p0.aG7==8)))).bind λae=>(if ae=true then (some 100) else (some 0))))))).bind λaf=>(((bA p0.aG7 1 9).bind λah=>(if (!ah)=true then (some true) else ((bA p0.R 0 3).bind λai=>(if (!ai)=true then (some true) else ((bA p0.N 0 af).bind λaj=>(some (!aj))))))).bind λak=>(if ak=true then (some false) else ((if (p0.aG7==4)=true then (some (p0.R != 0)) else (if (p0.aG7==9)=true then (some (p0.R != 0)) else (some false))).bind λal=>(if al=true then (some false) else ((if x1=true then ((cA p0.aHG).bind λao=>(if ao=true then (some true) else (some false))) else (some (p0.aHG.toList==(⟨#[]⟩:ByteArray).toList))).bind λaq=>(some aq)))))))
def mX (p0:List M.Instr):Nat->Int->Option Bool
 | 0,_=>none
 | aa+1,v3=>if (decide (v3<(List.length p0:Int)))=true then ((idx p0 v3).bind λx5=>((wK x5 (List.length p0:Int)).bind λae=>(if (!ae)=true then (some false) else (mX p0 aa (i64.wrap (v3+1)))))) else (some (decide ((List.length p0:Int)<=16)))
def Ao (p0:List M.Instr):Option Bool:=
 mX p0 fuel 0
def xR (p0:List M.Instr):Option M.aGu:=
 (Ao p0).bind λx8=>(if (!x8)=true then (some (⟨([]:List M.Instr),0,[0,0,0,0],0,true,false⟩:M.aGu)) else ((vA p0).bind λaa=>(some (⟨aa,0,[0,0,0,0],0,false,false⟩:M.aGu))))
def kV (p0:Int) (p1:ByteArray) (p2:ByteArray) (p3:Int) (p4:List M.Instr):Option (M.bJ×Bool):=
 (xR p4).bind λx1=>((sR (⟨p0,p1,p2,p3,([]:List M.aW),x1⟩:M.bJ)).bind λx3=>(if (!x3)=true then (some ((⟨0,(⟨#[]⟩:ByteArray),(⟨#[]⟩:ByteArray),0,([]:List M.aW),(⟨([]:List M.Instr),0,([]:List Int),0,false,false⟩:M.aGu)⟩:M.bJ),false)) else (some ((⟨p0,p1,p2,p3,([]:List M.aW),x1⟩:M.bJ),true))))
def nP (p0:M.World) (p1:M.bJ) (p2:ByteArray):Option M.aGm:=
 (fD p0.aA p1.aGl p1.Top).bind λx1=>((jE p1.aGl).bind λx3=>(if (decide (x1<0))=true then ((cC).bind λx6=>(some x6)) else (if (decide (x3<0))=true then ((cC).bind λx9=>(some x9)) else ((idx p0.aA.aGj x1).bind λaa=>((idx p0.aG2 x3).bind λae=>((hJ aa.aGi ae p1.aGg p2 p0.aHA).bind λaf=>(some af)))))))
def kK (p0:M.bJ) (p1:ByteArray) (p2:M.aGm):Option (M.bJ×Bool):=
 (kI p0).bind λx1=>((app 24 x1.aW ([(⟨p1,p2.aGg⟩:M.aW)])).bind λx3=>(if (p2.aHO != 200)=true then ((kI p0).bind λaa=>(some (aa,false))) else (if (p2.aGg != p0.aGg)=true then ((kI p0).bind λae=>(some (ae,false))) else ((sR p0).bind λaf=>(if (!af)=true then ((kI p0).bind λah=>(some (ah,false))) else ((sR (⟨x1.Id,x1.aGl,x1.Top,x1.aGg,(x1.aW++[(⟨p1,p2.aGg⟩:M.aW)]),x1.aGu⟩:M.bJ)).bind λai=>(if (!ai)=true then ((kI p0).bind λaj=>(some (aj,false))) else (some ((⟨x1.Id,x1.aGl,x1.Top,x1.aGg,(x1.aW++[(⟨p1,p2.aGg⟩:M.aW)]),x1.aGu⟩:M.bJ),true)))))))))
def kC (p0:M.World) (p1:ByteArray) (p2:ByteArray) (p3:List M.Instr):Option (M.World×Int×Bool):=
 (bP p0).bind λx1=>((jE p1).bind λx3=>((gQ p0).bind λx5=>(if (!x5)=true then (some (x1,0,false)) else (if (decide (x3<0))=true then (some (x1,0,false)) else ((jE p2).bind λx9=>(if (decide (x9<0))=true then (some (x1,0,false)) else ((yD p0).bind λbg=>((rN p1 p2 bg).bind λah=>((fD p0.aA p1 p2).bind λbf=>(if (decide (bf>=0))=true then ((idx p0.aA.aGj bf).bind λbh=>((gN bh).bind λai=>((gI p0.aA (⟨ai.aGl,ai.Top,ai.aGf,ai.aGi,ai.bW,ai.aH,p0.Now,ai.aHE⟩:M.aG)).bind λaj=>((idx p0.aG2 x3).bind λbj=>((oL ai.aGf bj p0.aHA).bind λbl=>((kV p0.aGv p1 p2 bl p3).bind λak=>(if (!aj.2)=true then ((bP p0).bind λbm=>(some (bm,0,false))) else (if (!ak.2)=true then ((bP p0).bind λbn=>(some (bn,0,false))) else ((nP (⟨x1.Now,x1.aHA,x1.aGp,aj.1,x1.aGx,x1.aGv,x1.aGy,x1.aGt,x1.aG2,x1.aGz⟩:M.World) ak.1 (⟨#[105,110,100,101,120]⟩:ByteArray)).bind λbo=>((kK ak.1 (⟨#[105,110,100,101,120]⟩:ByteArray) bo).bind λal=>((app 144 x1.aGx ([al.1])).bind λbt=>(if (!al.2)=true then ((bP p0).bind λbq=>(some (bq,0,false))) else ((gQ (⟨x1.Now,x1.aHA,x1.aGp,aj.1,(x1.aGx++[al.1]),(i64.wrap (p0.aGv+1)),x1.aGy,x1.aGt,x1.aG2,x1.aGz⟩:M.World)).bind λao=>(if (!ao)=true then ((bP p0).bind λaq=>(some (aq,0,false))) else (some ((⟨x1.Now,x1.aHA,x1.aGp,aj.1,(x1.aGx++[al.1]),(i64.wrap (p0.aGv+1)),x1.aGy,x1.aGt,x1.aG2,x1.aGz⟩:M.World),ak.1.Id,true)))))))))))))))) else ((gI p0.aA (⟨ah.1.aGl,ah.1.Top,ah.1.aGf,ah.1.aGi,ah.1.bW,ah.1.aH,p0.Now,ah.1.aHE⟩:M.aG)).bind λaa=>((idx p0.aG2 x3).bind λar=>((oL ah.1.aGf ar p0.aHA).bind λav=>((kV p0.aGv p1 p2 av p3).bind λae=>(if (!aa.2)=true then ((bP p0).bind λaw=>(some (aw,0,false))) else (if (!ae.2)=true then ((bP p0).bind λax=>(some (ax,0,false))) else ((nP (⟨x1.Now,x1.aHA,x1.aGp,aa.1,x1.aGx,x1.aGv,x1.aGy,x1.aGt,x1.aG2,x1.aGz⟩:M.World) ae.1 (⟨#[105,110,100,101,120]⟩:ByteArray)).bind λay=>((kK ae.1 (⟨#[105,110,100,101,120]⟩:ByteArray) ay).bind λaf=>((app 144 x1.aGx ([af.1])).bind λbr=>(if (!af.2)=true then ((bP p0).bind λaz=>(some (az,0,false))) else ((gQ (⟨x1.Now,x1.aHA,x1.aGp,aa.1,(x1.aGx++[af.1]),(i64.wrap (p0.aGv+1)),x1.aGy,x1.aGt,x1.aG2,x1.aGz⟩:M.World)).bind λba=>(if (!ba)=true then ((bP p0).bind λbd=>(some (bd,0,false))) else (some ((⟨x1.Now,x1.aHA,x1.aGp,aa.1,(x1.aGx++[af.1]),(i64.wrap (p0.aGv+1)),x1.aGy,x1.aGt,x1.aG2,x1.aGz⟩:M.World),ae.1.Id,true))))))))))))))))))))))))
def fM (p0:M.aN):Nat->Int->Int->Bool->Int->Int->Int->Int->List M.aG->List M.bJ->List M.nW->List M.Bk->List M.aGl->List M.aGr->Option (Int×Int×M.World)
 | 0,_,_,_,_,_,_,_,_,_,_,_,_,_=>none
 | bn+1,v4,av,aw,ax,ar,ak,al,ae,af,ah,ai,aa,aj=>if (decide (v4>0))=true then ((aF (⟨p0.b,ak,al⟩:M.aN) 6).bind λay=>(if (ay.2.2==0)=true then ((aF (⟨p0.b,ay.1,ay.2.1⟩:M.aN) (i64.wrap (ar+1))).bind λbo=>((kS (⟨av,aw,ax,(⟨ae⟩:M.aA),af,ar,(⟨ah⟩:M.aR),(⟨ai⟩:M.aGt),aa,aj⟩:M.World) bo.2.2).bind λbd=>(fM p0 bn (i64.wrap (v4-1)) bd.1.Now bd.1.aHA bd.1.aGp bd.1.aGv bo.1 bo.2.1 bd.1.aA.aGj bd.1.aGx bd.1.aGy.aGy bd.1.aGt.aHN bd.1.aG2 bd.1.aGz))) else (if (ay.2.2==1)=true then ((aF (⟨p0.b,ay.1,ay.2.1⟩:M.aN) 5).bind λbq=>(fM p0 bn (i64.wrap (v4-1)) (i64.wrap (av+bq.2.2)) aw ax ar bq.1 bq.2.1 ae af ah ai aa aj)) else (if (ay.2.2==2)=true then ((aF (⟨p0.b,ay.1,ay.2.1⟩:M.aN) 3).bind λbf=>((aF (⟨p0.b,bf.1,bf.2.1⟩:M.aN) 3).bind λbg=>((idx aa bf.2.2).bind λbh=>(fM p0 bn (i64.wrap (v4-1)) av aw ax ar bg.1 bg.2.1 ae af ah ai (List.set aa bf.2.2.toNat (⟨bh.Name,(i64.wrap (1+bg.2.2)),bh.aG8,bh.aHJ⟩:M.aGl)) aj)))) else ((sW (⟨p0.b,ay.1,ay.2.1⟩:M.aN)).bind λaz=>((bG (⟨p0.b,az.1,az.2.1⟩:M.aN) 3).bind λba=>(if ba.2.2=true then ((sW (⟨p0.b,ba.1,ba.2.1⟩:M.aN)).bind λbj=>((iR (⟨p0.b,bj.1,bj.2.1⟩:M.aN)).bind λbl=>((kC (⟨av,aw,ax,(⟨ae⟩:M.aA),af,ar,(⟨ah⟩:M.aR),(⟨ai⟩:M.aGt),aa,aj⟩:M.World) az.2.2 bj.2.2 bl.2.2).bind λao=>(fM p0 bn (i64.wrap (v4-1)) ao.1.Now ao.1.aHA ao.1.aGp ao.1.aGv bl.1 bl.2.1 ao.1.aA.aGj ao.1.aGx ao.1.aGy.aGy ao.1.aGt.aHN ao.1.aG2 ao.1.aGz)))) else ((iR (⟨p0.b,ba.1,ba.2.1⟩:M.aN)).bind λbm=>((kC (⟨av,aw,ax,(⟨ae⟩:M.aA),af,ar,(⟨ah⟩:M.aR),(⟨ai⟩:M.aGt),aa,aj⟩:M.World) az.2.2 az.2.2 bm.2.2).bind λaq=>(fM p0 bn (i64.wrap (v4-1)) aq.1.Now aq.1.aHA aq.1.aGp aq.1.aGv bm.1 bm.2.1 aq.1.aA.aGj aq.1.aGx aq.1.aGy.aGy aq.1.aGt.aHN aq.1.aG2 aq.1.aGz)))))))))) else (some (ak,al,(⟨av,aw,ax,(⟨ae⟩:M.aA),af,ar,(⟨ah⟩:M.aR),(⟨ai⟩:M.aGt),aa,aj⟩:M.World)))
def zU (p0:M.aN):Option (Int×Int×M.World):=
 (aF p0 3).bind λx4=>((zX (i64.wrap (1+x4.2.2))).bind λx6=>((aF (⟨p0.b,x4.1,x4.2.1⟩:M.aN) 5).bind λaa=>(fM p0 fuel aa.2.2 x6.Now x6.aHA x6.aGp x6.aGv aa.1 aa.2.1 x6.aA.aGj x6.aGx x6.aGy.aGy x6.aGt.aHN x6.aG2 x6.aGz)))
def BJ (p0:Int):Option Int:=
 if (decide (p0>1000000000000))=true then (some p0) else (some (i64.wrap (p0+1)))
def A6 (p0:M.aGl):Option (M.aGl×Bool):=
 (sV p0).bind λx1=>((BJ p0.aGg).bind λx3=>((sQ p0).bind λx5=>(if (!x5)=true then ((sV p0).bind λx8=>(some (x8,false))) else ((sQ (⟨x1.Name,x3,x1.aG8,x1.aHJ⟩:M.aGl)).bind λaa=>(if (!aa)=true then ((sV p0).bind λae=>(some (ae,false))) else (some ((⟨x1.Name,x3,x1.aG8,x1.aHJ⟩:M.aGl),true)))))))
def fL (p0:M.World) (p1:ByteArray):Option (M.World×Bool):=
 (bP p0).bind λx1=>((jE p1).bind λx3=>((gQ p0).bind λx5=>(if (!x5)=true then (some (x1,false)) else (if (decide (x3<0))=true then (some (x1,false)) else ((idx p0.aG2 x3).bind λx9=>((A6 x9).bind λaa=>((idx x1.aG2 x3).bind λae=>(some ((⟨x1.Now,x1.aHA,x1.aGp,x1.aA,x1.aGx,x1.aGv,x1.aGy,x1.aGt,(List.set x1.aG2 x3.toNat aa.1),x1.aGz⟩:M.World),aa.2)))))))))
def uA (p0:M.aGf) (p1:Int):Option (M.aGf×Bool):=
 (cE p0).bind λx1=>(if (!x1)=true then (some (p0,false)) else ((cE (⟨p0.aGl,p1,p0.aHC,p0.aHF⟩:M.aGf)).bind λx4=>(if (!x4)=true then (some (p0,false)) else (if (decide (p1<1))=true then (some (p0,false)) else (if (p0.aG6 != 0)=true then (some (p0,false)) else (some ((⟨p0.aGl,p1,p0.aHC,p0.aHF⟩:M.aGf),true)))))))
def sH (p0:M.aGf):Option Int:=
 (zM p0.aHC p0.aG6).bind λx1=>((zM p0.aHF x1).bind λx3=>(some x3))
def wZ (p0:M.aGf) (p1:Bool):Option (M.aGf×Int):=
 (cE p0).bind λx1=>(if (!x1)=true then (some (p0,0)) else (if (p0.aG6==0)=true then (some (p0,0)) else (if (!p1)=true then (some ((⟨p0.aGl,0,p0.aHC,p0.aHF⟩:M.aGf),p0.aG6)) else (some ((⟨p0.aGl,0,p0.aG6,p0.aHF⟩:M.aGf),p0.aHC)))))
def vD (p0:M.aC) (p1:Int):Option (M.aC×Bool):=
 (bO p0).bind λx1=>((nU p0 p1).bind λx3=>(if (decide (x3<0))=true then (some (x1,false)) else ((An x1.aGi x3).bind λx6=>((Cb x1.aGi (i64.wrap (x3+1))).bind λx8=>((app 32 (List.take x3.toNat x1.aGi) (List.drop (i64.wrap (x3+1)).toNat x1.aGi)).bind λaa=>(some ((⟨((List.take x3.toNat x1.aGi)++(List.drop (i64.wrap (x3+1)).toNat x1.aGi))⟩:M.aC),true)))))))
def rX (p0:M.aG) (p1:M.aG):Option (M.aG×Bool):=
 (nD p0).bind λx1=>(if (!x1)=true then ((gN p0).bind λx4=>(some (x4,false))) else ((nD p1).bind λx6=>(if (!x6)=true then ((gN p0).bind λx9=>(some (x9,false))) else (some (p1,true)))))
def nM (p0:M.aG) (p1:M.aC) (p2:M.aGf):Option (M.aG×Bool):=
 (gN p0).bind λx1=>((bO p1).bind λx3=>((rX p0 (⟨x1.aGl,x1.Top,p2,x3,x1.bW,x1.aH,x1.aHI,x1.aHE⟩:M.aG)).bind λx5=>(if x5.2=true then (some ((⟨x1.aGl,x1.Top,p2,x3,x1.bW,x1.aH,x1.aHI,x1.aHE⟩:M.aG),true)) else (some (x5.1,false)))))
def yE (p0:M.World) (p1:M.aG) (p2:Bool):Option (M.World×Bool):=
 (bP p0).bind λx1=>((gI p0.aA p1).bind λx3=>(if (!p2)=true then (some (x1,false)) else (if (!x3.2)=true then (some (x1,false)) else (some ((⟨x1.Now,x1.aHA,x1.aGp,x3.1,x1.aGx,x1.aGv,x1.aGy,x1.aGt,x1.aG2,x1.aGz⟩:M.World),true)))))
def dJ (p0:M.World) (p1:ByteArray) (p2:ByteArray):Option (M.World×Bool):=
 (fD p0.aA p1 p2).bind λx1=>((jE p1).bind λx3=>((gQ p0).bind λx5=>(if (!x5)=true then ((bP p0).bind λx8=>(some (x8,false))) else (if (decide (x1<0))=true then ((bP p0).bind λal=>(some (al,false))) else (if (decide (x3<0))=true then ((bP p0).bind λao=>(some (ao,false))) else ((idx p0.aA.aGj x1).bind λaa=>((idx p0.aG2 x3).bind λae=>((uA aa.aGf ae.aGg).bind λai=>(if (!ai.2)=true then ((bP p0).bind λaq=>(some (aq,false))) else ((sH aa.aGf).bind λar=>(if (decide (ae.aGg<=ar))=true then ((bP p0).bind λav=>(some (av,false))) else ((oV aa.aGi ae ae.aGg p0.aHA).bind λaf=>((wZ ai.1 af.2).bind λaj=>((vD af.1 aj.2).bind λaw=>((nM aa aw.1 aj.1).bind λak=>((yE p0 ak.1 ak.2).bind λah=>(if ah.2=true then (some (ah.1,af.2)) else (some (ah.1,false)))))))))))))))))))
def jA (p0:M.World) (p1:ByteArray) (p2:ByteArray):Nat->Int->List M.bJ->Option (List M.bJ)
 | 0,_,_=>none
 | aa+1,v8,r9=>if (decide (v8<(List.length p0.aGx:Int)))=true then ((idx p0.aGx v8).bind λae=>(if (ae.aGl.toList==p1.toList)=true then (if (ae.Top.toList==p2.toList)=true then ((kI ae).bind λaf=>((app 144 r9 ([af])).bind λah=>(jA p0 p1 p2 aa (i64.wrap (v8+1)) (r9++[af])))) else (jA p0 p1 p2 aa (i64.wrap (v8+1)) r9)) else (jA p0 p1 p2 aa (i64.wrap (v8+1)) r9))) else (some r9)
def A4 (p0:M.World) (p1:ByteArray) (p2:ByteArray):Option (List M.bJ):=
 jA p0 p1 p2 fuel 0 ([]:List M.bJ)
def eK (p0:List M.bJ) (p1:ByteArray):Nat->Int->List Int->Option (List Int)
 | 0,_,_=>none
 | ae+1,v6,r7=>if (decide (v6<(List.length p0:Int)))=true then ((idx p0 v6).bind λaa=>(if (aa.aGl.toList==p1.toList)=true then ((app 8 r7 ([aa.aGg])).bind λaf=>(eK p0 p1 ae (i64.wrap (v6+1)) (r7++[aa.aGg]))) else (eK p0 p1 ae (i64.wrap (v6+1)) r7))) else (some r7)
def uC (p0:List M.bJ) (p1:ByteArray):Option (List Int):=
 eK p0 p1 fuel 0 ([]:List Int)
def iF (p0:M.aGf) (p1:List Int):Nat->Int->Option Bool
 | 0,_=>none
 | aa+1,v5=>if (decide (v5<(List.length p1:Int)))=true then ((idx p1 v5).bind λx7=>(if (x7==p0.aHF)=true then (some false) else (iF p0 p1 aa (i64.wrap (v5+1))))) else ((cE p0).bind λae=>(if ae=true then (some (p0.aHC != 0)) else (some false)))
def vN (p0:M.aGf) (p1:List Int):Option Bool:=
 iF p0 p1 fuel 0
def Aj (p0:M.aGf) (p1:List Int):Option (M.aGf×Int×Bool):=
 (vN p0 p1).bind λx1=>(if (!x1)=true then (some (p0,0,false)) else (some ((⟨p0.aGl,p0.aG6,0,p0.aHC⟩:M.aGf),p0.aHF,true)))
def fT (p0:M.World) (p1:ByteArray) (p2:ByteArray):Option (M.World×Bool):=
 (fD p0.aA p1 p2).bind λx1=>((gQ p0).bind λx3=>(if (!x3)=true then ((bP p0).bind λx6=>(some (x6,false))) else (if (decide (x1<0))=true then ((bP p0).bind λx9=>(some (x9,false))) else ((idx p0.aA.aGj x1).bind λaa=>((A4 p0 p1 p2).bind λaj=>((uC aj p1).bind λak=>((Aj aa.aGf ak).bind λae=>((vD aa.aGi ae.2.1).bind λal=>((nM aa al.1 ae.1).bind λaf=>(if ae.2.2=true then ((yE p0 af.1 af.2).bind λah=>(some (ah.1,ah.2))) else ((yE p0 af.1 false).bind λai=>(some (ai.1,ai.2)))))))))))))
def Bc (p0:M.aN) (p1:M.World):Option (Int×Int×M.World):=
 (sW p0).bind λx5=>((bG (⟨p0.b,x5.1,x5.2.1⟩:M.aN) 4).bind λai=>(if ai.2.2=true then ((sW (⟨p0.b,ai.1,ai.2.1⟩:M.aN)).bind λah=>((aF (⟨p0.b,ah.1,ah.2.1⟩:M.aN) 6).bind λaa=>(if (aa.2.2==0)=true then ((fL p1 x5.2.2).bind λaq=>(some (aa.1,aa.2.1,aq.1))) else (if (aa.2.2==1)=true then ((dJ p1 x5.2.2 ah.2.2).bind λar=>(some (aa.1,aa.2.1,ar.1))) else (if (aa.2.2==2)=true then ((dJ p1 x5.2.2 ah.2.2).bind λav=>(some (aa.1,aa.2.1,av.1))) else (if (aa.2.2==3)=true then ((fT p1 x5.2.2 ah.2.2).bind λaw=>(some (aa.1,aa.2.1,aw.1))) else (if (aa.2.2==4)=true then ((iR (⟨p0.b,aa.1,aa.2.1⟩:M.aN)).bind λaj=>((kC p1 x5.2.2 ah.2.2 aj.2.2).bind λax=>(some (aj.1,aj.2.1,ax.1)))) else ((aF (⟨p0.b,aa.1,aa.2.1⟩:M.aN) 4).bind λak=>((kS p1 (i64.wrap (1+ak.2.2))).bind λay=>(some (ak.1,ak.2.1,ay.1))))))))))) else ((aF (⟨p0.b,ai.1,ai.2.1⟩:M.aN) 6).bind λae=>(if (ae.2.2==0)=true then ((fL p1 x5.2.2).bind λaz=>(some (ae.1,ae.2.1,az.1))) else (if (ae.2.2==1)=true then ((dJ p1 x5.2.2 x5.2.2).bind λba=>(some (ae.1,ae.2.1,ba.1))) else (if (ae.2.2==2)=true then ((dJ p1 x5.2.2 x5.2.2).bind λbd=>(some (ae.1,ae.2.1,bd.1))) else (if (ae.2.2==3)=true then ((fT p1 x5.2.2 x5.2.2).bind λbf=>(some (ae.1,ae.2.1,bf.1))) else (if (ae.2.2==4)=true then ((iR (⟨p0.b,ae.1,ae.2.1⟩:M.aN)).bind λal=>((kC p1 x5.2.2 x5.2.2 al.2.2).bind λbg=>(some (al.1,al.2.1,bg.1)))) else ((aF (⟨p0.b,ae.1,ae.2.1⟩:M.aN) 4).bind λaf=>((kS p1 (i64.wrap (1+af.2.2))).bind λao=>(some (af.1,af.2.1,ao.1))))))))))))
def pZ (p0:M.aN):Nat->Int->Int->Bool->Int->Int->Int->Int->List M.aG->List M.bJ->List M.nW->List M.Bk->List M.aGl->List M.aGr->Option (Int×Int×M.World)
 | 0,_,_,_,_,_,_,_,_,_,_,_,_,_=>none
 | ax+1,v4,aq,ar,av,aw,aa,ae,ah,ai,aj,ak,al,ao=>if (decide (v4>0))=true then ((Bc (⟨p0.b,aa,ae⟩:M.aN) (⟨aq,ar,av,(⟨ah⟩:M.aA),ai,aw,(⟨aj⟩:M.aR),(⟨ak⟩:M.aGt),al,ao⟩:M.World)).bind λaf=>(pZ p0 ax (i64.wrap (v4-1)) af.2.2.Now af.2.2.aHA af.2.2.aGp af.2.2.aGv af.1 af.2.1 af.2.2.aA.aGj af.2.2.aGx af.2.2.aGy.aGy af.2.2.aGt.aHN af.2.2.aG2 af.2.2.aGz)) else (some (aa,ae,(⟨aq,ar,av,(⟨ah⟩:M.aA),ai,aw,(⟨aj⟩:M.aR),(⟨ak⟩:M.aGt),al,ao⟩:M.World)))
def Al (p0:M.aN):Option (Int×Int×M.World):=
 (zU p0).bind λx4=>((aF (⟨p0.b,x4.1,x4.2.1⟩:M.aN) 7).bind λaa=>(pZ p0 fuel aa.2.2 x4.2.2.Now x4.2.2.aHA x4.2.2.aGp x4.2.2.aGv aa.1 aa.2.1 x4.2.2.aA.aGj x4.2.2.aGx x4.2.2.aGy.aGy x4.2.2.aGt.aHN x4.2.2.aG2 x4.2.2.aGz))
def dR (p0:M.aN):Option (Int×Int×M.Key):=
 (aF p0 6).bind λx4=>(some (x4.1,x4.2.1,(⟨1,x4.2.2,(⟨#[]⟩:ByteArray)⟩:M.Key)))
def mM (p0:M.aE) (p1:ByteArray) (p2:Int) (x1:M.aE):Nat->Int->Option (M.aE×Bool)
 | 0,_=>none
 | af+1,v9=>if (decide (v9<(List.length p0.aGn:Int)))=true then ((idx p0.aGn v9).bind λaa=>(if (Op.bytesLess aa.Name.toList p1.toList)=true then (mM p0 p1 p2 x1 af (i64.wrap (v9+1))) else (if (aa.Name.toList==p1.toList)=true then ((idx x1.aGn v9).bind λae=>((bL p0).bind λah=>(if (!ah)=true then ((cK p0).bind λai=>(some (ai,false))) else ((bL (⟨(List.set x1.aGn v9.toNat (⟨ae.Name,p2⟩:M.Field))⟩:M.aE)).bind λaj=>(if (!aj)=true then ((cK p0).bind λak=>(some (ak,false))) else (some ((⟨(List.set x1.aGn v9.toNat (⟨ae.Name,p2⟩:M.Field))⟩:M.aE),true))))))) else ((An p0.aGn v9).bind λaz=>((app 24 ([]:List M.Field) (List.take v9.toNat p0.aGn)).bind λba=>((app 24 (List.take v9.toNat p0.aGn) ([(⟨p1,p2⟩:M.Field)])).bind λbd=>((Cb p0.aGn v9).bind λbf=>((app 24 ((List.take v9.toNat p0.aGn)++[(⟨p1,p2⟩:M.Field)]) (List.drop v9.toNat p0.aGn)).bind λbg=>((bL p0).bind λal=>(if (!al)=true then ((cK p0).bind λao=>(some (ao,false))) else ((bL (⟨(((List.take v9.toNat p0.aGn)++[(⟨p1,p2⟩:M.Field)])++(List.drop v9.toNat p0.aGn))⟩:M.aE)).bind λaq=>(if (!aq)=true then ((cK p0).bind λar=>(some (ar,false))) else (some ((⟨(((List.take v9.toNat p0.aGn)++[(⟨p1,p2⟩:M.Field)])++(List.drop v9.toNat p0.aGn))⟩:M.aE),true)))))))))))))) else ((An p0.aGn v9).bind λbh=>((app 24 ([]:List M.Field) (List.take v9.toNat p0.aGn)).bind λbj=>((app 24 (List.take v9.toNat p0.aGn) ([(⟨p1,p2⟩:M.Field)])).bind λbl=>((Cb p0.aGn v9).bind λbm=>((app 24 ((List.take v9.toNat p0.aGn)++[(⟨p1,p2⟩:M.Field)]) (List.drop v9.toNat p0.aGn)).bind λbn=>((bL p0).bind λav=>(if (!av)=true then ((cK p0).bind λaw=>(some (aw,false))) else ((bL (⟨(((List.take v9.toNat p0.aGn)++[(⟨p1,p2⟩:M.Field)])++(List.drop v9.toNat p0.aGn))⟩:M.aE)).bind λax=>(if (!ax)=true then ((cK p0).bind λay=>(some (ay,false))) else (some ((⟨(((List.take v9.toNat p0.aGn)++[(⟨p1,p2⟩:M.Field)])++(List.drop v9.toNat p0.aGn))⟩:M.aE),true)))))))))))
def iP (p0:M.aE) (p1:ByteArray) (p2:Int):Option (M.aE×Bool):=
 (cK p0).bind λx1=>(mM p0 p1 p2 x1 fuel 0)
def mY (p0:M.aN):Nat->Int->Int->Int->List M.Field->Option (Int×Int×M.aE)
 | 0,_,_,_,_=>none
 | aj+1,v4,aa,ae,af=>if (decide (v4>0))=true then ((dG (⟨p0.b,aa,ae⟩:M.aN)).bind λah=>((aF (⟨p0.b,ah.1,ah.2.1⟩:M.aN) 5).bind λai=>((iP (⟨af⟩:M.aE) ah.2.2 ai.2.2).bind λak=>(mY p0 aj (i64.wrap (v4-1)) ai.1 ai.2.1 ak.1.aGn)))) else (some (aa,ae,(⟨af⟩:M.aE)))
def kF (p0:M.aN):Option (Int×Int×M.aE):=
 (aF p0 4).bind λx4=>(mY p0 fuel x4.2.2 x4.1 x4.2.1 ([]:List M.Field))
def eB (p0:List Int) (p1:Int):Nat->Int->Int->Option (Int×Int×Bool)
 | 0,_,_=>none
 | aa+1,v7,v8=>if (decide (v8<6))=true then (if (decide (p1<0))=true then (some (0,0,false)) else (if (decide (p1>=(i64.wrap ((List.length p0:Int)-v8))))=true then (some (0,0,false)) else ((idx p0 (i64.wrap (p1+v8))).bind λx9=>(if (decide (0<=(i64.wrap (7*v8))))=true then (if (decide ((i64.wrap x9)<128))=true then (if ((i64.wrap x9)==0)=true then (if (decide (v8>0))=true then (some (0,0,false)) else (if (decide ((i64.wrap (BitVec.ofInt (IntKind.i64.bits) v7|||BitVec.ofInt (IntKind.i64.bits) (i64.wrap ((i64.wrap (BitVec.ofInt (IntKind.i64.bits) (i64.wrap x9)&&&BitVec.ofInt (IntKind.i64.bits) 127).toNat)*2^(min (i64.wrap (7*v8)).toNat IntKind.i64.bits)))).toNat)>1000000000000))=true then (some (0,0,false)) else (some ((i64.wrap (BitVec.ofInt (IntKind.i64.bits) v7|||BitVec.ofInt (IntKind.i64.bits) (i64.wrap ((i64.wrap (BitVec.ofInt (IntKind.i64.bits) (i64.wrap x9)&&&BitVec.ofInt (IntKind.i64.bits) 127).toNat)*2^(min (i64.wrap (7*v8)).toNat IntKind.i64.bits)))).toNat),(i64.wrap ((i64.wrap (p1+v8))+1)),true)))) else (if (decide ((i64.wrap (BitVec.ofInt (IntKind.i64.bits) v7|||BitVec.ofInt (IntKind.i64.bits) (i64.wrap ((i64.wrap (BitVec.ofInt (IntKind.i64.bits) (i64.wrap x9)&&&BitVec.ofInt (IntKind.i64.bits) 127).toNat)*2^(min (i64.wrap (7*v8)).toNat IntKind.i64.bits)))).toNat)>1000000000000))=true then (some (0,0,false)) else (some ((i64.wrap (BitVec.ofInt (IntKind.i64.bits) v7|||BitVec.ofInt (IntKind.i64.bits) (i64.wrap ((i64.wrap (BitVec.ofInt (IntKind.i64.bits) (i64.wrap x9)&&&BitVec.ofInt (IntKind.i64.bits) 127).toNat)*2^(min (i64.wrap (7*v8)).toNat IntKind.i64.bits)))).toNat),(i64.wrap ((i64.wrap (p1+v8))+1)),true)))) else (eB p0 p1 aa (i64.wrap (BitVec.ofInt (IntKind.i64.bits) v7|||BitVec.ofInt (IntKind.i64.bits) (i64.wrap ((i64.wrap (BitVec.ofInt (IntKind.i64.bits) (i64.wrap x9)&&&BitVec.ofInt (IntKind.i64.bits) 127).toNat)*2^(min (i64.wrap (7*v8)).toNat IntKind.i64.bits)))).toNat) (i64.wrap (v8+1)))) else none)))) else (some (0,0,false))
def fJ (p0:List Int) (p1:Int):Option (Int×Int×Bool):=
 eB p0 p1 fuel 0 0
def dX (p0:List Int) (p1:Int) (p2:Int):Option ((List Int)×Int×Bool):=
 (fJ p0 p1).bind λx1=>(if (!x1.2.2)=true then (some (([]:List Int),0,false)) else (if (decide (x1.1>p2))=true then (some (([]:List Int),0,false)) else (if (decide (x1.1>(i64.wrap ((List.length p0:Int)-x1.2.1))))=true then (some (([]:List Int),0,false)) else ((Uc p0 x1.2.1 (i64.wrap (x1.2.1+x1.1))).bind λx6=>((app 1 ([]:List Int) (List.drop x1.2.1.toNat (List.take (i64.wrap (x1.2.1+x1.1)).toNat p0))).bind λx8=>(some ((List.drop x1.2.1.toNat (List.take (i64.wrap (x1.2.1+x1.1)).toNat p0)),(i64.wrap (x1.2.1+x1.1)),true)))))))
def xB (p0:Int) (p1:List Int):Option Int:=
 (rL p1).bind λx1=>((app 8 ([101,p0]) x1).bind λx3=>((B6 ([101,p0]++x1)).bind λx5=>(some x5)))
def tK (p0:List Int):Nat->Int->List (List Int)->Option ((List (List Int))×Int)
 | 0,_,_=>none
 | ah+1,v5,aa=>if (decide (v5<(List.length p0:Int)))=true then ((dX p0 v5 4000).bind λae=>(if (!ae.2.2)=true then (some (aa,v5)) else ((fJ p0 ae.2.1).bind λaf=>(if (!af.2.2)=true then (some (aa,v5)) else ((xB (List.length aa:Int) ae.1).bind λai=>(if (af.1 != ai)=true then (some (aa,v5)) else ((app 24 aa ([ae.1])).bind λaj=>(tK p0 ah af.2.1 (aa++[ae.1]))))))))) else (some (aa,v5))
def AT (p0:List Int):Option ((List (List Int))×Int):=
 tK p0 fuel 0 ([]:List (List Int))
def lE (p0:List Int) (x2:Int):Nat->Int->Int->Option (M.Key×Bool)
 | 0,_,_=>none
 | aa+1,v6,v7=>if (decide (v7<7))=true then ((idx p0 v7).bind λae=>(lE p0 x2 aa (i64.wrap (BitVec.ofInt (IntKind.i64.bits) (i64.wrap (v6*2^(min (8:Int).toNat IntKind.i64.bits)))|||BitVec.ofInt (IntKind.i64.bits) (i64.wrap ae)).toNat) (i64.wrap (v7+1)))) else ((Cb p0 7).bind λah=>((toStr (List.drop (7:Int).toNat p0)).bind λai=>((fP (⟨(i64.wrap x2),(i64.wrap (v6-1000000000000)),(dH (List.drop (7:Int).toNat p0))⟩:M.Key)).bind λaf=>(if (!af)=true then (some ((⟨0,0,(⟨#[]⟩:ByteArray)⟩:M.Key),false)) else (some ((⟨(i64.wrap x2),(i64.wrap (v6-1000000000000)),(dH (List.drop (7:Int).toNat p0))⟩:M.Key),true))))))
def uQ (p0:List Int):Option (M.Key×Bool):=
 if ((List.length p0:Int)==0)=true then (some ((⟨0,0,(⟨#[]⟩:ByteArray)⟩:M.Key),false)) else ((idx p0 0).bind λx2=>(if ((i64.wrap x2) != 2)=true then (if (decide ((List.length p0:Int)<7))=true then (some ((⟨0,0,(⟨#[]⟩:ByteArray)⟩:M.Key),false)) else (lE p0 x2 fuel 0 1)) else ((Cb p0 1).bind λae=>((toStr (List.drop (1:Int).toNat p0)).bind λaf=>((fP (⟨(i64.wrap x2),0,(dH (List.drop (1:Int).toNat p0))⟩:M.Key)).bind λaa=>(if (!aa)=true then (some ((⟨0,0,(⟨#[]⟩:ByteArray)⟩:M.Key),false)) else (some ((⟨(i64.wrap x2),0,(dH (List.drop (1:Int).toNat p0))⟩:M.Key),true))))))))
def rT (p0:List Int) (x1:(Int×Int×Bool)):Nat->Int->Int->List M.Field->Option (M.aE×Int×Bool)
 | 0,_,_,_=>none
 | ah+1,v8,v11,aa=>if (decide (v11<x1.1))=true then ((dX p0 v8 8).bind λae=>(if (!ae.2.2)=true then (some ((⟨([]:List M.Field)⟩:M.aE),0,false)) else ((fJ p0 ae.2.1).bind λaf=>(if (!af.2.2)=true then (some ((⟨([]:List M.Field)⟩:M.aE),0,false)) else ((toStr ae.1).bind λaj=>((app 24 aa ([(⟨(dH ae.1),af.1⟩:M.Field)])).bind λak=>(rT p0 x1 ah af.2.1 (i64.wrap (v11+1)) (aa++[(⟨(dH ae.1),af.1⟩:M.Field)])))))))) else ((bL (⟨aa⟩:M.aE)).bind λai=>(some ((⟨aa⟩:M.aE),v8,ai)))
def CS (p0:List Int) (p1:Int):Option (M.aE×Int×Bool):=
 (fJ p0 p1).bind λx1=>(if (!x1.2.2)=true then (some ((⟨([]:List M.Field)⟩:M.aE),0,false)) else (if (decide (x1.1>6))=true then (some ((⟨([]:List M.Field)⟩:M.aE),0,false)) else (rT p0 x1 fuel x1.2.1 0 ([]:List M.Field))))
def oZ (p0:List Int):Option (M.aE×Bool):=
 (CS p0 0).bind λx1=>(if (!x1.2.2)=true then (some ((⟨([]:List M.Field)⟩:M.aE),false)) else (if (x1.2.1 != (List.length p0:Int))=true then (some ((⟨([]:List M.Field)⟩:M.aE),false)) else (some (x1.1,true))))
def Bu (p0:List Int) (p1:Int):Option (M.Op×Int×Bool):=
 (fJ p0 p1).bind λx1=>((dX p0 x1.2.1 100).bind λx3=>((dX p0 x3.2.1 100).bind λx5=>((dX p0 x5.2.1 200).bind λx7=>((dX p0 x7.2.1 100).bind λx9=>(if (!x1.2.2)=true then (some ((⟨0,(⟨#[]⟩:ByteArray),(⟨0,0,(⟨#[]⟩:ByteArray)⟩:M.Key),(⟨([]:List M.Field)⟩:M.aE),(⟨#[]⟩:ByteArray)⟩:M.Op),0,false)) else (if (!x3.2.2)=true then (some ((⟨0,(⟨#[]⟩:ByteArray),(⟨0,0,(⟨#[]⟩:ByteArray)⟩:M.Key),(⟨([]:List M.Field)⟩:M.aE),(⟨#[]⟩:ByteArray)⟩:M.Op),0,false)) else (if (!x5.2.2)=true then (some ((⟨0,(⟨#[]⟩:ByteArray),(⟨0,0,(⟨#[]⟩:ByteArray)⟩:M.Key),(⟨([]:List M.Field)⟩:M.aE),(⟨#[]⟩:ByteArray)⟩:M.Op),0,false)) else (if (!x7.2.2)=true then (some ((⟨0,(⟨#[]⟩:ByteArray),(⟨0,0,(⟨#[]⟩:ByteArray)⟩:M.Key),(⟨([]:List M.Field)⟩:M.aE),(⟨#[]⟩:ByteArray)⟩:M.Op),0,false)) else (if (!x9.2.2)=true then (some ((⟨0,(⟨#[]⟩:ByteArray),(⟨0,0,(⟨#[]⟩:ByteArray)⟩:M.Key),(⟨([]:List M.Field)⟩:M.aE),(⟨#[]⟩:ByteArray)⟩:M.Op),0,false)) else ((toStr x3.1).bind λaf=>((toStr x9.1).bind λah=>((uQ x5.1).bind λaa=>((oZ x7.1).bind λae=>(some ((⟨x1.1,(dH x3.1),aa.1,ae.1,(dH x9.1)⟩:M.Op),x9.2.1,true)))))))))))))))
def B9 (p0:M.Op):Option Bool:=
 (bA p0.aG7 1 6).bind λx1=>(if x1=true then ((cA p0.aD).bind λx4=>(if x4=true then (if (p0.aG7==5)=true then ((bL p0.aE).bind λx8=>(if x8=true then (if (p0.aG7==6)=true then ((cA p0.Field).bind λaa=>(if aa=true then (some true) else (if (p0.aG7 != 6)=true then (some (p0.Field.toList==(⟨#[]⟩:ByteArray).toList)) else (some false)))) else (if (p0.aG7 != 6)=true then (some (p0.Field.toList==(⟨#[]⟩:ByteArray).toList)) else (some false))) else (some false))) else ((fP p0.Key).bind λae=>(if ae=true then ((bL p0.aE).bind λaf=>(if af=true then (if (p0.aG7==6)=true then ((cA p0.Field).bind λah=>(if ah=true then (some true) else (if (p0.aG7 != 6)=true then (some (p0.Field.toList==(⟨#[]⟩:ByteArray).toList)) else (some false)))) else (if (p0.aG7 != 6)=true then (some (p0.Field.toList==(⟨#[]⟩:ByteArray).toList)) else (some false))) else (some false))) else (some false)))) else (some false))) else (some false))
def oM (p0:List M.Op):Nat->Int->List Int->Option (List Int)
 | 0,_,_=>none
 | af+1,v4,aa=>if (decide (v4<(List.length p0:Int)))=true then ((idx p0 v4).bind λae=>((B9 ae).bind λah=>(if (!ah)=true then (some ([]:List Int)) else ((bS aa ae.aG7).bind λai=>((bQ ai (bR ae.aD)).bind λaj=>((kT ae.Key).bind λak=>((bQ aj ak).bind λal=>((gG ae.aE).bind λao=>((bQ al ao).bind λaq=>((bQ aq (bR ae.Field)).bind λar=>(oM p0 af (i64.wrap (v4+1)) ar))))))))))) else (if (decide ((List.length p0:Int)>6))=true then (some ([]:List Int)) else (some aa))
def uR (p0:List M.Op):Option (List Int):=
 (bS ([]:List Int) (List.length p0:Int)).bind λx1=>(oM p0 fuel 0 x1)
def lK (p0:List Int) (x1:(Int×Int×Bool)):Nat->Int->Int->List M.Op->Option ((List M.Op)×Bool)
 | 0,_,_,_=>none
 | af+1,v5,v8,aa=>if (decide (v8<x1.1))=true then ((Bu p0 v5).bind λae=>(if (!ae.2.2)=true then (some (([]:List M.Op),false)) else ((app 96 aa ([ae.1])).bind λaj=>(lK p0 x1 af ae.2.1 (i64.wrap (v8+1)) (aa++[ae.1]))))) else ((uR aa).bind λah=>((tE ah p0).bind λai=>(if (!ai)=true then (some (([]:List M.Op),false)) else (some (aa,true)))))
def uP (p0:List Int):Option ((List M.Op)×Bool):=
 (fJ p0 0).bind λx1=>(if (!x1.2.2)=true then (some (([]:List M.Op),false)) else (if (decide (x1.1>6))=true then (some (([]:List M.Op),false)) else (lK p0 x1 fuel x1.2.1 0 ([]:List M.Op))))
def nH (p0:M.aD) (p1:M.Key):Nat->Int->Option Int
 | 0,_=>none
 | aa+1,v5=>if (decide (v5<(List.length p0.aGk:Int)))=true then ((idx p0.aGk v5).bind λx8=>(if ((x8.Key.aG7==p1.aG7)&&((x8.Key.N==p1.N)&&(x8.Key.aHG.toList==p1.aHG.toList)))=true then (some v5) else (nH p0 p1 aa (i64.wrap (v5+1))))) else (some (-1))
def mW (p0:M.aD) (p1:M.Key):Option Int:=
 nH p0 p1 fuel 0
def oY (p0:M.aD) (p1:M.Key) (p2:M.aE) (aa:M.aD):Nat->Int->Option (M.aD×Bool)
 | 0,_=>none
 | aj+1,v10=>if (decide (v10<(List.length p0.aGk:Int)))=true then ((idx p0.aGk v10).bind λak=>((bI ak.Key p1).bind λal=>(if (decide (al<0))=true then (oY p0 p1 p2 aa aj (i64.wrap (v10+1))) else ((An aa.aGk v10).bind λaw=>((app 56 ([]:List M.aG1) (List.take v10.toNat aa.aGk)).bind λax=>((cK p2).bind λaf=>((app 56 (List.take v10.toNat aa.aGk) ([(⟨p1,af⟩:M.aG1)])).bind λay=>((app 56 ((List.take v10.toNat aa.aGk)++[(⟨p1,af⟩:M.aG1)]) (List.drop v10.toNat aa.aGk)).bind λaz=>(if (p1.aG7==1)=true then ((bA p1.N (i64.wrap (p0.aHD+1)) 1000000).bind λah=>(if ah=true then (some ((⟨aa.Name,(((List.take v10.toNat aa.aGk)++[(⟨p1,af⟩:M.aG1)])++(List.drop v10.toNat aa.aGk)),p1.N⟩:M.aD),true)) else (some ((⟨aa.Name,(((List.take v10.toNat aa.aGk)++[(⟨p1,af⟩:M.aG1)])++(List.drop v10.toNat aa.aGk)),aa.aHD⟩:M.aD),true)))) else (some ((⟨aa.Name,(((List.take v10.toNat aa.aGk)++[(⟨p1,af⟩:M.aG1)])++(List.drop v10.toNat aa.aGk)),aa.aHD⟩:M.aD),true))))))))))) else ((An aa.aGk v10).bind λao=>((app 56 ([]:List M.aG1) (List.take v10.toNat aa.aGk)).bind λaq=>((cK p2).bind λae=>((app 56 (List.take v10.toNat aa.aGk) ([(⟨p1,ae⟩:M.aG1)])).bind λar=>((app 56 ((List.take v10.toNat aa.aGk)++[(⟨p1,ae⟩:M.aG1)]) (List.drop v10.toNat aa.aGk)).bind λav=>(if (p1.aG7==1)=true then ((bA p1.N (i64.wrap (p0.aHD+1)) 1000000).bind λai=>(if ai=true then (some ((⟨aa.Name,(((List.take v10.toNat aa.aGk)++[(⟨p1,ae⟩:M.aG1)])++(List.drop v10.toNat aa.aGk)),p1.N⟩:M.aD),true)) else (some ((⟨aa.Name,(((List.take v10.toNat aa.aGk)++[(⟨p1,ae⟩:M.aG1)])++(List.drop v10.toNat aa.aGk)),aa.aHD⟩:M.aD),true)))) else (some ((⟨aa.Name,(((List.take v10.toNat aa.aGk)++[(⟨p1,ae⟩:M.aG1)])++(List.drop v10.toNat aa.aGk)),aa.aHD⟩:M.aD),true))))))))
def eF (p0:M.aD) (p1:M.Key) (p2:M.aE):Option (M.aD×Bool):=
 (mL p0).bind λx1=>(if (!x1)=true then ((bZ p0).bind λx4=>(some (x4,false))) else ((fP p1).bind λx6=>(if (!x6)=true then ((bZ p0).bind λx9=>(some (x9,false))) else ((bL p2).bind λaf=>(if (!af)=true then ((bZ p0).bind λah=>(some (ah,false))) else ((bZ p0).bind λaa=>((mW p0 p1).bind λae=>(if (decide (ae>=0))=true then ((cK p2).bind λai=>((idx aa.aGk ae).bind λaj=>(some ((⟨aa.Name,(List.set aa.aGk ae.toNat (⟨aj.Key,ai⟩:M.aG1)),aa.aHD⟩:M.aD),true)))) else (if (decide ((List.length p0.aGk:Int)>=16))=true then (some (aa,false)) else (oY p0 p1 p2 aa fuel 0))))))))))
def zH (p0:M.aD) (p1:M.Key) (p2:M.aE):Option (M.aD×Bool):=
 (mW p0 p1).bind λx1=>(if (decide (x1>=0))=true then ((bZ p0).bind λx4=>(some (x4,false))) else ((eF p0 p1 p2).bind λx6=>(some (x6.1,x6.2))))
def yT (p0:M.Key) (p1:M.gK):Option Bool:=
 (fP p0).bind λx1=>(if (!x1)=true then (some false) else (if p1.aHe=true then ((fP p1.Low).bind λx5=>(if (!x5)=true then (some false) else (if p1.aHU=true then ((fP p1.aHZ).bind λx9=>(if (!x9)=true then (some false) else (if (!p1.aHe)=true then (if (!p1.aHU)=true then (some true) else ((bI p0 p1.aHZ).bind λaa=>(some (decide (aa<=0))))) else ((bI p1.Low p0).bind λae=>(if (decide (ae<=0))=true then (if (!p1.aHU)=true then (some true) else ((bI p0 p1.aHZ).bind λaf=>(some (decide (af<=0))))) else (some false)))))) else (if (!p1.aHe)=true then (if (!p1.aHU)=true then (some true) else ((bI p0 p1.aHZ).bind λah=>(some (decide (ah<=0))))) else ((bI p1.Low p0).bind λai=>(if (decide (ai<=0))=true then (if (!p1.aHU)=true then (some true) else ((bI p0 p1.aHZ).bind λaj=>(some (decide (aj<=0))))) else (some false))))))) else (if p1.aHU=true then ((fP p1.aHZ).bind λak=>(if (!ak)=true then (some false) else (if (!p1.aHe)=true then (if (!p1.aHU)=true then (some true) else ((bI p0 p1.aHZ).bind λal=>(some (decide (al<=0))))) else ((bI p1.Low p0).bind λao=>(if (decide (ao<=0))=true then (if (!p1.aHU)=true then (some true) else ((bI p0 p1.aHZ).bind λaq=>(some (decide (aq<=0))))) else (some false)))))) else (if (!p1.aHe)=true then (if (!p1.aHU)=true then (some true) else ((bI p0 p1.aHZ).bind λar=>(some (decide (ar<=0))))) else ((bI p1.Low p0).bind λav=>(if (decide (av<=0))=true then (if (!p1.aHU)=true then (some true) else ((bI p0 p1.aHZ).bind λaw=>(some (decide (aw<=0))))) else (some false)))))))
def iK (p0:M.aD) (p1:M.gK):Nat->Int->List M.aG1->Option (M.aD×Int)
 | 0,_,_=>none
 | ae+1,v7,aa=>if (decide (v7<(List.length p0.aGk:Int)))=true then ((idx p0.aGk v7).bind λaf=>((yT af.Key p1).bind λai=>(if (!ai)=true then ((yC af).bind λah=>((app 56 aa ([ah])).bind λaj=>(iK p0 p1 ae (i64.wrap (v7+1)) (aa++[ah])))) else (iK p0 p1 ae (i64.wrap (v7+1)) aa)))) else (some ((⟨p0.Name,aa,p0.aHD⟩:M.aD),(i64.wrap ((List.length p0.aGk:Int)-(List.length aa:Int)))))
def rM (p0:M.aD) (p1:M.gK):Option (M.aD×Int):=
 (mL p0).bind λx1=>(if (!x1)=true then ((bZ p0).bind λx4=>(some (x4,0))) else (iK p0 p1 fuel 0 ([]:List M.aG1)))
def Co (p0:M.aD) (p1:M.Key) (p2:ByteArray):Option (M.aD×Int×Bool):=
 (mW p0 p1).bind λx1=>(if (decide (x1>=0))=true then ((idx p0.aGk x1).bind λx4=>((kO x4.aE p2).bind λx9=>((iP x4.aE p2 (i64.wrap (x9.1+1))).bind λah=>((eF p0 p1 ah.1).bind λaa=>(if ah.2=true then (some (aa.1,(i64.wrap (x9.1+1)),aa.2)) else (some (aa.1,(i64.wrap (x9.1+1)),false))))))) else ((kO (⟨([]:List M.Field)⟩:M.aE) p2).bind λae=>((iP (⟨([]:List M.Field)⟩:M.aE) p2 (i64.wrap (ae.1+1))).bind λai=>((eF p0 p1 ai.1).bind λaf=>(if ai.2=true then (some (af.1,(i64.wrap (ae.1+1)),af.2)) else (some (af.1,(i64.wrap (ae.1+1)),false)))))))
def A0 (p0:M.aD) (p1:M.Op):Option (M.aD×Int×Bool):=
 if (p1.aG7==1)=true then ((eF p0 p1.Key p1.aE).bind λx2=>(some (x2.1,1,x2.2))) else (if (p1.aG7==2)=true then ((zH p0 p1.Key p1.aE).bind λx5=>(some (x5.1,1,x5.2))) else (if (p1.aG7==3)=true then ((rM p0 (⟨true,true,p1.Key,p1.Key⟩:M.gK)).bind λx8=>(some (x8.1,x8.2,true))) else (if (p1.aG7==4)=true then ((mW p0 p1.Key).bind λae=>(if (decide (ae<0))=true then ((bZ p0).bind λah=>(some (ah,(-1),true))) else ((bZ p0).bind λai=>((idx p0.aGk ae).bind λaj=>(some (ai,(List.length aj.aE.aGn:Int),true)))))) else (if (p1.aG7==5)=true then ((rM p0 (⟨false,false,(⟨0,0,(⟨#[]⟩:ByteArray)⟩:M.Key),(⟨0,0,(⟨#[]⟩:ByteArray)⟩:M.Key)⟩:M.gK)).bind λaf=>(some (af.1,af.2,true))) else ((Co p0 p1.Key p1.Field).bind λaa=>(some (aa.1,aa.2.1,aa.2.2)))))))
def Bm (p0:M.aGh) (p1:M.Op):Option (M.aGh×Int×Bool):=
 (eR p0).bind λx1=>((rO p0 p1.aD).bind λx3=>((cD p0).bind λx5=>(if (!x5)=true then (some (x1,0,false)) else ((B9 p1).bind λx8=>(if (!x8)=true then (some (x1,0,false)) else (if (decide (x3<0))=true then (some (x1,0,false)) else ((idx p0.aGq x3).bind λae=>((A0 ae p1).bind λaa=>((idx x1.aGq x3).bind λaj=>(if (!aa.2.2)=true then ((eR p0).bind λaf=>(some (af,0,false))) else ((cD (⟨x1.Name,x1.aGg,(List.set x1.aGq x3.toNat aa.1),x1.aG3⟩:M.aGh)).bind λah=>(if (!ah)=true then ((eR p0).bind λai=>(some (ai,0,false))) else (some ((⟨x1.Name,x1.aGg,(List.set x1.aGq x3.toNat aa.1),x1.aG3⟩:M.aGh),aa.2.1,true))))))))))))))
def uS (p0:M.aGh) (p1:List M.Op):Nat->Int->ByteArray->Int->List Int->List M.aD->List M.aO->Option (M.aGh×(List Int)×Bool)
 | 0,_,_,_,_,_,_=>none
 | ak+1,v9,ah,ai,aj,aa,ae=>if (decide (v9<(List.length p1:Int)))=true then ((idx p1 v9).bind λal=>((Bm (⟨ah,ai,aa,ae⟩:M.aGh) al).bind λaf=>(if (!af.2.2)=true then ((eR p0).bind λao=>(some (ao,([]:List Int),false))) else ((app 8 aj ([af.2.1])).bind λaq=>(uS p0 p1 ak (i64.wrap (v9+1)) af.1.Name af.1.aGg (aj++[af.2.1]) af.1.aGq af.1.aG3))))) else (some ((⟨ah,ai,aa,ae⟩:M.aGh),aj,true))
def yG (p0:M.aGh) (p1:List M.Op):Option (M.aGh×(List Int)×Bool):=
 (eR p0).bind λx1=>((cD p0).bind λaa=>(if (!aa)=true then (some (x1,([]:List Int),false)) else (if (decide ((List.length p1:Int)>6))=true then (some (x1,([]:List Int),false)) else (uS p0 p1 fuel 0 x1.Name x1.aGg ([]:List Int) x1.aGq x1.aG3))))
def rG (x3:((List (List Int))×Int)):Nat->Int->ByteArray->Int->List M.aD->List M.aO->Option (M.aGh×Int)
 | 0,_,_,_,_,_=>none
 | ak+1,v7,af,ah,aa,ae=>if (decide (v7<(List.length x3.1:Int)))=true then ((idx x3.1 v7).bind λal=>((uP al).bind λaj=>(if (!aj.2)=true then (some ((⟨af,ah,aa,ae⟩:M.aGh),v7)) else ((yG (⟨af,ah,aa,ae⟩:M.aGh) aj.1).bind λai=>(rG x3 ak (i64.wrap (v7+1)) ai.1.Name ai.1.aGg ai.1.aGq ai.1.aG3))))) else (some ((⟨af,ah,aa,ae⟩:M.aGh),(List.length x3.1:Int)))
def Ab (p0:M.bW):Option (M.aGh×Int):=
 (eR p0.aG4).bind λx1=>((AT p0.Log).bind λx3=>(rG x3 fuel 0 x1.Name x1.aGg x1.aGq x1.aG3))
def uX (p0:List Int) (p1:Int) (p2:List Int):Option ((List Int)×Bool):=
 (app 1 ([]:List Int) p0).bind λx1=>((bQ p0 p2).bind λx8=>((xB p1 p2).bind λae=>((bS x8 ae).bind λaa=>(if (decide (p1<0))=true then (some (p0,false)) else (if (decide ((List.length aa:Int)>4000))=true then (some (p0,false)) else (some (aa,true)))))))
def oD (p0:M.bW) (p1:List M.Op):Option (M.bW×Bool):=
 (zG p0).bind λx1=>((Ab p0).bind λx3=>((yG x3.1 p1).bind λx5=>((uR p1).bind λx7=>(if (!x5.2.2)=true then (some (x1,false)) else (if ((List.length x7:Int)==0)=true then (some (x1,false)) else (if (x3.2 != p0.aHM)=true then (some (x1,false)) else ((uX p0.Log p0.aHM x7).bind λaa=>(if (!aa.2)=true then (some (x1,false)) else (some ((⟨x1.aG4,aa.1,(i64.wrap (p0.aHM+1))⟩:M.bW),true))))))))))
def iL (p0:M.aM) (p1:M.Key) (p2:ByteArray) (p3:Int):Option (M.aM×Bool):=
 (sX p0).bind λx1=>((iN p0).bind λx3=>(if (!x3)=true then (some (x1,false)) else ((app 72 x1.aG0 ([(⟨p0.aGp,p0.aHH,p1,p2,p3⟩:M.bC)])).bind λx6=>((iN (⟨x1.aGp,(i64.wrap (p0.aHH+1)),(x1.aG0++[(⟨p0.aGp,p0.aHH,p1,p2,p3⟩:M.bC)])⟩:M.aM)).bind λaa=>(if (!aa)=true then ((sX p0).bind λae=>(some (ae,false))) else (some ((⟨x1.aGp,(i64.wrap (p0.aHH+1)),(x1.aG0++[(⟨p0.aGp,p0.aHH,p1,p2,p3⟩:M.bC)])⟩:M.aM),true)))))))
def lA (p0:M.aD) (p1:M.bC):Option (M.aD×Bool):=
 (mW p0 p1.Key).bind λx1=>(if (decide (x1>=0))=true then ((idx p0.aGk x1).bind λx4=>((iP x4.aE p1.Field p1.N).bind λx9=>(if (!x9.2)=true then ((bZ p0).bind λah=>(some (ah,false))) else ((eF p0 p1.Key x9.1).bind λaa=>(some (aa.1,aa.2)))))) else ((iP (⟨([]:List M.Field)⟩:M.aE) p1.Field p1.N).bind λae=>(if (!ae.2)=true then ((bZ p0).bind λai=>(some (ai,false))) else ((eF p0 p1.Key ae.1).bind λaf=>(some (af.1,af.2))))))
def jT (p1:List M.bC):Nat->Int->ByteArray->Int->List M.aG1->Option M.aD
 | 0,_,_,_,_=>none
 | ai+1,v6,ae,af,aa=>if (decide (v6<(List.length p1:Int)))=true then ((idx p1 v6).bind λaj=>((lA (⟨ae,aa,af⟩:M.aD) aj).bind λah=>(if ah.2=true then (jT p1 ai (i64.wrap (v6+1)) ah.1.Name ah.1.aHD ah.1.aGk) else (jT p1 ai (i64.wrap (v6+1)) ae af aa)))) else (some (⟨ae,aa,af⟩:M.aD))
def xN (p0:M.aD) (p1:List M.bC):Option M.aD:=
 (bZ p0).bind λx1=>(jT p1 fuel 0 x1.Name x1.aHD x1.aGk)
def AE (p0:M.aH):Option M.aD:=
 (xN p0.aG4 p0.aG5.aM.aG0).bind λx1=>(some x1)
def mA (p0:M.aH) (p1:M.Key) (p2:ByteArray) (p3:Int):Option (M.aH×Bool):=
 (wS p0).bind λx1=>((iL p0.aG5.aM p1 p2 p3).bind λx3=>((AE p0).bind λx5=>((lA x5 (⟨0,0,p1,p2,p3⟩:M.bC)).bind λx7=>((nO p0).bind λx9=>(if (!x9)=true then (some (x1,false)) else (if (!x3.2)=true then (some (x1,false)) else (if (!x7.2)=true then (some (x1,false)) else (some ((⟨x1.aG4,x1.aHS,(⟨x3.1,x1.aG5.aHL,x1.aG5.aHB⟩:M.aG5)⟩:M.aH),true)))))))))
def fZ (p0:M.aN) (az:(M.aG×Bool)) (bh:ByteArray) (bj:Int) (ba:Int) (aw:List M.aD) (ax:List M.aO) (ay:List Int):Nat->Int->ByteArray->Int->Int->Int->Int->Int->Int->Int->Int->List M.aG1->List M.bC->Option (Int×Int×M.aG)
 | 0,_,_,_,_,_,_,_,_,_,_,_,_=>none
 | bw+1,bd,ai,aj,ak,al,ao,aq,ar,aa,ae,af,ah=>if (decide (bd>0))=true then ((dR (⟨p0.b,aa,ae⟩:M.aN)).bind λbl=>((dG (⟨p0.b,bl.1,bl.2.1⟩:M.aN)).bind λbm=>((aF (⟨p0.b,bm.1,bm.2.1⟩:M.aN) 6).bind λbn=>((mA (⟨(⟨ai,af,aj⟩:M.aD),ak,(⟨(⟨al,ao,ah⟩:M.aM),aq,ar⟩:M.aG5)⟩:M.aH) bl.2.2 bm.2.2 bn.2.2).bind λav=>(fZ p0 az bh bj ba aw ax ay bw (i64.wrap (bd-1)) av.1.aG4.Name av.1.aG4.aHD av.1.aHS av.1.aG5.aM.aGp av.1.aG5.aM.aHH av.1.aG5.aHL av.1.aG5.aHB bn.1 bn.2.1 av.1.aG4.aGk av.1.aG5.aM.aG0))))) else ((bG (⟨p0.b,aa,ae⟩:M.aN) 2).bind λbf=>(if bf.2.2=true then ((aF (⟨p0.b,bf.1,bf.2.1⟩:M.aN) 3).bind λbg=>((kY az.1.aGi (i64.wrap (1+bg.2.2))).bind λbu=>((aF (⟨p0.b,bg.1,bg.2.1⟩:M.aN) 50).bind λbo=>((bG (⟨p0.b,bo.1,bo.2.1⟩:M.aN) 4).bind λbq=>(some (bq.1,bq.2.1,(⟨az.1.aGl,az.1.Top,(⟨az.1.aGf.aGl,az.1.aGf.aG6,az.1.aGf.aHC,(i64.wrap (1+bg.2.2))⟩:M.aGf),bu.1,(⟨(⟨bh,bj,aw,ax⟩:M.aGh),ay,ba⟩:M.bW),(⟨(⟨ai,af,aj⟩:M.aD),ak,(⟨(⟨al,ao,ah⟩:M.aM),aq,ar⟩:M.aG5)⟩:M.aH),bo.2.2,bq.2.2⟩:M.aG))))))) else ((aF (⟨p0.b,bf.1,bf.2.1⟩:M.aN) 50).bind λbr=>((bG (⟨p0.b,br.1,br.2.1⟩:M.aN) 4).bind λbt=>(some (bt.1,bt.2.1,(⟨az.1.aGl,az.1.Top,az.1.aGf,az.1.aGi,(⟨(⟨bh,bj,aw,ax⟩:M.aGh),ay,ba⟩:M.bW),(⟨(⟨ai,af,aj⟩:M.aD),ak,(⟨(⟨al,ao,ah⟩:M.aM),aq,ar⟩:M.aG5)⟩:M.aH),br.2.2,bt.2.2⟩:M.aG)))))))
def gC (p0:M.aN) (af:(M.aG×Bool)):Nat->Int->ByteArray->Int->Int->Int->Int->List M.aD->List M.aO->List Int->Option (Int×Int×M.aG)
 | 0,_,_,_,_,_,_,_,_,_=>none
 | ax+1,v7,aq,ar,ak,aa,ae,ah,ai,aj=>if (decide (v7>0))=true then ((dR (⟨p0.b,aa,ae⟩:M.aN)).bind λav=>((kF (⟨p0.b,av.1,av.2.1⟩:M.aN)).bind λaw=>((oD (⟨(⟨aq,ar,ah,ai⟩:M.aGh),aj,ak⟩:M.bW) ([(⟨1,(⟨#[110,111,116,101,115]⟩:ByteArray),av.2.2,aw.2.2,(⟨#[]⟩:ByteArray)⟩:M.Op)])).bind λao=>(gC p0 af ax (i64.wrap (v7-1)) ao.1.aG4.Name ao.1.aG4.aGg ao.1.aHM aw.1 aw.2.1 ao.1.aG4.aGq ao.1.aG4.aG3 ao.1.Log)))) else ((aF (⟨p0.b,aa,ae⟩:M.aN) 3).bind λal=>(fZ p0 af aq ar ak ah ai aj fuel al.2.2 af.1.aH.aG4.Name af.1.aH.aG4.aHD af.1.aH.aHS af.1.aH.aG5.aM.aGp af.1.aH.aG5.aM.aHH af.1.aH.aG5.aHL af.1.aH.aG5.aHB al.1 al.2.1 af.1.aH.aG4.aGk af.1.aH.aG5.aM.aG0))
def vF (p0:M.aN):Option (Int×Int×M.aG):=
 (kP p0).bind λx4=>(((bG (⟨p0.b,x4.1,x4.2.1⟩:M.aN) 3).bind λae=>(if ae.2.2=true then ((kP (⟨p0.b,ae.1,ae.2.1⟩:M.aN)).bind λaf=>(some (af.2.2,af.1,af.2.1))) else (some (x4.2.2,ae.1,ae.2.1)))).bind λah=>((aF (⟨p0.b,ah.2.1,ah.2.2⟩:M.aN) 3).bind λai=>((rN x4.2.2 ah.1 (i64.wrap (1+ai.2.2))).bind λaa=>((aF (⟨p0.b,ai.1,ai.2.1⟩:M.aN) 4).bind λaj=>(gC p0 aa fuel aj.2.2 aa.1.bW.aG4.Name aa.1.bW.aG4.aGg aa.1.bW.aHM aj.1 aj.2.1 aa.1.bW.aG4.aGq aa.1.bW.aG4.aG3 aa.1.bW.Log)))))
def xE (p0:M.aN):Option (Int×Int×Int):=
 (aF p0 9).bind λx4=>((bK (⟨p0.b,x4.1,x4.2.1⟩:M.aN) ([0,1,2,(-1),255,256,(-1000000000000),1000000000000,x4.2.2])).bind λx6=>(some (x6.1,x6.2.1,x6.2.2)))
def Br (p0:M.aN):Option (Int×Int×M.Key):=
 (eD p0 ([(⟨#[]⟩:ByteArray),(⟨#[97]⟩:ByteArray),(⟨#[97,98]⟩:ByteArray),(⟨#[98]⟩:ByteArray),(⟨#[122,57]⟩:ByteArray),(⟨#[97,98,99,100,101,102,103,104,105,106,107,108]⟩:ByteArray)])).bind λx4=>((aF (⟨p0.b,x4.1,x4.2.1⟩:M.aN) 3).bind λaa=>(if (aa.2.2==0)=true then (some (aa.1,aa.2.1,(⟨2,0,x4.2.2⟩:M.Key))) else (if (aa.2.2==1)=true then ((xE (⟨p0.b,aa.1,aa.2.1⟩:M.aN)).bind λae=>(some (ae.1,ae.2.1,(⟨3,ae.2.2,x4.2.2⟩:M.Key)))) else ((xE (⟨p0.b,aa.1,aa.2.1⟩:M.aN)).bind λaf=>(some (af.1,af.2.1,(⟨1,af.2.2,(⟨#[]⟩:ByteArray)⟩:M.Key)))))))
def oN (p0:M.aN):Nat->Int->ByteArray->Int->Int->Int->List M.aG1->Option (Int×Int×M.aD)
 | 0,_,_,_,_,_,_=>none
 | av+1,v6,ah,ai,aa,ae,af=>if (decide (v6>0))=true then ((dR (⟨p0.b,aa,ae⟩:M.aN)).bind λak=>((kF (⟨p0.b,ak.1,ak.2.1⟩:M.aN)).bind λal=>((eF (⟨ah,af,ai⟩:M.aD) ak.2.2 al.2.2).bind λao=>(oN p0 av (i64.wrap (v6-1)) ao.1.Name ao.1.aHD al.1 al.2.1 ao.1.aGk)))) else ((bG (⟨p0.b,aa,ae⟩:M.aN) 8).bind λaj=>(if aj.2.2=true then ((Br (⟨p0.b,aj.1,aj.2.1⟩:M.aN)).bind λaq=>((kF (⟨p0.b,aq.1,aq.2.1⟩:M.aN)).bind λar=>((eF (⟨ah,af,ai⟩:M.aD) aq.2.2 ar.2.2).bind λaw=>(some (ar.1,ar.2.1,aw.1))))) else (some (aj.1,aj.2.1,(⟨ah,af,ai⟩:M.aD)))))
def pI (p0:M.aN) (p1:ByteArray):Option (Int×Int×M.aD):=
 (bK p0 ([0,2,4,6])).bind λx5=>(oN p0 fuel x5.2.2 p1 0 x5.1 x5.2.1 ([]:List M.aG1))
def oF (p0:M.aGh) (p1:M.lD):Nat->Int->Option Int
 | 0,_=>none
 | aa+1,v5=>if (decide (v5<(List.length p0.aG3:Int)))=true then ((idx p0.aG3 v5).bind λx8=>(if (x8.aD.toList==p1.aD.toList)=true then (if (x8.Field.toList==p1.Field.toList)=true then (some v5) else (oF p0 p1 aa (i64.wrap (v5+1)))) else (oF p0 p1 aa (i64.wrap (v5+1))))) else (some (-1))
def Cn (p0:M.aGh) (p1:M.lD):Option Int:=
 oF p0 p1 fuel 0
def yN (p0:M.aGh) (p1:ByteArray) (ae:List M.aD):Nat->Int->List M.aO->Option M.aGh
 | 0,_,_=>none
 | ah+1,v7,aa=>if (decide (v7<(List.length p0.aG3:Int)))=true then ((idx p0.aG3 v7).bind λaf=>(if (!(af.aD.toList==p1.toList))=true then ((app 32 aa ([af])).bind λai=>(yN p0 p1 ae ah (i64.wrap (v7+1)) (aa++[af]))) else (yN p0 p1 ae ah (i64.wrap (v7+1)) aa))) else (some (⟨p0.Name,p0.aGg,ae,aa⟩:M.aGh))
def yX (p0:M.aGh) (p1:ByteArray):Nat->Int->List M.aD->Option M.aGh
 | 0,_,_=>none
 | ae+1,v6,aa=>if (decide (v6<(List.length p0.aGq:Int)))=true then ((idx p0.aGq v6).bind λaf=>(if (!(af.Name.toList==p1.toList))=true then ((bZ af).bind λah=>((app 48 aa ([ah])).bind λai=>(yX p0 p1 ae (i64.wrap (v6+1)) (aa++[ah])))) else (yX p0 p1 ae (i64.wrap (v6+1)) aa))) else (yN p0 p1 aa fuel 0 ([]:List M.aO))
def EG (p0:M.aGh) (p1:ByteArray):Option M.aGh:=
 yX p0 p1 fuel 0 ([]:List M.aD)
def nZ (p0:M.aGh) (p1:M.lD) (x1:M.aGh):Nat->Int->Option (M.aGh×Bool)
 | 0,_=>none
 | ai+1,v9=>(if (decide (v9<(List.length p0.aGq:Int)))=true then ((idx p0.aGq v9).bind λaj=>(some (Op.bytesLess aj.Name.toList p1.aD.toList))) else (some false)).bind λak=>(if ak=true then (nZ p0 p1 x1 ai (i64.wrap (v9+1))) else ((An x1.aGq v9).bind λal=>((app 48 ([]:List M.aD) (List.take v9.toNat x1.aGq)).bind λao=>((app 48 (List.take v9.toNat x1.aGq) ([(⟨p1.aD,([]:List M.aG1),0⟩:M.aD)])).bind λaq=>((app 48 ((List.take v9.toNat x1.aGq)++[(⟨p1.aD,([]:List M.aG1),0⟩:M.aD)]) (List.drop v9.toNat x1.aGq)).bind λar=>(((cD p0).bind λaa=>(if (!aa)=true then (some true) else ((cD (⟨x1.Name,x1.aGg,(((List.take v9.toNat x1.aGq)++[(⟨p1.aD,([]:List M.aG1),0⟩:M.aD)])++(List.drop v9.toNat x1.aGq)),x1.aG3⟩:M.aGh)).bind λae=>(some (!ae))))).bind λaf=>(if af=true then ((eR p0).bind λah=>(some (ah,false))) else (some ((⟨x1.Name,x1.aGg,(((List.take v9.toNat x1.aGq)++[(⟨p1.aD,([]:List M.aG1),0⟩:M.aD)])++(List.drop v9.toNat x1.aGq)),x1.aG3⟩:M.aGh),true)))))))))
def lP (p0:M.aGh) (p1:M.lD):Option (M.aGh×Bool):=
 (eR p0).bind λx1=>((rO p0 p1.aD).bind λx3=>((Cn p0 p1).bind λx5=>((if (p1.aG7==1)=true then (some (decide (x3<0))) else (some false)).bind λx7=>(if x7=true then (nZ p0 p1 x1 fuel 0) else ((if (p1.aG7==2)=true then (some (decide (x3>=0))) else (some false)).bind λae=>(if ae=true then ((EG p0 p1.aD).bind λaa=>(((cD p0).bind λaf=>(if (!af)=true then (some true) else ((cD aa).bind λah=>(some (!ah))))).bind λai=>(if ai=true then ((eR p0).bind λaj=>(some (aj,false))) else (some (aa,true))))) else ((if (p1.aG7==3)=true then (if (decide (x3>=0))=true then (some (decide (x5<0))) else (some false)) else (some false)).bind λak=>(if ak=true then ((app 32 x1.aG3 ([(⟨p1.aD,p1.Field⟩:M.aO)])).bind λba=>(((cD p0).bind λal=>(if (!al)=true then (some true) else ((cD (⟨x1.Name,x1.aGg,x1.aGq,(x1.aG3++[(⟨p1.aD,p1.Field⟩:M.aO)])⟩:M.aGh)).bind λao=>(some (!ao))))).bind λaq=>(if aq=true then ((eR p0).bind λar=>(some (ar,false))) else (some ((⟨x1.Name,x1.aGg,x1.aGq,(x1.aG3++[(⟨p1.aD,p1.Field⟩:M.aO)])⟩:M.aGh),true))))) else ((if (p1.aG7==4)=true then (some (decide (x5>=0))) else (some false)).bind λav=>(if av=true then ((An x1.aG3 x5).bind λbd=>((Cb x1.aG3 (i64.wrap (x5+1))).bind λbf=>((app 32 (List.take x5.toNat x1.aG3) (List.drop (i64.wrap (x5+1)).toNat x1.aG3)).bind λbg=>(((cD p0).bind λaw=>(if (!aw)=true then (some true) else ((cD (⟨x1.Name,x1.aGg,x1.aGq,((List.take x5.toNat x1.aG3)++(List.drop (i64.wrap (x5+1)).toNat x1.aG3))⟩:M.aGh)).bind λax=>(some (!ax))))).bind λay=>(if ay=true then ((eR p0).bind λaz=>(some (az,false))) else (some ((⟨x1.Name,x1.aGg,x1.aGq,((List.take x5.toNat x1.aG3)++(List.drop (i64.wrap (x5+1)).toNat x1.aG3))⟩:M.aGh),true))))))) else (some (x1,false))))))))))))
def BM (p0:M.aN):Option (Int×Int×M.aGh):=
 (pI p0 (⟨#[110,111,116,101,115]⟩:ByteArray)).bind λx4=>((pI (⟨p0.b,x4.1,x4.2.1⟩:M.aN) (⟨#[116,97,103,115]⟩:ByteArray)).bind λx6=>((aAL 48 ([x4.2.2,x6.2.2])).bind λx8=>((bG (⟨p0.b,x6.1,x6.2.1⟩:M.aN) 2).bind λaa=>(if aa.2.2=true then ((pI (⟨p0.b,aa.1,aa.2.1⟩:M.aN) (⟨#[108,105,115,116,115]⟩:ByteArray)).bind λae=>((app 48 ([ae.2.2]) ([x4.2.2,x6.2.2])).bind λao=>((bG (⟨p0.b,ae.1,ae.2.1⟩:M.aN) 3).bind λaf=>(if af.2.2=true then ((dG (⟨p0.b,af.1,af.2.1⟩:M.aN)).bind λai=>((lP (⟨(⟨#[97,112,112]⟩:ByteArray),1,([ae.2.2]++[x4.2.2,x6.2.2]),([]:List M.aO)⟩:M.aGh) (⟨3,(⟨#[110,111,116,101,115]⟩:ByteArray),ai.2.2⟩:M.lD)).bind λak=>(some (ai.1,ai.2.1,ak.1)))) else (some (af.1,af.2.1,(⟨(⟨#[97,112,112]⟩:ByteArray),1,([ae.2.2]++[x4.2.2,x6.2.2]),([]:List M.aO)⟩:M.aGh))))))) else ((bG (⟨p0.b,aa.1,aa.2.1⟩:M.aN) 3).bind λah=>(if ah.2.2=true then ((dG (⟨p0.b,ah.1,ah.2.1⟩:M.aN)).bind λaj=>((lP (⟨(⟨#[97,112,112]⟩:ByteArray),1,[x4.2.2,x6.2.2],([]:List M.aO)⟩:M.aGh) (⟨3,(⟨#[110,111,116,101,115]⟩:ByteArray),aj.2.2⟩:M.lD)).bind λal=>(some (aj.1,aj.2.1,al.1)))) else (some (ah.1,ah.2.1,(⟨(⟨#[97,112,112]⟩:ByteArray),1,[x4.2.2,x6.2.2],([]:List M.aO)⟩:M.aGh)))))))))
def Df (p0:M.aN):Option (Int×Int×M.Op):=
 (aF p0 6).bind λx4=>((eD (⟨p0.b,x4.1,x4.2.1⟩:M.aN) ([(⟨#[110,111,116,101,115]⟩:ByteArray),(⟨#[116,97,103,115]⟩:ByteArray),(⟨#[110,111,116,101,115]⟩:ByteArray),(⟨#[108,105,115,116,115]⟩:ByteArray)])).bind λx6=>((dR (⟨p0.b,x6.1,x6.2.1⟩:M.aN)).bind λx8=>(if ((i64.wrap (1+x4.2.2))==1)=true then ((kF (⟨p0.b,x8.1,x8.2.1⟩:M.aN)).bind λae=>(some (ae.1,ae.2.1,(⟨(i64.wrap (1+x4.2.2)),x6.2.2,x8.2.2,ae.2.2,(⟨#[]⟩:ByteArray)⟩:M.Op)))) else (if ((i64.wrap (1+x4.2.2))==2)=true then ((kF (⟨p0.b,x8.1,x8.2.1⟩:M.aN)).bind λaf=>(some (af.1,af.2.1,(⟨(i64.wrap (1+x4.2.2)),x6.2.2,x8.2.2,af.2.2,(⟨#[]⟩:ByteArray)⟩:M.Op)))) else (if ((i64.wrap (1+x4.2.2))==6)=true then ((dG (⟨p0.b,x8.1,x8.2.1⟩:M.aN)).bind λah=>(some (ah.1,ah.2.1,(⟨(i64.wrap (1+x4.2.2)),x6.2.2,x8.2.2,(⟨([]:List M.Field)⟩:M.aE),ah.2.2⟩:M.Op)))) else (if ((i64.wrap (1+x4.2.2))==5)=true then ((bG (⟨p0.b,x8.1,x8.2.1⟩:M.aN) 2).bind λaa=>(if aa.2.2=true then ((dR (⟨p0.b,aa.1,aa.2.1⟩:M.aN)).bind λai=>(some (ai.1,ai.2.1,(⟨1,x6.2.2,ai.2.2,(⟨([]:List M.Field)⟩:M.aE),(⟨#[]⟩:ByteArray)⟩:M.Op)))) else (some (aa.1,aa.2.1,(⟨(i64.wrap (1+x4.2.2)),x6.2.2,(⟨0,0,(⟨#[]⟩:ByteArray)⟩:M.Key),(⟨([]:List M.Field)⟩:M.aE),(⟨#[]⟩:ByteArray)⟩:M.Op))))) else (some (x8.1,x8.2.1,(⟨(i64.wrap (1+x4.2.2)),x6.2.2,x8.2.2,(⟨([]:List M.Field)⟩:M.aE),(⟨#[]⟩:ByteArray)⟩:M.Op)))))))))
def uI (p0:M.aN):Nat->Int->List M.Op->Int->Int->Option (Int×Int×(List M.Op))
 | 0,_,_,_,_=>none
 | ah+1,v6,r7,aa,ae=>if (decide (v6>0))=true then ((Df (⟨p0.b,aa,ae⟩:M.aN)).bind λaf=>((app 96 r7 ([af.2.2])).bind λai=>(uI p0 ah (i64.wrap (v6-1)) (r7++[af.2.2]) af.1 af.2.1))) else (some (aa,ae,r7))
def Cw (p0:M.aN) (p1:Int):Option (Int×Int×(List M.Op)):=
 (aF p0 (i64.wrap (p1+1))).bind λaa=>(uI p0 fuel aa.2.2 ([]:List M.Op) aa.1 aa.2.1)
def pE (p0:M.aN):Nat->Int->ByteArray->Int->Int->Int->Int->List M.aD->List M.aO->List Int->Option (Int×Int×M.bW)
 | 0,_,_,_,_,_,_,_,_,_=>none
 | ar+1,v4,ak,al,ao,aa,ae,af,ah,ai=>if (decide (v4>0))=true then ((Cw (⟨p0.b,aa,ae⟩:M.aN) 3).bind λaq=>((oD (⟨(⟨ak,al,af,ah⟩:M.aGh),ai,ao⟩:M.bW) aq.2.2).bind λaj=>(pE p0 ar (i64.wrap (v4-1)) aj.1.aG4.Name aj.1.aG4.aGg aj.1.aHM aq.1 aq.2.1 aj.1.aG4.aGq aj.1.aG4.aG3 aj.1.Log))) else (some (aa,ae,(⟨(⟨ak,al,af,ah⟩:M.aGh),ai,ao⟩:M.bW)))
def AY (p0:M.aN):Option (Int×Int×M.bW):=
 (BM p0).bind λx4=>((aF (⟨p0.b,x4.1,x4.2.1⟩:M.aN) 5).bind λaa=>(pE p0 fuel aa.2.2 x4.2.2.Name x4.2.2.aGg 0 aa.1 aa.2.1 x4.2.2.aGq x4.2.2.aG3 ([]:List Int)))
def BU (p0:M.aN) (p1:List Int):Option (Int×Int×(List Int)):=
 (app 1 ([]:List Int) p1).bind λx5=>((aF p0 6).bind λaa=>(if (aa.2.2==0)=true then (if (decide ((List.length p1:Int)>0))=true then ((aF (⟨p0.b,aa.1,aa.2.1⟩:M.aN) (List.length p1:Int)).bind λae=>((aF (⟨p0.b,ae.1,ae.2.1⟩:M.aN) 256).bind λai=>((idx p1 ae.2.2).bind λaj=>(some (ai.1,ai.2.1,(List.set p1 ae.2.2.toNat (IntKind.u8.wrap ai.2.2))))))) else (some (aa.1,aa.2.1,p1))) else (if (aa.2.2==1)=true then ((aF (⟨p0.b,aa.1,aa.2.1⟩:M.aN) (i64.wrap ((List.length p1:Int)+1))).bind λaf=>((An p1 af.2.2).bind λak=>(some (af.1,af.2.1,(List.take af.2.2.toNat p1))))) else (if (aa.2.2==2)=true then ((bK (⟨p0.b,aa.1,aa.2.1⟩:M.aN) ([0,1,128,255])).bind λah=>((app 1 p1 ([(IntKind.u8.wrap ah.2.2)])).bind λal=>(some (ah.1,ah.2.1,(p1++[(IntKind.u8.wrap ah.2.2)]))))) else (some (aa.1,aa.2.1,p1))))))
def BN (p0:M.aN):Option (Int×Int×M.bW):=
 (AY p0).bind λx4=>((aF (⟨p0.b,x4.1,x4.2.1⟩:M.aN) 10).bind λaa=>(if (aa.2.2==0)=true then (some (aa.1,aa.2.1,(⟨x4.2.2.aG4,x4.2.2.Log,(i64.wrap (x4.2.2.aHM+1))⟩:M.bW))) else (if (aa.2.2==1)=true then ((BU (⟨p0.b,aa.1,aa.2.1⟩:M.aN) x4.2.2.Log).bind λae=>(some (ae.1,ae.2.1,(⟨x4.2.2.aG4,ae.2.2,x4.2.2.aHM⟩:M.bW)))) else (if (aa.2.2==2)=true then ((uX x4.2.2.Log x4.2.2.aHM ([1,2])).bind λaf=>(some (aa.1,aa.2.1,(⟨x4.2.2.aG4,af.1,(i64.wrap (x4.2.2.aHM+1))⟩:M.bW)))) else (some (aa.1,aa.2.1,x4.2.2))))))
def tH (p0:M.aGr) (p1:Int):Nat->Int->Option Int
 | 0,_=>none
 | aa+1,v5=>if (decide (v5<(List.length p0.aP:Int)))=true then ((idx p0.aP v5).bind λx7=>(if (x7.aGp==p1)=true then (some x7.Seq) else (tH p0 p1 aa (i64.wrap (v5+1))))) else (some 0)
def wO (p0:M.aGr) (p1:Int):Option Int:=
 tH p0 p1 fuel 0
def tJ (p0:List M.aP) (p1:Int) (p2:Int):Nat->Int->Option (List M.aP)
 | 0,_=>none
 | ae+1,v8=>if (decide (v8<(List.length p0:Int)))=true then ((idx p0 v8).bind λaa=>(if (decide (aa.aGp<p1))=true then (tJ p0 p1 p2 ae (i64.wrap (v8+1))) else (if (aa.aGp==p1)=true then (some (List.set p0 v8.toNat (⟨aa.aGp,p2⟩:M.aP))) else ((An p0 v8).bind λaf=>((app 16 ([]:List M.aP) (List.take v8.toNat p0)).bind λah=>((app 16 (List.take v8.toNat p0) ([(⟨p1,p2⟩:M.aP)])).bind λai=>((Cb p0 v8).bind λaj=>((app 16 ((List.take v8.toNat p0)++[(⟨p1,p2⟩:M.aP)]) (List.drop v8.toNat p0)).bind λak=>(some (((List.take v8.toNat p0)++[(⟨p1,p2⟩:M.aP)])++(List.drop v8.toNat p0))))))))))) else ((An p0 v8).bind λal=>((app 16 ([]:List M.aP) (List.take v8.toNat p0)).bind λao=>((app 16 (List.take v8.toNat p0) ([(⟨p1,p2⟩:M.aP)])).bind λaq=>((Cb p0 v8).bind λar=>((app 16 ((List.take v8.toNat p0)++[(⟨p1,p2⟩:M.aP)]) (List.drop v8.toNat p0)).bind λav=>(some (((List.take v8.toNat p0)++[(⟨p1,p2⟩:M.aP)])++(List.drop v8.toNat p0))))))))
def AX (p0:List M.aP) (p1:Int) (p2:Int):Option (List M.aP):=
 (app 16 ([]:List M.aP) p0).bind λx1=>(tJ p0 p1 p2 fuel 0)
def cY (p0:M.aGr) (p1:M.bC):Option (M.aGr×Int):=
 (gP p0).bind λx1=>((pR p0).bind λx3=>(if (!x3)=true then (some (x1,4)) else ((jR p1).bind λx6=>(if (!x6)=true then (some (x1,4)) else ((AX p0.aP p1.aGp p1.Seq).bind λx9=>((wO p0 p1.aGp).bind λaa=>(if (decide ((List.length x9:Int)>60))=true then (some (x1,4)) else (if (decide (p1.Seq<=aa))=true then (some (x1,2)) else (if (decide (p1.Seq>(i64.wrap (aa+1))))=true then (some (x1,3)) else ((lA p0.aD p1).bind λae=>(if ae.2=true then ((app 72 x1.aG9 ([p1])).bind λaf=>(some ((⟨ae.1,x9,(x1.aG9++[p1])⟩:M.aGr),1))) else ((app 72 x1.aG9 ([p1])).bind λah=>(some ((⟨x1.aD,x9,(x1.aG9++[p1])⟩:M.aGr),1))))))))))))))
def lO (p0:M.aN):Nat->Int->ByteArray->Int->Int->Int->List M.aG1->List M.aP->List M.bC->Option (Int×Int×M.aGr)
 | 0,_,_,_,_,_,_,_,_=>none
 | aw+1,v4,aj,ak,aa,ae,af,ah,ai=>if (decide (v4>0))=true then ((aF (⟨p0.b,aa,ae⟩:M.aN) 3).bind λao=>((wO (⟨(⟨aj,af,ak⟩:M.aD),ah,ai⟩:M.aGr) (i64.wrap (1+ao.2.2))).bind λax=>((dR (⟨p0.b,ao.1,ao.2.1⟩:M.aN)).bind λaq=>((dG (⟨p0.b,aq.1,aq.2.1⟩:M.aN)).bind λar=>((aF (⟨p0.b,ar.1,ar.2.1⟩:M.aN) 6).bind λav=>((cY (⟨(⟨aj,af,ak⟩:M.aD),ah,ai⟩:M.aGr) (⟨(i64.wrap (1+ao.2.2)),(i64.wrap (ax+1)),aq.2.2,ar.2.2,av.2.2⟩:M.bC)).bind λal=>(lO p0 aw (i64.wrap (v4-1)) al.1.aD.Name al.1.aD.aHD av.1 av.2.1 al.1.aD.aGk al.1.aP al.1.aG9))))))) else (some (aa,ae,(⟨(⟨aj,af,ak⟩:M.aD),ah,ai⟩:M.aGr)))
def uY (p0:M.aN):Option (Int×Int×M.aGr):=
 (pI p0 (⟨#[110,111,116,101,115]⟩:ByteArray)).bind λx4=>((aF (⟨p0.b,x4.1,x4.2.1⟩:M.aN) 6).bind λaa=>(lO p0 fuel aa.2.2 x4.2.2.Name x4.2.2.aHD aa.1 aa.2.1 x4.2.2.aGk ([]:List M.aP) ([]:List M.bC)))
def xH (p0:M.aGr) (p1:Int):Option (M.aH×Bool):=
 (nQ p1).bind λx1=>((bZ p0.aD).bind λx3=>(if (!x1.2)=true then (some ((⟨(⟨(⟨#[]⟩:ByteArray),([]:List M.aG1),0⟩:M.aD),0,(⟨(⟨0,0,([]:List M.bC)⟩:M.aM),0,0⟩:M.aG5)⟩:M.aH),false)) else ((pR p0).bind λx6=>(if (!x6)=true then (some ((⟨(⟨(⟨#[]⟩:ByteArray),([]:List M.aG1),0⟩:M.aD),0,(⟨(⟨0,0,([]:List M.bC)⟩:M.aM),0,0⟩:M.aG5)⟩:M.aH),false)) else ((nO (⟨x3,(List.length p0.aG9:Int),(⟨x1.1,0,0⟩:M.aG5)⟩:M.aH)).bind λx9=>(if (!x9)=true then (some ((⟨(⟨(⟨#[]⟩:ByteArray),([]:List M.aG1),0⟩:M.aD),0,(⟨(⟨0,0,([]:List M.bC)⟩:M.aM),0,0⟩:M.aG5)⟩:M.aH),false)) else (some ((⟨x3,(List.length p0.aG9:Int),(⟨x1.1,0,0⟩:M.aG5)⟩:M.aH),true))))))))
def AD (p0:M.aM):Option (M.bC×Bool):=
 if ((List.length p0.aG0:Int)==0)=true then (some ((⟨0,0,(⟨0,0,(⟨#[]⟩:ByteArray)⟩:M.Key),(⟨#[]⟩:ByteArray),0⟩:M.bC),false)) else ((idx p0.aG0 0).bind λx2=>(some (x2,true)))
def oC (p0:M.aM) (p1:Int) (x1:M.aM):Nat->Int->Option (M.aM×Int)
 | 0,_=>none
 | aa+1,v7=>if (decide (v7<(List.length p0.aG0:Int)))=true then ((idx p0.aG0 v7).bind λae=>(if (decide (ae.Seq<=p1))=true then (oC p0 p1 x1 aa (i64.wrap (v7+1))) else ((Cb p0.aG0 v7).bind λaf=>((app 72 ([]:List M.bC) (List.drop v7.toNat p0.aG0)).bind λah=>(some ((⟨x1.aGp,x1.aHH,(List.drop v7.toNat p0.aG0)⟩:M.aM),v7)))))) else ((Cb p0.aG0 v7).bind λai=>((app 72 ([]:List M.bC) (List.drop v7.toNat p0.aG0)).bind λaj=>(some ((⟨x1.aGp,x1.aHH,(List.drop v7.toNat p0.aG0)⟩:M.aM),v7))))
def dA (p0:M.aM) (p1:Int):Option (M.aM×Int):=
 (sX p0).bind λx1=>((iN p0).bind λx3=>(if (!x3)=true then (some (x1,0)) else (oC p0 p1 x1 fuel 0)))
def iB (p0:Int) (p1:Int):Option Int:=
 if (decide (p1<p0))=true then (some p1) else (some p0)
def oT (p0:Int):Nat->Int->Int->Option Int
 | 0,_,_=>none
 | aa+1,v3,v4=>if (decide (v4<p0))=true then (if (decide (v3<64))=true then (oT p0 aa (i64.wrap (2*v3)) (i64.wrap (v4+1))) else (some v3)) else (some v3)
def iS (p0:Int):Option Int:=
 oT p0 fuel 1 0
def Ag (p0:M.aG5) (p1:M.aGr) (p2:Int) (p3:Int):Option (M.aG5×M.aGr×Int):=
 (wN p0).bind λx1=>((AD p0.aM).bind λx3=>(if (!x3.2)=true then ((gP p1).bind λx6=>(some (x1,x6,0))) else ((iN p0.aM).bind λx8=>(if (!x8)=true then ((gP p1).bind λbo=>(some (x1,bo,0))) else (if (decide (p2<p0.aHB))=true then ((gP p1).bind λbq=>(some (x1,bq,0))) else ((bA p2 0 1000000000000).bind λbr=>(if (!br)=true then ((gP p1).bind λbt=>(some (x1,bt,0))) else ((gP p1).bind λao=>(if (p3==0)=true then ((cY ao x3.1).bind λaf=>(if (p3==3)=true then ((cY af.1 x3.1).bind λah=>(if (ah.2==1)=true then ((dA p0.aM x3.1.Seq).bind λbu=>(some ((⟨bu.1,0,0⟩:M.aG5),ah.1,1))) else (if (ah.2==2)=true then ((dA p0.aM x3.1.Seq).bind λbw=>(some ((⟨bw.1,0,0⟩:M.aG5),ah.1,1))) else ((iB 59 p0.aHL).bind λbx=>((iB 60 (i64.wrap (bx+1))).bind λbl=>((iS bl).bind λbz=>(some ((⟨x1.aM,bl,(i64.wrap (p2+bz))⟩:M.aG5),ah.1,2)))))))) else (if (af.2==1)=true then ((dA p0.aM x3.1.Seq).bind λc9=>(some ((⟨c9.1,0,0⟩:M.aG5),af.1,1))) else (if (af.2==2)=true then ((dA p0.aM x3.1.Seq).bind λca=>(some ((⟨ca.1,0,0⟩:M.aG5),af.1,1))) else ((iB 59 p0.aHL).bind λcc=>((iB 60 (i64.wrap (cc+1))).bind λbm=>((iS bm).bind λcd=>(some ((⟨x1.aM,bm,(i64.wrap (p2+cd))⟩:M.aG5),af.1,2))))))))) else (if (p3==2)=true then ((cY ao x3.1).bind λbn=>(if (p3==3)=true then ((cY bn.1 x3.1).bind λaa=>(if (aa.2==1)=true then ((dA p0.aM x3.1.Seq).bind λaq=>(some ((⟨aq.1,0,0⟩:M.aG5),aa.1,1))) else (if (aa.2==2)=true then ((dA p0.aM x3.1.Seq).bind λar=>(some ((⟨ar.1,0,0⟩:M.aG5),aa.1,1))) else ((iB 59 p0.aHL).bind λav=>((iB 60 (i64.wrap (av+1))).bind λai=>((iS ai).bind λaw=>(some ((⟨x1.aM,ai,(i64.wrap (p2+aw))⟩:M.aG5),aa.1,2)))))))) else ((iB 59 p0.aHL).bind λax=>((iB 60 (i64.wrap (ax+1))).bind λaj=>((iS aj).bind λay=>(some ((⟨x1.aM,aj,(i64.wrap (p2+ay))⟩:M.aG5),bn.1,2))))))) else (if (p3==3)=true then ((cY ao x3.1).bind λaz=>((cY az.1 x3.1).bind λae=>(if (ae.2==1)=true then ((dA p0.aM x3.1.Seq).bind λba=>(some ((⟨ba.1,0,0⟩:M.aG5),ae.1,1))) else (if (ae.2==2)=true then ((dA p0.aM x3.1.Seq).bind λbd=>(some ((⟨bd.1,0,0⟩:M.aG5),ae.1,1))) else ((iB 59 p0.aHL).bind λbf=>((iB 60 (i64.wrap (bf+1))).bind λak=>((iS ak).bind λbg=>(some ((⟨x1.aM,ak,(i64.wrap (p2+bg))⟩:M.aG5),ae.1,2))))))))) else ((iB 59 p0.aHL).bind λbh=>((iB 60 (i64.wrap (bh+1))).bind λal=>((iS al).bind λbj=>(some ((⟨x1.aM,al,(i64.wrap (p2+bj))⟩:M.aG5),ao,2))))))))))))))))
def wJ (p0:M.aH) (p1:M.aGr):Option (M.aH×Int):=
 (wS p0).bind λx1=>((nO p0).bind λx3=>(if (!x3)=true then (some (x1,0)) else ((pR p1).bind λx6=>(if (!x6)=true then (some (x1,0)) else (if (decide (p0.aHS>(List.length p1.aG9:Int)))=true then (some (x1,0)) else ((Cb p1.aG9 p0.aHS).bind λah=>((xN p0.aG4 (List.drop p0.aHS.toNat p1.aG9)).bind λaa=>((wO p1 p0.aG5.aM.aGp).bind λae=>((dA p0.aG5.aM ae).bind λaf=>(some ((⟨aa,(List.length p1.aG9:Int),(⟨af.1,x1.aG5.aHL,x1.aG5.aHB⟩:M.aG5)⟩:M.aH),(i64.wrap ((List.length p1.aG9:Int)-p0.aHS)))))))))))))
def fE (p0:M.aN):Nat->Int->ByteArray->Int->Int->Int->Int->Int->Int->Int->Int->ByteArray->Int->List M.aG1->List M.bC->List M.aG1->List M.aP->List M.bC->Option (Int×Int×M.aH×M.aGr)
 | 0,_,_,_,_,_,_,_,_,_,_,_,_,_,_,_,_,_=>none
 | bw+1,v7,ay,az,ba,bd,bf,bg,aw,aj,ak,ar,av,ah,ai,aa,ae,af=>if (decide (v7>0))=true then ((aF (⟨p0.b,aj,ak⟩:M.aN) 5).bind λax=>(if (ax.2.2==0)=true then ((dR (⟨p0.b,ax.1,ax.2.1⟩:M.aN)).bind λbx=>((dG (⟨p0.b,bx.1,bx.2.1⟩:M.aN)).bind λbz=>((aF (⟨p0.b,bz.1,bz.2.1⟩:M.aN) 6).bind λc9=>((mA (⟨(⟨ay,ah,az⟩:M.aD),ba,(⟨(⟨bd,bf,ai⟩:M.aM),bg,aw⟩:M.aG5)⟩:M.aH) bx.2.2 bz.2.2 c9.2.2).bind λbj=>(fE p0 bw (i64.wrap (v7-1)) bj.1.aG4.Name bj.1.aG4.aHD bj.1.aHS bj.1.aG5.aM.aGp bj.1.aG5.aM.aHH bj.1.aG5.aHL bj.1.aG5.aHB c9.1 c9.2.1 ar av bj.1.aG4.aGk bj.1.aG5.aM.aG0 aa ae af))))) else (if (ax.2.2==1)=true then ((dR (⟨p0.b,ax.1,ax.2.1⟩:M.aN)).bind λbm=>((dG (⟨p0.b,bm.1,bm.2.1⟩:M.aN)).bind λbn=>((aF (⟨p0.b,bn.1,bn.2.1⟩:M.aN) 6).bind λbo=>((mA (⟨(⟨ay,ah,az⟩:M.aD),ba,(⟨(⟨bd,bf,ai⟩:M.aM),bg,aw⟩:M.aG5)⟩:M.aH) bm.2.2 bn.2.2 bo.2.2).bind λao=>(fE p0 bw (i64.wrap (v7-1)) ao.1.aG4.Name ao.1.aG4.aHD ao.1.aHS ao.1.aG5.aM.aGp ao.1.aG5.aM.aHH ao.1.aG5.aHL ao.1.aG5.aHB bo.1 bo.2.1 ar av ao.1.aG4.aGk ao.1.aG5.aM.aG0 aa ae af))))) else (if (ax.2.2==2)=true then ((aF (⟨p0.b,ax.1,ax.2.1⟩:M.aN) 4).bind λbq=>((Ag (⟨(⟨bd,bf,ai⟩:M.aM),bg,aw⟩:M.aG5) (⟨(⟨ar,aa,av⟩:M.aD),ae,af⟩:M.aGr) aw bq.2.2).bind λal=>(fE p0 bw (i64.wrap (v7-1)) ay az ba al.1.aM.aGp al.1.aM.aHH al.1.aHL al.1.aHB bq.1 bq.2.1 al.2.1.aD.Name al.2.1.aD.aHD ah al.1.aM.aG0 al.2.1.aD.aGk al.2.1.aP al.2.1.aG9))) else (if (ax.2.2==3)=true then ((aF (⟨p0.b,ax.1,ax.2.1⟩:M.aN) 3).bind λbl=>((wO (⟨(⟨ar,aa,av⟩:M.aD),ae,af⟩:M.aGr) (i64.wrap (1+bl.2.2))).bind λca=>((dR (⟨p0.b,bl.1,bl.2.1⟩:M.aN)).bind λbr=>((dG (⟨p0.b,br.1,br.2.1⟩:M.aN)).bind λbt=>((aF (⟨p0.b,bt.1,bt.2.1⟩:M.aN) 6).bind λbu=>((cY (⟨(⟨ar,aa,av⟩:M.aD),ae,af⟩:M.aGr) (⟨(i64.wrap (1+bl.2.2)),(i64.wrap (ca+1)),br.2.2,bt.2.2,bu.2.2⟩:M.bC)).bind λbh=>(fE p0 bw (i64.wrap (v7-1)) ay az ba bd bf bg aw bu.1 bu.2.1 bh.1.aD.Name bh.1.aD.aHD ah ai bh.1.aD.aGk bh.1.aP bh.1.aG9))))))) else ((wJ (⟨(⟨ay,ah,az⟩:M.aD),ba,(⟨(⟨bd,bf,ai⟩:M.aM),bg,aw⟩:M.aG5)⟩:M.aH) (⟨(⟨ar,aa,av⟩:M.aD),ae,af⟩:M.aGr)).bind λaq=>(fE p0 bw (i64.wrap (v7-1)) aq.1.aG4.Name aq.1.aG4.aHD aq.1.aHS aq.1.aG5.aM.aGp aq.1.aG5.aM.aHH aq.1.aG5.aHL aq.1.aG5.aHB ax.1 ax.2.1 ar av aq.1.aG4.aGk aq.1.aG5.aM.aG0 aa ae af))))))) else (some (aj,ak,(⟨(⟨ay,ah,az⟩:M.aD),ba,(⟨(⟨bd,bf,ai⟩:M.aM),bg,aw⟩:M.aG5)⟩:M.aH),(⟨(⟨ar,aa,av⟩:M.aD),ae,af⟩:M.aGr)))
def Bd (p0:M.aN):Option (Int×Int×M.aH×M.aGr):=
 (uY p0).bind λx4=>((xH x4.2.2 4).bind λaa=>((aF (⟨p0.b,x4.1,x4.2.1⟩:M.aN) 6).bind λae=>(fE p0 fuel ae.2.2 aa.1.aG4.Name aa.1.aG4.aHD aa.1.aHS aa.1.aG5.aM.aGp aa.1.aG5.aM.aHH aa.1.aG5.aHL aa.1.aG5.aHB ae.1 ae.2.1 x4.2.2.aD.Name x4.2.2.aD.aHD aa.1.aG4.aGk aa.1.aG5.aM.aG0 x4.2.2.aD.aGk x4.2.2.aP x4.2.2.aG9)))
def zT (p0:M.aN):Option (Int×Int×M.Key):=
 (Br p0).bind λx4=>((aF (⟨p0.b,x4.1,x4.2.1⟩:M.aN) 10).bind λaa=>(if (aa.2.2==0)=true then ((aF (⟨p0.b,aa.1,aa.2.1⟩:M.aN) 5).bind λae=>(some (ae.1,ae.2.1,(⟨ae.2.2,x4.2.2.N,x4.2.2.aHG⟩:M.Key)))) else (if (aa.2.2==1)=true then ((bK (⟨p0.b,aa.1,aa.2.1⟩:M.aN) ([(-1000000000001),1000000000001,5])).bind λaf=>(some (af.1,af.2.1,(⟨x4.2.2.aG7,af.2.2,x4.2.2.aHG⟩:M.Key)))) else (if (aa.2.2==2)=true then ((eD (⟨p0.b,aa.1,aa.2.1⟩:M.aN) ([(⟨#[65]⟩:ByteArray),(⟨#[97,32,98]⟩:ByteArray),(⟨#[97,98,99,100,101,102,103,104,105,106,107,108,109]⟩:ByteArray),(⟨#[120,39]⟩:ByteArray)])).bind λah=>(some (ah.1,ah.2.1,(⟨x4.2.2.aG7,x4.2.2.N,ah.2.2⟩:M.Key)))) else (some (aa.1,aa.2.1,x4.2.2))))))
def tO (ae:(Int×Int×Int)):Nat->Int->List M.Field->Option (Int×Int×M.aE)
 | 0,_,_=>none
 | ah+1,af,aa=>if (decide (af<((6:Nat):Int)))=true then ((idx ([(⟨#[100]⟩:ByteArray),(⟨#[101]⟩:ByteArray),(⟨#[102]⟩:ByteArray),(⟨#[103]⟩:ByteArray),(⟨#[104]⟩:ByteArray),(⟨#[105]⟩:ByteArray)]) af).bind λai=>((iP (⟨aa⟩:M.aE) ai 1).bind λaj=>(tO ae ah (i64.wrap (af+1)) aj.1.aGn))) else (some (ae.1,ae.2.1,(⟨aa⟩:M.aE)))
def Cs (p0:M.aN):Option (Int×Int×M.aE):=
 (kF p0).bind λx4=>((aF (⟨p0.b,x4.1,x4.2.1⟩:M.aN) 12).bind λaa=>(if (aa.2.2==0)=true then ((eD (⟨p0.b,aa.1,aa.2.1⟩:M.aN) ([(⟨#[]⟩:ByteArray),(⟨#[65]⟩:ByteArray),(⟨#[122,122,122,122,122,122,122,122,122]⟩:ByteArray),(⟨#[122]⟩:ByteArray),(⟨#[97]⟩:ByteArray)])).bind λae=>((bK (⟨p0.b,ae.1,ae.2.1⟩:M.aN) ([0,(-1),1000000000,1000000001])).bind λaf=>((app 24 x4.2.2.aGn ([(⟨ae.2.2,af.2.2⟩:M.Field)])).bind λah=>(some (af.1,af.2.1,(⟨(x4.2.2.aGn++[(⟨ae.2.2,af.2.2⟩:M.Field)])⟩:M.aE)))))) else (if (aa.2.2==1)=true then (tO aa fuel 0 x4.2.2.aGn) else (some (aa.1,aa.2.1,x4.2.2)))))
def zR (p0:M.aD) (p1:M.aE):Option (M.aD×M.Key×Bool):=
 if (decide (p0.aHD>=1000000))=true then ((bZ p0).bind λx2=>(some (x2,(⟨0,0,(⟨#[]⟩:ByteArray)⟩:M.Key),false))) else ((zH p0 (⟨1,(i64.wrap (p0.aHD+1)),(⟨#[]⟩:ByteArray)⟩:M.Key) p1).bind λx4=>(if (!x4.2)=true then ((bZ p0).bind λx7=>(some (x7,(⟨0,0,(⟨#[]⟩:ByteArray)⟩:M.Key),false))) else (some (x4.1,(⟨1,(i64.wrap (p0.aHD+1)),(⟨#[]⟩:ByteArray)⟩:M.Key),true))))
def xY (ah:(Int×Int×Int)):Nat->ByteArray->Int->List M.aG1->Option (Int×Int×M.aD)
 | 0,_,_,_=>none
 | aj+1,ae,af,aa=>if (decide ((List.length aa:Int)<16))=true then ((mL (⟨ae,aa,af⟩:M.aD)).bind λak=>(if ak=true then ((zR (⟨ae,aa,af⟩:M.aD) (⟨([]:List M.Field)⟩:M.aE)).bind λai=>(xY ah aj ai.1.Name ai.1.aHD ai.1.aGk)) else (some (ah.1,ah.2.1,(⟨ae,aa,af⟩:M.aD))))) else (some (ah.1,ah.2.1,(⟨ae,aa,af⟩:M.aD)))
def Bp (p0:M.aN):Option (Int×Int×M.aD):=
 (pI p0 (⟨#[110,111,116,101,115]⟩:ByteArray)).bind λx4=>((aF (⟨p0.b,x4.1,x4.2.1⟩:M.aN) 12).bind λaa=>(if (aa.2.2==0)=true then ((eD (⟨p0.b,aa.1,aa.2.1⟩:M.aN) ([(⟨#[]⟩:ByteArray),(⟨#[81]⟩:ByteArray),(⟨#[97,98,99,100,101,102,103,104,105]⟩:ByteArray)])).bind λah=>(some (ah.1,ah.2.1,(⟨ah.2.2,x4.2.2.aGk,x4.2.2.aHD⟩:M.aD)))) else (if (aa.2.2==1)=true then ((bK (⟨p0.b,aa.1,aa.2.1⟩:M.aN) ([(-1),999999,1000000,1000001])).bind λai=>(some (ai.1,ai.2.1,(⟨x4.2.2.Name,x4.2.2.aGk,ai.2.2⟩:M.aD)))) else (if (aa.2.2==2)=true then ((zT (⟨p0.b,aa.1,aa.2.1⟩:M.aN)).bind λae=>((Cs (⟨p0.b,ae.1,ae.2.1⟩:M.aN)).bind λaf=>((app 56 x4.2.2.aGk ([(⟨ae.2.2,af.2.2⟩:M.aG1)])).bind λaj=>(some (af.1,af.2.1,(⟨x4.2.2.Name,(x4.2.2.aGk++[(⟨ae.2.2,af.2.2⟩:M.aG1)]),x4.2.2.aHD⟩:M.aD)))))) else (if (aa.2.2==3)=true then (xY aa fuel x4.2.2.Name x4.2.2.aHD x4.2.2.aGk) else (some (aa.1,aa.2.1,x4.2.2)))))))
def lH (p0:M.aN):Nat->Int->Int->Int->Int->Int->List M.bC->Option (Int×Int×M.aM)
 | 0,_,_,_,_,_,_=>none
 | av+1,v7,ah,ai,aa,ae,af=>if (decide (v7>0))=true then ((dR (⟨p0.b,aa,ae⟩:M.aN)).bind λak=>((dG (⟨p0.b,ak.1,ak.2.1⟩:M.aN)).bind λal=>((aF (⟨p0.b,al.1,al.2.1⟩:M.aN) 6).bind λao=>((iL (⟨ah,ai,af⟩:M.aM) ak.2.2 al.2.2 ao.2.2).bind λaq=>(lH p0 av (i64.wrap (v7-1)) aq.1.aGp aq.1.aHH ao.1 ao.2.1 aq.1.aG0))))) else ((bG (⟨p0.b,aa,ae⟩:M.aN) 3).bind λaj=>(if aj.2.2=true then ((aF (⟨p0.b,aj.1,aj.2.1⟩:M.aN) 4).bind λar=>((dA (⟨ah,ai,af⟩:M.aM) ar.2.2).bind λaw=>(some (ar.1,ar.2.1,aw.1)))) else (some (aj.1,aj.2.1,(⟨ah,ai,af⟩:M.aM)))))
def yY (p0:M.aN) (p1:Int):Option (Int×Int×M.aM):=
 (nQ p1).bind λx5=>((bK p0 ([0,2,4,6])).bind λx7=>(lH p0 fuel x7.2.2 x5.1.aGp x5.1.aHH x7.1 x7.2.1 x5.1.aG0))
def vG (p0:M.aN):Nat->Int->Int->Int->Int->List M.bC->Option (Int×Int×M.aM)
 | 0,_,_,_,_,_=>none
 | al+1,ah,ai,aa,ae,af=>if (decide ((List.length af:Int)<20))=true then ((iN (⟨ah,ai,af⟩:M.aM)).bind λao=>(if ao=true then ((dR (⟨p0.b,aa,ae⟩:M.aN)).bind λaj=>((iL (⟨ah,ai,af⟩:M.aM) aj.2.2 (⟨#[97]⟩:ByteArray) 1).bind λak=>(vG p0 al ak.1.aGp ak.1.aHH aj.1 aj.2.1 ak.1.aG0))) else (some (aa,ae,(⟨ah,ai,af⟩:M.aM))))) else (some (aa,ae,(⟨ah,ai,af⟩:M.aM)))
def Bx (p0:M.aN):Option (Int×Int×M.aM):=
 (aF p0 3).bind λx4=>((yY (⟨p0.b,x4.1,x4.2.1⟩:M.aN) (i64.wrap (1+x4.2.2))).bind λx6=>((aF (⟨p0.b,x6.1,x6.2.1⟩:M.aN) 12).bind λaa=>(if (aa.2.2==0)=true then ((bK (⟨p0.b,aa.1,aa.2.1⟩:M.aN) ([0,9,1000001])).bind λah=>(some (ah.1,ah.2.1,(⟨ah.2.2,x6.2.2.aHH,x6.2.2.aG0⟩:M.aM)))) else (if (aa.2.2==1)=true then ((bK (⟨p0.b,aa.1,aa.2.1⟩:M.aN) ([0,3,1000000,1000001])).bind λai=>(some (ai.1,ai.2.1,(⟨x6.2.2.aGp,ai.2.2,x6.2.2.aG0⟩:M.aM)))) else (if (aa.2.2==2)=true then ((zT (⟨p0.b,aa.1,aa.2.1⟩:M.aN)).bind λae=>((bK (⟨p0.b,ae.1,ae.2.1⟩:M.aN) ([0,(-1)])).bind λaf=>((app 72 x6.2.2.aG0 ([(⟨x6.2.2.aGp,x6.2.2.aHH,ae.2.2,(⟨#[97]⟩:ByteArray),af.2.2⟩:M.bC)])).bind λaj=>(some (af.1,af.2.1,(⟨x6.2.2.aGp,x6.2.2.aHH,(x6.2.2.aG0++[(⟨x6.2.2.aGp,x6.2.2.aHH,ae.2.2,(⟨#[97]⟩:ByteArray),af.2.2⟩:M.bC)])⟩:M.aM)))))) else (if (aa.2.2==3)=true then (vG p0 fuel x6.2.2.aGp x6.2.2.aHH aa.1 aa.2.1 x6.2.2.aG0) else (some (aa.1,aa.2.1,x6.2.2))))))))
def BI (p0:M.aN):Option (Int×Int×M.aH):=
 (Bd p0).bind λx4=>((aF (⟨p0.b,x4.1,x4.2.1⟩:M.aN) 12).bind λaa=>(if (aa.2.2==0)=true then ((Bp (⟨p0.b,aa.1,aa.2.1⟩:M.aN)).bind λae=>(some (ae.1,ae.2.1,(⟨ae.2.2,x4.2.2.1.aHS,x4.2.2.1.aG5⟩:M.aH)))) else (if (aa.2.2==1)=true then ((bK (⟨p0.b,aa.1,aa.2.1⟩:M.aN) ([(-1),9,1000000000001])).bind λaf=>(some (af.1,af.2.1,(⟨x4.2.2.1.aG4,af.2.2,x4.2.2.1.aG5⟩:M.aH)))) else (if (aa.2.2==2)=true then ((Bx (⟨p0.b,aa.1,aa.2.1⟩:M.aN)).bind λah=>(some (ah.1,ah.2.1,(⟨x4.2.2.1.aG4,x4.2.2.1.aHS,(⟨ah.2.2,x4.2.2.1.aG5.aHL,x4.2.2.1.aG5.aHB⟩:M.aG5)⟩:M.aH)))) else (some (aa.1,aa.2.1,x4.2.2.1))))))
set_option maxRecDepth 40000 in
def nT (x4:(Int×Int×M.aG)) (aa:(Int×Int×Int)):Nat->List Int->Option (Int×Int×M.aG)
 | 0,_=>none
 | ae+1,r5=>if (decide ((List.length r5:Int)<2600))=true then ((app 1 r5 ([0])).bind λaf=>(nT x4 aa ae (r5++[0]))) else (some (aa.1,aa.2.1,(⟨x4.2.2.aGl,x4.2.2.Top,x4.2.2.aGf,x4.2.2.aGi,(⟨x4.2.2.bW.aG4,r5,x4.2.2.bW.aHM⟩:M.bW),x4.2.2.aH,x4.2.2.aHI,x4.2.2.aHE⟩:M.aG)))
set_option maxRecDepth 40000 in
theorem Qe:type_of% @nT.eq_2:=@nT.eq_2
def BQ (p0:M.aN):Option (Int×Int×M.aG):=
 (vF p0).bind λx4=>((aF (⟨p0.b,x4.1,x4.2.1⟩:M.aN) 14).bind λaa=>(if (aa.2.2==0)=true then ((eD (⟨p0.b,aa.1,aa.2.1⟩:M.aN) ([(⟨#[]⟩:ByteArray),(⟨#[122,122,122]⟩:ByteArray)])).bind λae=>(some (ae.1,ae.2.1,(⟨ae.2.2,x4.2.2.Top,x4.2.2.aGf,x4.2.2.aGi,x4.2.2.bW,x4.2.2.aH,x4.2.2.aHI,x4.2.2.aHE⟩:M.aG)))) else (if (aa.2.2==1)=true then ((yB (⟨p0.b,aa.1,aa.2.1⟩:M.aN)).bind λaf=>(some (af.1,af.2.1,(⟨x4.2.2.aGl,x4.2.2.Top,x4.2.2.aGf,af.2.2,x4.2.2.bW,x4.2.2.aH,x4.2.2.aHI,x4.2.2.aHE⟩:M.aG)))) else (if (aa.2.2==2)=true then ((BN (⟨p0.b,aa.1,aa.2.1⟩:M.aN)).bind λah=>(some (ah.1,ah.2.1,(⟨x4.2.2.aGl,x4.2.2.Top,x4.2.2.aGf,x4.2.2.aGi,ah.2.2,x4.2.2.aH,x4.2.2.aHI,x4.2.2.aHE⟩:M.aG)))) else (if (aa.2.2==3)=true then ((BI (⟨p0.b,aa.1,aa.2.1⟩:M.aN)).bind λai=>(some (ai.1,ai.2.1,(⟨x4.2.2.aGl,x4.2.2.Top,x4.2.2.aGf,x4.2.2.aGi,x4.2.2.bW,ai.2.2,x4.2.2.aHI,x4.2.2.aHE⟩:M.aG)))) else (if (aa.2.2==4)=true then ((bK (⟨p0.b,aa.1,aa.2.1⟩:M.aN) ([(-1),1000000000001])).bind λaj=>(some (aj.1,aj.2.1,(⟨x4.2.2.aGl,x4.2.2.Top,x4.2.2.aGf,x4.2.2.aGi,x4.2.2.bW,x4.2.2.aH,aj.2.2,x4.2.2.aHE⟩:M.aG)))) else (if (aa.2.2==5)=true then (nT x4 aa fuel x4.2.2.bW.Log) else (some (aa.1,aa.2.1,x4.2.2)))))))))
def jK (p0:M.aN):Nat->Int->Int->Int->List M.aG->Option (Int×Int×M.aA)
 | 0,_,_,_,_=>none
 | ak+1,v4,aa,ae,af=>if (decide (v4>0))=true then ((vF (⟨p0.b,aa,ae⟩:M.aN)).bind λaj=>((gI (⟨af⟩:M.aA) aj.2.2).bind λal=>(jK p0 ak (i64.wrap (v4-1)) aj.1 aj.2.1 al.1.aGj))) else ((bG (⟨p0.b,aa,ae⟩:M.aN) 12).bind λah=>(if ah.2.2=true then ((BQ (⟨p0.b,ah.1,ah.2.1⟩:M.aN)).bind λai=>((app 328 af ([ai.2.2])).bind λao=>(some (ai.1,ai.2.1,(⟨(af++[ai.2.2])⟩:M.aA))))) else (some (ah.1,ah.2.1,(⟨af⟩:M.aA)))))
def tL (p0:M.aN):Option (Int×Int×M.aA):=
 (aF p0 4).bind λx4=>(jK p0 fuel x4.2.2 x4.1 x4.2.1 ([]:List M.aG))
def oU (p0:M.aN):Nat->Int->Int->ByteArray->ByteArray->Int->Int->Int->Bool->Bool->Int->Int->List M.aW->List M.Instr->List Int->Option (Int×Int×M.bJ)
 | 0,_,_,_,_,_,_,_,_,_,_,_,_,_,_=>none
 | az+1,v7,ao,aq,ar,al,av,aw,ax,ak,aa,ae,af,ah,ai=>if (decide (v7>0))=true then ((kN (⟨p0.b,aa,ae⟩:M.aN)).bind λay=>((kK (⟨ao,aq,ar,al,af,(⟨ah,av,ai,aw,ax,ak⟩:M.aGu)⟩:M.bJ) ay.2.2 (⟨0,200,al,([]:List Int),false⟩:M.aGm)).bind λaj=>(oU p0 az (i64.wrap (v7-1)) aj.1.Id aj.1.aGl aj.1.Top aj.1.aGg aj.1.aGu.Pc aj.1.aGu.aHV aj.1.aGu.aHd aj.1.aGu.aHf ay.1 ay.2.1 aj.1.aW aj.1.aGu.aHP aj.1.aGu.aHY))) else (some (aa,ae,(⟨ao,aq,ar,al,af,(⟨ah,av,ai,aw,ax,ak⟩:M.aGu)⟩:M.bJ)))
def A7 (p0:M.aN):Option (Int×Int×M.bJ):=
 (kP p0).bind λx4=>(((bG (⟨p0.b,x4.1,x4.2.1⟩:M.aN) 3).bind λae=>(if ae.2.2=true then ((kP (⟨p0.b,ae.1,ae.2.1⟩:M.aN)).bind λaf=>(some (af.2.2,af.1,af.2.1))) else (some (x4.2.2,ae.1,ae.2.1)))).bind λah=>((aF (⟨p0.b,ah.2.1,ah.2.2⟩:M.aN) 9).bind λai=>((aF (⟨p0.b,ai.1,ai.2.1⟩:M.aN) 3).bind λaj=>((iR (⟨p0.b,aj.1,aj.2.1⟩:M.aN)).bind λak=>((kV (i64.wrap (1+ai.2.2)) x4.2.2 ah.1 (i64.wrap (1+aj.2.2)) ak.2.2).bind λaa=>((aF (⟨p0.b,ak.1,ak.2.1⟩:M.aN) 3).bind λal=>(oU p0 fuel al.2.2 aa.1.Id aa.1.aGl aa.1.Top aa.1.aGg aa.1.aGu.Pc aa.1.aGu.aHV aa.1.aGu.aHd aa.1.aGu.aHf al.1 al.2.1 aa.1.aW aa.1.aGu.aHP aa.1.aGu.aHY)))))))
def uU (x4:(Int×Int×M.bJ)) (aa:(Int×Int×Int)):Nat->List M.aW->Option (Int×Int×M.bJ)
 | 0,_=>none
 | ae+1,r5=>if (decide ((List.length r5:Int)<8))=true then ((app 24 r5 ([(⟨(⟨#[105,110,100,101,120]⟩:ByteArray),x4.2.2.aGg⟩:M.aW)])).bind λaf=>(uU x4 aa ae (r5++[(⟨(⟨#[105,110,100,101,120]⟩:ByteArray),x4.2.2.aGg⟩:M.aW)]))) else (some (aa.1,aa.2.1,(⟨x4.2.2.Id,x4.2.2.aGl,x4.2.2.Top,x4.2.2.aGg,r5,x4.2.2.aGu⟩:M.bJ)))
def Aw (p0:M.aN):Option (Int×Int×M.bJ):=
 (A7 p0).bind λx4=>((aF (⟨p0.b,x4.1,x4.2.1⟩:M.aN) 12).bind λaa=>(if (aa.2.2==0)=true then ((bK (⟨p0.b,aa.1,aa.2.1⟩:M.aN) ([0,1000000000000,1000000000001])).bind λah=>(some (ah.1,ah.2.1,(⟨ah.2.2,x4.2.2.aGl,x4.2.2.Top,x4.2.2.aGg,x4.2.2.aW,x4.2.2.aGu⟩:M.bJ)))) else (if (aa.2.2==1)=true then ((eD (⟨p0.b,aa.1,aa.2.1⟩:M.aN) ([(⟨#[105,110,100,101,120]⟩:ByteArray),(⟨#[]⟩:ByteArray)])).bind λae=>((aF (⟨p0.b,ae.1,ae.2.1⟩:M.aN) 2).bind λaf=>((app 24 x4.2.2.aW ([(⟨ae.2.2,(i64.wrap (x4.2.2.aGg+af.2.2))⟩:M.aW)])).bind λaj=>(some (af.1,af.2.1,(⟨x4.2.2.Id,x4.2.2.aGl,x4.2.2.Top,x4.2.2.aGg,(x4.2.2.aW++[(⟨ae.2.2,(i64.wrap (x4.2.2.aGg+af.2.2))⟩:M.aW)]),x4.2.2.aGu⟩:M.bJ)))))) else (if (aa.2.2==2)=true then ((bK (⟨p0.b,aa.1,aa.2.1⟩:M.aN) ([0,1000000000001])).bind λai=>(some (ai.1,ai.2.1,(⟨x4.2.2.Id,x4.2.2.aGl,x4.2.2.Top,ai.2.2,x4.2.2.aW,x4.2.2.aGu⟩:M.bJ)))) else (if (aa.2.2==3)=true then (uU x4 aa fuel x4.2.2.aW) else (some (aa.1,aa.2.1,x4.2.2)))))))
def zV (p0:M.aN):Option (Int×Int×M.bC):=
 (aF p0 3).bind λx4=>((aF (⟨p0.b,x4.1,x4.2.1⟩:M.aN) 4).bind λx6=>((dR (⟨p0.b,x6.1,x6.2.1⟩:M.aN)).bind λx8=>((dG (⟨p0.b,x8.1,x8.2.1⟩:M.aN)).bind λae=>((aF (⟨p0.b,ae.1,ae.2.1⟩:M.aN) 6).bind λaf=>((aF (⟨p0.b,af.1,af.2.1⟩:M.aN) 12).bind λaa=>(if (aa.2.2==0)=true then ((bK (⟨p0.b,aa.1,aa.2.1⟩:M.aN) ([0,1000000,1000001])).bind λah=>(some (ah.1,ah.2.1,(⟨ah.2.2,(i64.wrap (1+x6.2.2)),x8.2.2,ae.2.2,af.2.2⟩:M.bC)))) else (if (aa.2.2==1)=true then ((bK (⟨p0.b,aa.1,aa.2.1⟩:M.aN) ([0,1000000,1000001])).bind λai=>(some (ai.1,ai.2.1,(⟨(i64.wrap (1+x4.2.2)),ai.2.2,x8.2.2,ae.2.2,af.2.2⟩:M.bC)))) else (if (aa.2.2==2)=true then ((zT (⟨p0.b,aa.1,aa.2.1⟩:M.aN)).bind λaj=>(some (aj.1,aj.2.1,(⟨(i64.wrap (1+x4.2.2)),(i64.wrap (1+x6.2.2)),aj.2.2,ae.2.2,af.2.2⟩:M.bC)))) else (if (aa.2.2==3)=true then (some (aa.1,aa.2.1,(⟨(i64.wrap (1+x4.2.2)),(i64.wrap (1+x6.2.2)),x8.2.2,(⟨#[]⟩:ByteArray),af.2.2⟩:M.bC))) else (if (aa.2.2==4)=true then ((bK (⟨p0.b,aa.1,aa.2.1⟩:M.aN) ([(-1),1000000000,1000000001])).bind λak=>(some (ak.1,ak.2.1,(⟨(i64.wrap (1+x4.2.2)),(i64.wrap (1+x6.2.2)),x8.2.2,ae.2.2,ak.2.2⟩:M.bC)))) else (some (aa.1,aa.2.1,(⟨(i64.wrap (1+x4.2.2)),(i64.wrap (1+x6.2.2)),x8.2.2,ae.2.2,af.2.2⟩:M.bC)))))))))))))
def vJ (x4:(Int×Int×M.aGr)) (ae:(Int×Int×Int)):Nat->Int->List M.aP->Option (Int×Int×M.aGr)
 | 0,_,_=>none
 | af+1,v4,aa=>if (decide (v4<64))=true then ((app 16 aa ([(⟨v4,0⟩:M.aP)])).bind λah=>(vJ x4 ae af (i64.wrap (v4+1)) (aa++[(⟨v4,0⟩:M.aP)]))) else (some (ae.1,ae.2.1,(⟨x4.2.2.aD,aa,x4.2.2.aG9⟩:M.aGr)))
def AG (p0:M.aN):Option (Int×Int×M.aGr):=
 (uY p0).bind λx4=>((aF (⟨p0.b,x4.1,x4.2.1⟩:M.aN) 12).bind λaa=>(if (aa.2.2==0)=true then ((Bp (⟨p0.b,aa.1,aa.2.1⟩:M.aN)).bind λai=>(some (ai.1,ai.2.1,(⟨ai.2.2,x4.2.2.aP,x4.2.2.aG9⟩:M.aGr)))) else (if (aa.2.2==1)=true then ((bK (⟨p0.b,aa.1,aa.2.1⟩:M.aN) ([0,2,9,1000001])).bind λae=>((bK (⟨p0.b,ae.1,ae.2.1⟩:M.aN) ([0,(-1)])).bind λaf=>((app 16 x4.2.2.aP ([(⟨ae.2.2,af.2.2⟩:M.aP)])).bind λaj=>(some (af.1,af.2.1,(⟨x4.2.2.aD,(x4.2.2.aP++[(⟨ae.2.2,af.2.2⟩:M.aP)]),x4.2.2.aG9⟩:M.aGr)))))) else (if (aa.2.2==2)=true then ((zV (⟨p0.b,aa.1,aa.2.1⟩:M.aN)).bind λah=>((app 72 x4.2.2.aG9 ([ah.2.2])).bind λak=>(some (ah.1,ah.2.1,(⟨x4.2.2.aD,x4.2.2.aP,(x4.2.2.aG9++[ah.2.2])⟩:M.aGr))))) else (if (aa.2.2==3)=true then (vJ x4 aa fuel 4 ([]:List M.aP)) else (some (aa.1,aa.2.1,x4.2.2)))))))
def BS (p0:M.aN):Option (Int×Int×M.World):=
 (Al p0).bind λx4=>((bG (⟨p0.b,x4.1,x4.2.1⟩:M.aN) 4).bind λae=>((aF (⟨p0.b,ae.1,ae.2.1⟩:M.aN) 24).bind λaa=>(if (aa.2.2==0)=true then ((bK (⟨p0.b,aa.1,aa.2.1⟩:M.aN) ([(-1),999999990000,999999990001])).bind λah=>(some (ah.1,ah.2.1,(⟨ah.2.2,(!ae.2.2),x4.2.2.aGp,x4.2.2.aA,x4.2.2.aGx,x4.2.2.aGv,x4.2.2.aGy,x4.2.2.aGt,x4.2.2.aG2,x4.2.2.aGz⟩:M.World)))) else (if (aa.2.2==1)=true then (some (aa.1,aa.2.1,(⟨x4.2.2.Now,(!ae.2.2),0,x4.2.2.aA,x4.2.2.aGx,x4.2.2.aGv,x4.2.2.aGy,x4.2.2.aGt,x4.2.2.aG2,x4.2.2.aGz⟩:M.World))) else (if (aa.2.2==2)=true then ((An x4.2.2.aG2 2).bind λak=>(some (aa.1,aa.2.1,(⟨x4.2.2.Now,(!ae.2.2),x4.2.2.aGp,x4.2.2.aA,x4.2.2.aGx,x4.2.2.aGv,x4.2.2.aGy,x4.2.2.aGt,(List.take (2:Int).toNat x4.2.2.aG2),x4.2.2.aGz⟩:M.World)))) else (if (aa.2.2==3)=true then ((tL (⟨p0.b,aa.1,aa.2.1⟩:M.aN)).bind λai=>(some (ai.1,ai.2.1,(⟨x4.2.2.Now,(!ae.2.2),x4.2.2.aGp,ai.2.2,x4.2.2.aGx,x4.2.2.aGv,x4.2.2.aGy,x4.2.2.aGt,x4.2.2.aG2,x4.2.2.aGz⟩:M.World)))) else (if (aa.2.2==4)=true then ((Aw (⟨p0.b,aa.1,aa.2.1⟩:M.aN)).bind λaf=>((app 144 x4.2.2.aGx ([af.2.2])).bind λal=>(some (af.1,af.2.1,(⟨x4.2.2.Now,(!ae.2.2),x4.2.2.aGp,x4.2.2.aA,(x4.2.2.aGx++[af.2.2]),x4.2.2.aGv,x4.2.2.aGy,x4.2.2.aGt,x4.2.2.aG2,x4.2.2.aGz⟩:M.World))))) else (if (aa.2.2==5)=true then (some (aa.1,aa.2.1,(⟨x4.2.2.Now,(!ae.2.2),x4.2.2.aGp,x4.2.2.aA,x4.2.2.aGx,0,x4.2.2.aGy,x4.2.2.aGt,x4.2.2.aG2,x4.2.2.aGz⟩:M.World))) else (if (aa.2.2==6)=true then ((AG (⟨p0.b,aa.1,aa.2.1⟩:M.aN)).bind λaj=>((idx x4.2.2.aGz 0).bind λao=>(some (aj.1,aj.2.1,(⟨x4.2.2.Now,(!ae.2.2),x4.2.2.aGp,x4.2.2.aA,x4.2.2.aGx,x4.2.2.aGv,x4.2.2.aGy,x4.2.2.aGt,x4.2.2.aG2,(List.set x4.2.2.aGz (0:Int).toNat aj.2.2)⟩:M.World))))) else (some (aa.1,aa.2.1,(⟨x4.2.2.Now,(!ae.2.2),x4.2.2.aGp,x4.2.2.aA,x4.2.2.aGx,x4.2.2.aGv,x4.2.2.aGy,x4.2.2.aGt,x4.2.2.aG2,x4.2.2.aGz⟩:M.World))))))))))))
def jZ (p0:List Int):Option (M.World×ByteArray):=
 (Bn p0).bind λx1=>((BS x1).bind λx8=>((eD (⟨x1.b,x8.1,x8.2.1⟩:M.aN) ([(⟨#[98,97,110,107]⟩:ByteArray),(⟨#[110,101,119,115]⟩:ByteArray),(⟨#[115,104,111,112]⟩:ByteArray),(⟨#[122,122,122]⟩:ByteArray)])).bind λaa=>(some (x8.2.2,aa.2.2))))
def gU (ah:M.aGo) (ai:Int->List M.aGw->Option M.aC):Nat->Int->List M.aGw->Option M.aC
 | 0,_,_=>none
 | ak+1,ae,aa=>if (decide (ae<(List.length ah.aGs:Int)))=true then ((idx ah.aGs ae).bind λaf=>((lL af.aGm).bind λaj=>((app 88 aa ([(⟨af.aGl,af.aHQ,aj⟩:M.aGw)])).bind λal=>(gU ah ai ak (i64.wrap (ae+1)) (aa++[(⟨af.aGl,af.aHQ,aj⟩:M.aGw)]))))) else (ai ae aa)
def eN (p0:M.aC):Nat->Int->List M.aGo->Option M.aC
 | 0,_,_=>none
 | aj+1,af,ae=>if (decide (af<(List.length p0.aGi:Int)))=true then ((idx p0.aGi af).bind λah=>(gU ah (λ(ai:Int) (aa:List M.aGw)=>(app 32 ae ([(⟨ah.aGg,aa⟩:M.aGo)])).bind λak=>(eN p0 aj (i64.wrap (af+1)) (ae++[(⟨ah.aGg,aa⟩:M.aGo)]))) fuel 0 ([]:List M.aGw))) else (some (⟨ae⟩:M.aC))
def tX (p0:M.aC):Option M.aC:=
 eN p0 fuel 0 ([]:List M.aGo)
def xM (p0:M.aE):Option M.aE:=
 (app 24 ([]:List M.Field) p0.aGn).bind λx1=>(some p0)
def xT (p0:M.aG1):Option M.aG1:=
 (xM p0.aE).bind λx1=>(some (⟨p0.Key,x1⟩:M.aG1))
def lG (p0:M.aD):Nat->Int->List M.aG1->Option M.aD
 | 0,_,_=>none
 | ah+1,ae,aa=>if (decide (ae<(List.length p0.aGk:Int)))=true then ((idx p0.aGk ae).bind λai=>((xT ai).bind λaf=>((app 56 aa ([af])).bind λaj=>(lG p0 ah (i64.wrap (ae+1)) (aa++[af]))))) else (some (⟨p0.Name,aa,p0.aHD⟩:M.aD))
def rY (p0:M.aD):Option M.aD:=
 lG p0 fuel 0 ([]:List M.aG1)
def gW (p0:M.aGh):Nat->Int->List M.aD->Option M.aGh
 | 0,_,_=>none
 | ah+1,ae,aa=>if (decide (ae<(List.length p0.aGq:Int)))=true then ((idx p0.aGq ae).bind λai=>((rY ai).bind λaf=>((app 48 aa ([af])).bind λaj=>(gW p0 ah (i64.wrap (ae+1)) (aa++[af]))))) else (some (⟨p0.Name,p0.aGg,aa,p0.aG3⟩:M.aGh))
def uG (p0:M.aGh):Option M.aGh:=
 (app 32 ([]:List M.aO) p0.aG3).bind λx1=>(gW p0 fuel 0 ([]:List M.aD))
def zW (p0:M.bW):Option M.bW:=
 (uG p0.aG4).bind λx1=>((kW p0.Log).bind λx3=>(some (⟨x1,x3,p0.aHM⟩:M.bW)))
def xU (p0:M.aM):Option M.aM:=
 (app 72 ([]:List M.bC) p0.aG0).bind λx1=>(some p0)
def Ak (p0:M.aG5):Option M.aG5:=
 (xU p0.aM).bind λx1=>(some (⟨x1,p0.aHL,p0.aHB⟩:M.aG5))
def wE (p0:M.aH):Option M.aH:=
 (rY p0.aG4).bind λx1=>((Ak p0.aG5).bind λx3=>(some (⟨x1,p0.aHS,x3⟩:M.aH)))
def xK (p0:M.aG):Option M.aG:=
 (tX p0.aGi).bind λx1=>((zW p0.bW).bind λx3=>((wE p0.aH).bind λx5=>(some (⟨p0.aGl,p0.Top,p0.aGf,x1,x3,x5,p0.aHI,p0.aHE⟩:M.aG))))
def iE (p0:M.aA):Nat->Int->List M.aG->Option M.aA
 | 0,_,_=>none
 | af+1,v10,aa=>if (decide (v10<(List.length p0.aGj:Int)))=true then ((idx p0.aGj v10).bind λah=>((xK ah).bind λae=>((app 328 aa ([ae])).bind λai=>(iE p0 af (i64.wrap (v10+1)) (aa++[ae]))))) else (some (⟨aa⟩:M.aA))
def vM (p0:M.aA):Option M.aA:=
 iE p0 fuel 0 ([]:List M.aG)
def wA (p0:M.aGu):Option M.aGu:=
 (app 40 ([]:List M.Instr) p0.aHP).bind λx1=>((app 8 ([]:List Int) p0.aHY).bind λaa=>(some p0))
def Ar (p0:M.bJ):Option M.bJ:=
 (app 24 ([]:List M.aW) p0.aW).bind λx1=>((wA p0.aGu).bind λx9=>(some (⟨p0.Id,p0.aGl,p0.Top,p0.aGg,p0.aW,x9⟩:M.bJ)))
def lN (p0:List M.bJ):Nat->Int->List M.bJ->Option (List M.bJ)
 | 0,_,_=>none
 | ae+1,v9,r6=>if (decide (v9<(List.length p0:Int)))=true then ((idx p0 v9).bind λaf=>((Ar af).bind λaa=>((app 144 r6 ([aa])).bind λah=>(lN p0 ae (i64.wrap (v9+1)) (r6++[aa]))))) else (some r6)
def yI (p0:List M.bJ):Option (List M.bJ):=
 lN p0 fuel 0 ([]:List M.bJ)
def yK (p0:M.aR):Option M.aR:=
 (app 32 ([]:List M.nW) p0.aGy).bind λx1=>(some p0)
def wD (p0:M.aGt):Option M.aGt:=
 (app 24 ([]:List M.Bk) p0.aHN).bind λx1=>(some p0)
def pO (p0:M.aGl):Option M.aGl:=
 (app 16 ([]:List ByteArray) p0.aG8).bind λx1=>(some p0)
def xL (p0:M.aGr):Option M.aGr:=
 (rY p0.aD).bind λx1=>((app 16 ([]:List M.aP) p0.aP).bind λx3=>((app 72 ([]:List M.bC) p0.aG9).bind λx5=>(some (⟨x1,p0.aP,p0.aG9⟩:M.aGr))))
def gA (p0:M.World) (x1:M.aA) (x3:(List M.bJ)) (x5:M.aR) (x7:M.aGt) (ae:List M.aGl):Nat->Int->List M.aGr->Option M.World
 | 0,_,_=>none
 | ai+1,af,aa=>if (decide (af<(List.length p0.aGz:Int)))=true then ((idx p0.aGz af).bind λaj=>((xL aj).bind λah=>((app 96 aa ([ah])).bind λak=>(gA p0 x1 x3 x5 x7 ae ai (i64.wrap (af+1)) (aa++[ah]))))) else (some (⟨p0.Now,p0.aHA,p0.aGp,x1,x3,p0.aGv,x5,x7,ae,aa⟩:M.World))
def iO (p0:M.World) (x1:M.aA) (x3:(List M.bJ)) (x5:M.aR) (x7:M.aGt):Nat->Int->List M.aGl->Option M.World
 | 0,_,_=>none
 | ah+1,ae,aa=>if (decide (ae<(List.length p0.aG2:Int)))=true then ((idx p0.aG2 ae).bind λai=>((pO ai).bind λaf=>((app 56 aa ([af])).bind λaj=>(iO p0 x1 x3 x5 x7 ah (i64.wrap (ae+1)) (aa++[af]))))) else (gA p0 x1 x3 x5 x7 aa fuel 0 ([]:List M.aGr))
def yP (p0:M.World):Option M.World:=
 (vM p0.aA).bind λx1=>((yI p0.aGx).bind λx3=>((yK p0.aGy).bind λx5=>((wD p0.aGt).bind λx7=>(iO p0 x1 x3 x5 x7 fuel 0 ([]:List M.aGl)))))
def cJ (p0:List ByteArray) (p1:ByteArray):Nat->Int->Option Int
 | 0,_=>none
 | aa+1,v8=>if (decide (v8<(List.length p0:Int)))=true then ((idx p0 v8).bind λx7=>(if (p1.toList==x7.toList)=true then (some v8) else (cJ p0 p1 aa (i64.wrap (v8+1))))) else (some (-1))
def mC (p0:List ByteArray) (p1:ByteArray):Option Int:=
 cJ p0 p1 fuel 0
def tD (p0:ByteArray):Option Int:=
 (mC ([(⟨#[98,97,110,107]⟩:ByteArray),(⟨#[110,101,119,115]⟩:ByteArray),(⟨#[115,104,111,112]⟩:ByteArray)]) p0).bind λx1=>(some x1)
def iU (p0:ByteArray) (p1:Int) (p2:Bool):Nat->Int->Option Bool
 | 0,_=>none
 | aa+1,v7=>if (decide (v7<(p0.size:Int)))=true then ((W3 p0 v7).bind λx7=>(if (decide ((x7.toNat:Int)>=97))=true then (if (decide ((x7.toNat:Int)<=122))=true then (iU p0 p1 p2 aa (i64.wrap (v7+1))) else (if p2=true then (if (!((x7.toNat:Int)==47))=true then (some false) else (iU p0 p1 p2 aa (i64.wrap (v7+1)))) else (some false))) else (if p2=true then (if (!((x7.toNat:Int)==47))=true then (some false) else (iU p0 p1 p2 aa (i64.wrap (v7+1)))) else (some false)))) else ((bB (p0.size:Int) 1 p1).bind λae=>(some ae))
def At (p0:ByteArray) (p1:Int) (p2:Bool):Option Bool:=
 iU p0 p1 p2 fuel 0
def cP (p0:ByteArray):Option Bool:=
 (At p0 8 false).bind λx1=>(some x1)
def dO (p0:M.aGf):Nat->Int->Int->Option Bool
 | 0,_,_=>none
 | af+1,v3,ae=>if (decide (ae<((3:Nat):Int)))=true then ((idx ([p0.aHF,p0.aHC,p0.aG6]) ae).bind λaa=>((bB aa 0 1000000000000).bind λah=>(if (!ah)=true then (some false) else (if (aa != 0)=true then (if (decide (aa<=v3))=true then (some false) else (dO p0 af (if aa>v3 then aa else v3) (i64.wrap (ae+1)))) else (dO p0 af (if aa>v3 then aa else v3) (i64.wrap (ae+1))))))) else ((cP p0.aGl).bind λai=>(some ai))
def wH (p0:M.aGf):Option Bool:=
 dO p0 fuel 0 0
def tB (p0:M.aGm):Option Bool:=
 (bB p0.aHX 1 4).bind λx1=>(if x1=true then ((bB p0.aHO 0 999).bind λx4=>(if x4=true then ((bB p0.aGg 0 1000000000000).bind λx7=>(if x7=true then (some (decide ((List.length p0.aHT:Int)<=60))) else (some false))) else (some false))) else (some false))
def fA (x8:M.aGo) (af:Int->Option Bool):Nat->Int->Option Bool
 | 0,_=>none
 | ah+1,aa=>if (decide (aa<(List.length x8.aGs:Int)))=true then ((idx x8.aGs aa).bind λae=>((cP ae.aGl).bind λai=>(if (!ai)=true then (some false) else ((cP ae.aHQ).bind λaj=>(if (!aj)=true then (some false) else ((pG x8 ae.aGl ae.aHQ).bind λak=>(if (ak != aa)=true then (some false) else ((tB ae.aGm).bind λal=>(if (!al)=true then (some false) else (fA x8 af ah (i64.wrap (aa+1)))))))))))) else (af aa)
def eP (x8:M.aGo) (af:Int->Option Bool):Nat->Int->Option Bool
 | 0,_=>none
 | ah+1,aa=>if (decide (aa<(List.length x8.aGs:Int)))=true then ((idx x8.aGs aa).bind λae=>((cP ae.aGl).bind λai=>(if (!ai)=true then (some false) else ((cP ae.aHQ).bind λaj=>(if (!aj)=true then (some false) else ((pG x8 ae.aGl ae.aHQ).bind λak=>(if (ak != aa)=true then (some false) else ((tB ae.aGm).bind λal=>(if (!al)=true then (some false) else (eP x8 af ah (i64.wrap (aa+1)))))))))))) else (af aa)
def eZ (p0:M.aC):Nat->Int->Option Bool
 | 0,_=>none
 | af+1,v10=>if (decide (v10<(List.length p0.aGi:Int)))=true then ((idx p0.aGi v10).bind λx8=>((bB x8.aGg 1 1000000000000).bind λah=>(if (!ah)=true then (some false) else (if (decide (v10>0))=true then ((idx p0.aGi (i64.wrap (v10-1))).bind λai=>(if (decide (x8.aGg<=ai.aGg))=true then (some false) else (if (decide ((List.length x8.aGs:Int)>12))=true then (some false) else (fA x8 (λ(aa:Int)=>eZ p0 af (i64.wrap (v10+1))) fuel 0)))) else (if (decide ((List.length x8.aGs:Int)>12))=true then (some false) else (eP x8 (λ(ae:Int)=>eZ p0 af (i64.wrap (v10+1))) fuel 0)))))) else (some (decide ((List.length p0.aGi:Int)<=4)))
def wX (p0:M.aC):Option Bool:=
 eZ p0 fuel 0
def eG (p0:ByteArray):Nat->Int->Option Bool
 | 0,_=>none
 | aa+1,v3=>if (decide (v3<(p0.size:Int)))=true then ((W3 p0 v3).bind λx5=>(if (decide ((x5.toNat:Int)>=97))=true then (if (decide ((x5.toNat:Int)<=122))=true then (eG p0 aa (i64.wrap (v3+1))) else (if (decide ((x5.toNat:Int)>=48))=true then (if (!(decide ((x5.toNat:Int)<=57)))=true then (some false) else (eG p0 aa (i64.wrap (v3+1)))) else (some false))) else (if (decide ((x5.toNat:Int)>=48))=true then (if (!(decide ((x5.toNat:Int)<=57)))=true then (some false) else (eG p0 aa (i64.wrap (v3+1)))) else (some false)))) else (some (decide ((p0.size:Int)<=12)))
def yJ (p0:ByteArray):Option Bool:=
 eG p0 fuel 0
def vU (p0:M.Key):Option Bool:=
 (bB p0.aG7 1 3).bind λx1=>(if (!x1)=true then (some false) else ((bB p0.N (-1000000000000) 1000000000000).bind λx4=>(if (!x4)=true then (some false) else ((yJ p0.aHG).bind λx7=>(if (!x7)=true then (some false) else (if (p0.aG7==2)=true then (if (!(p0.N != 0))=true then (if (p0.aG7==1)=true then (some (!(!(p0.aHG.toList==(⟨#[]⟩:ByteArray).toList)))) else (some true)) else (some false)) else (if (p0.aG7==1)=true then (some (!(!(p0.aHG.toList==(⟨#[]⟩:ByteArray).toList)))) else (some true))))))))
def iA (p0:M.aE):Nat->Int->Option Bool
 | 0,_=>none
 | aa+1,v8=>if (decide (v8<(List.length p0.aGn:Int)))=true then ((idx p0.aGn v8).bind λx8=>((cP x8.Name).bind λaf=>(if (!af)=true then (some false) else ((bB x8.N 0 1000000000).bind λah=>(if (!ah)=true then (some false) else (if (decide (v8>0))=true then ((idx p0.aGn (i64.wrap (v8-1))).bind λae=>(if (Op.bytesLess x8.Name.toList ae.Name.toList||x8.Name.toList==ae.Name.toList)=true then (some false) else (iA p0 aa (i64.wrap (v8+1))))) else (iA p0 aa (i64.wrap (v8+1))))))))) else (some (decide ((List.length p0.aGn:Int)<=6)))
def xF (p0:M.aE):Option Bool:=
 iA p0 fuel 0
def vT (p0:Int) (p1:Int):Option Int:=
 if (decide (p0<p1))=true then (some (-1)) else (if (decide (p0>p1))=true then (some 1) else (some 0))
def nV (p0:ByteArray) (p1:ByteArray):Option Int:=some (Lib.compareBytes p0.data.toList p1.data.toList)
def Av (p0:ByteArray) (p1:ByteArray):Option Int:=
 (nV p0 p1).bind λx1=>(some x1)
def pY (p0:M.Key) (p1:M.Key):Option Int:=
 (vU p0).bind λx1=>(if (!x1)=true then (some 0) else ((vU p1).bind λx4=>(if (!x4)=true then (some 0) else ((vT p0.aG7 p1.aG7).bind λx7=>(if (x7 != 0)=true then (some x7) else ((vT p0.N p1.N).bind λaa=>(if (aa != 0)=true then (some aa) else ((Av p0.aHG p1.aHG).bind λae=>(some ae)))))))))
def jF (p0:M.aD):Nat->Int->Option Bool
 | 0,_=>none
 | aa+1,v8=>if (decide (v8<(List.length p0.aGk:Int)))=true then ((idx p0.aGk v8).bind λx8=>((vU x8.Key).bind λae=>(if (!ae)=true then (some false) else ((xF x8.aE).bind λaf=>(if (!af)=true then (some false) else (if (decide (v8>0))=true then ((idx p0.aGk (i64.wrap (v8-1))).bind λah=>((pY ah.Key x8.Key).bind λai=>(if (decide (ai>=0))=true then (some false) else (jF p0 aa (i64.wrap (v8+1)))))) else (jF p0 aa (i64.wrap (v8+1))))))))) else ((cP p0.Name).bind λaj=>(if aj=true then (if (decide ((List.length p0.aGk:Int)<=16))=true then ((bB p0.aHD 0 1000000).bind λak=>(some ak)) else (some false)) else (some false)))
def wP (p0:M.aD):Option Bool:=
 jF p0 fuel 0
def vV (p0:M.aD) (c0:ByteArray):Option Bool:=
 some (p0.Name.toList==c0.toList)
def dM (p0:List M.aD) (p1:M.aD->Option Bool):Nat->Int->Option Int
 | 0,_=>none
 | aa+1,v8=>if (decide (v8<(List.length p0:Int)))=true then ((idx p0 v8).bind λx7=>((p1 x7).bind λae=>(if ae=true then (some v8) else (dM p0 p1 aa (i64.wrap (v8+1)))))) else (some (-1))
def lY (p0:List M.aD) (p1:M.aD->Option Bool):Option Int:=
 dM p0 p1 fuel 0
def yL (p0:M.aGh) (p1:ByteArray):Option Int:=
 (lY p0.aGq (λz0=>vV z0 p1)).bind λx1=>(some x1)
def dU (p0:List M.aO) (p1:M.aO):Nat->Int->Option Int
 | 0,_=>none
 | aa+1,v8=>if (decide (v8<(List.length p0:Int)))=true then ((idx p0 v8).bind λx8=>(if ((p1.aD.toList==x8.aD.toList)&&(p1.Field.toList==x8.Field.toList))=true then (some v8) else (dU p0 p1 aa (i64.wrap (v8+1))))) else (some (-1))
def mS (p0:List M.aO) (p1:M.aO):Option Int:=
 dU p0 p1 fuel 0
def jJ (p0:List M.aO) (p1:M.aO):Option Bool:=
 (mS p0 p1).bind λx1=>(some (decide (x1>=0)))
def yH (p0:M.Field) (c0:ByteArray):Option Bool:=
 some (p0.Name.toList==c0.toList)
def dK (p0:List M.Field) (p1:M.Field->Option Bool):Nat->Int->Option Int
 | 0,_=>none
 | aa+1,v8=>if (decide (v8<(List.length p0:Int)))=true then ((idx p0 v8).bind λx7=>((p1 x7).bind λae=>(if ae=true then (some v8) else (dK p0 p1 aa (i64.wrap (v8+1)))))) else (some (-1))
def mF (p0:List M.Field) (p1:M.Field->Option Bool):Option Int:=
 dK p0 p1 fuel 0
def Cm (p0:M.aE) (p1:ByteArray):Option Int:=
 (mF p0.aGn (λz0=>yH z0 p1)).bind λx1=>(some x1)
def mV (p0:M.aE) (p1:ByteArray):Option (Int×Bool):=
 (Cm p0 p1).bind λx1=>(if (decide (x1<0))=true then (some (0,false)) else ((idx p0.aGn x1).bind λx4=>(some (x4.N,true))))
def vX (p0:M.aG1) (p1:M.aG1) (p2:ByteArray):Option Bool:=
 (mV p0.aE p2).bind λx1=>((mV p1.aE p2).bind λx3=>(if (decide (x1.1<x3.1))=true then (some true) else (if (x1.1==x3.1)=true then ((pY p0.Key p1.Key).bind λx7=>(some (decide (x7<0)))) else (some false))))
def oR (p1:ByteArray) (af:List M.aG1) (ah:M.aG1) (ae:Int->Option (List M.aG1)):Nat->Int->Option (List M.aG1)
 | 0,_=>none
 | ai+1,aa=>if (decide (aa>0))=true then ((idx af (i64.wrap (aa-1))).bind λaj=>((vX ah aj p1).bind λak=>(if ak=true then (oR p1 af ah ae ai (i64.wrap (aa-1))) else (ae aa)))) else (ae aa)
def lS (p0:M.aD) (p1:ByteArray):Nat->Int->List M.aG1->Option (List M.aG1)
 | 0,_,_=>none
 | ai+1,af,ae=>if (decide (af<(List.length p0.aGk:Int)))=true then ((idx p0.aGk af).bind λah=>((mV ah.aE p1).bind λak=>(if (!ak.2)=true then (lS p0 p1 ai (i64.wrap (af+1)) ae) else (oR p1 ae ah (λ(aa:Int)=>(xT ah).bind λaj=>((U3 56 ae aa ([aj])).bind λal=>(lS p0 p1 ai (i64.wrap (af+1)) (List.take aa.toNat ae++([aj]++List.drop aa.toNat ae))))) fuel (List.length ae:Int))))) else (some ae)
def AV (p0:M.aD) (p1:ByteArray):Option (List M.aG1):=
 lS p0 p1 fuel 0 ([]:List M.aG1)
def fQ (p1:ByteArray) (x1:(List M.aG1)):Nat->Int->Option (M.Key×M.Key×Bool)
 | 0,_=>none
 | af+1,v8=>if (decide (v8<(List.length x1:Int)))=true then ((idx x1 (i64.wrap (v8-1))).bind λaa=>((mV aa.aE p1).bind λah=>((idx x1 v8).bind λae=>((mV ae.aE p1).bind λai=>(if (ah.1==ai.1)=true then (some (aa.Key,ae.Key,true)) else (fQ p1 x1 af (i64.wrap (v8+1)))))))) else (some ((⟨0,0,(⟨#[]⟩:ByteArray)⟩:M.Key),(⟨0,0,(⟨#[]⟩:ByteArray)⟩:M.Key),false))
def jV (p0:M.aD) (p1:ByteArray):Option (M.Key×M.Key×Bool):=
 (AV p0 p1).bind λx1=>(fQ p1 x1 fuel 1)
def eY (p0:M.aGh):Nat->Int->Option Bool
 | 0,_=>none
 | ah+1,aa=>if (decide (aa<(List.length p0.aG3:Int)))=true then ((idx p0.aG3 aa).bind λae=>((yL p0 ae.aD).bind λaf=>(if (decide (af<0))=true then (some false) else ((cP ae.Field).bind λai=>(if (!ai)=true then (some false) else ((An p0.aG3 aa).bind λao=>((jJ (List.take aa.toNat p0.aG3) ae).bind λaj=>(if aj=true then (some false) else ((idx p0.aGq af).bind λak=>((jV ak ae.Field).bind λal=>(if al.2.2=true then (some false) else (eY p0 ah (i64.wrap (aa+1)))))))))))))) else (some true)
def eU (p0:M.aGh):Nat->Int->Option Bool
 | 0,_=>none
 | af+1,aa=>if (decide (aa<(List.length p0.aGq:Int)))=true then ((idx p0.aGq aa).bind λae=>((wP ae).bind λai=>(if (!ai)=true then (some false) else (if (decide (aa>0))=true then ((idx p0.aGq (i64.wrap (aa-1))).bind λah=>(if (Op.bytesLess ae.Name.toList ah.Name.toList||ae.Name.toList==ah.Name.toList)=true then (some false) else (eU p0 af (i64.wrap (aa+1))))) else (eU p0 af (i64.wrap (aa+1))))))) else (eY p0 fuel 0)
def wW (p0:M.aGh):Option Bool:=
 (cP p0.Name).bind λx1=>(if (!x1)=true then (some false) else ((bB p0.aGg 0 1000).bind λx4=>(if (!x4)=true then (some false) else (if (decide ((List.length p0.aGq:Int)>4))=true then (some false) else (if (decide ((List.length p0.aG3:Int)>4))=true then (some false) else (eU p0 fuel 0))))))
def nI (p0:M.bC):Option Bool:=
 (bB p0.aGp 1 1000000).bind λx1=>(if x1=true then ((bB p0.Seq 1 1000000).bind λx4=>(if x4=true then ((vU p0.Key).bind λx7=>(if x7=true then ((cP p0.Field).bind λaa=>(if aa=true then ((bB p0.N 0 1000000000).bind λae=>(some ae)) else (some false))) else (some false))) else (some false))) else (some false))
def mR (p0:M.aM):Nat->Int->Option Bool
 | 0,_=>none
 | ae+1,aa=>if (decide (aa<(List.length p0.aG0:Int)))=true then ((idx p0.aG0 aa).bind λx9=>((nI x9).bind λaf=>(if (!af)=true then (some false) else (if (x9.aGp != p0.aGp)=true then (some false) else (if (x9.Seq != (i64.wrap ((i64.wrap (p0.aHH-(List.length p0.aG0:Int)))+aa)))=true then (some false) else (mR p0 ae (i64.wrap (aa+1)))))))) else ((bB p0.aGp 1 1000000).bind λah=>(if ah=true then ((bB p0.aHH 1 1000000).bind λai=>(if ai=true then (some (decide ((List.length p0.aG0:Int)<=20))) else (some false))) else (some false)))
def zZ (p0:M.aM):Option Bool:=
 mR p0 fuel 0
def yW (p0:M.aH):Option Bool:=
 (wP p0.aG4).bind λx1=>(if x1=true then (if (p0.aG4.Name.toList==(⟨#[110,111,116,101,115]⟩:ByteArray).toList)=true then ((bB p0.aHS 0 1000000000000).bind λx5=>(if x5=true then ((zZ p0.aG5.aM).bind λx8=>(some x8)) else (some false))) else (some false)) else (some false))
def xX (p0:M.aGm) (p1:Bool):Option Int:=
 if p1=true then (some 76) else (some (i64.wrap (16+(List.length p0.aHT:Int))))
def jM (x7:M.aGo) (af:Int->Int->Option Int):Nat->Int->Int->Option Int
 | 0,_,_=>none
 | ai+1,ae,aa=>if (decide (aa<(List.length x7.aGs:Int)))=true then ((idx x7.aGs aa).bind λah=>((xX ah.aGm (ah.aGm.aHX==3)).bind λaj=>(jM x7 af ai (i64.wrap (ae+aj)) (i64.wrap (aa+1))))) else (af ae aa)
def eX (p0:M.aC):Nat->Int->Int->Option Int
 | 0,_,_=>none
 | af+1,v3,v11=>if (decide (v11<(List.length p0.aGi:Int)))=true then ((idx p0.aGi v11).bind λx7=>(jM x7 (λ(aa:Int) (ae:Int)=>eX p0 af aa (i64.wrap (v11+1))) fuel v3 0)) else (some v3)
def xQ (p0:M.aC):Option Int:=
 eX p0 fuel 0 0
def gB (p0:M.Key):Nat->Int->List Int->Option (List Int)
 | 0,_,_=>none
 | ae+1,v4,aa=>if (decide (v4>=0))=true then (if (decide (0<=(i64.wrap (8*v4))))=true then ((app 1 aa ([(IntKind.u8.wrap (Int.fdiv (i64.wrap (p0.N+1000000000000)) (2^(min (i64.wrap (8*v4)).toNat IntKind.i64.bits))))])).bind λaf=>(gB p0 ae (i64.wrap (v4-1)) (aa++[(IntKind.u8.wrap (Int.fdiv (i64.wrap (p0.N+1000000000000)) (2^(min (i64.wrap (8*v4)).toNat IntKind.i64.bits))))]))) else none) else ((app 1 aa (bR p0.aHG)).bind λah=>(some (aa++bR p0.aHG)))
def yU (p0:M.Key):Option (List Int):=
 (vU p0).bind λx1=>(if (!x1)=true then (some ([]:List Int)) else (if (p0.aG7 != 2)=true then (gB p0 fuel 5 ([(IntKind.u8.wrap p0.aG7)])) else ((app 1 ([(IntKind.u8.wrap p0.aG7)]) (bR p0.aHG)).bind λaa=>(some ([(IntKind.u8.wrap p0.aG7)]++bR p0.aHG)))))
def gD  : Nat->Int->List Int->Option (List Int)
 | 0,_,_=>none
 | aa+1,v1,r7=>if (decide (v1>=128))=true then ((app 1 r7 ([(IntKind.u8.wrap (i64.wrap ((Int.tmod v1 128)+128)))])).bind λae=>(gD aa (i64.wrap (Int.tdiv v1 128)) (r7++[(IntKind.u8.wrap (i64.wrap ((Int.tmod v1 128)+128)))]))) else ((app 1 r7 ([(IntKind.u8.wrap v1)])).bind λaf=>(some (r7++[(IntKind.u8.wrap v1)])))
def jL (p0:List Int) (p1:Int):Option (List Int):=
 (kW p0).bind λx1=>((bB p1 0 1000000000000).bind λx3=>(if (!x3)=true then (some x1) else (gD fuel p1 x1)))
def wC (p0:List Int) (p1:List Int):Option (List Int):=
 (jL p0 (List.length p1:Int)).bind λx1=>((app 1 x1 p1).bind λx3=>(some (x1++p1)))
def gY (p0:M.aE):Nat->Int->List Int->Option (List Int)
 | 0,_,_=>none
 | ah+1,ae,aa=>if (decide (ae<(List.length p0.aGn:Int)))=true then ((idx p0.aGn ae).bind λaf=>((wC aa (bR af.Name)).bind λai=>((jL ai af.N).bind λaj=>(gY p0 ah (i64.wrap (ae+1)) aj)))) else (some aa)
def tW (p0:M.aE):Option (List Int):=
 (xF p0).bind λx1=>(if (!x1)=true then (some ([]:List Int)) else ((jL ([]:List Int) (List.length p0.aGn:Int)).bind λx4=>(gY p0 fuel 0 x4)))
def lB (p0:M.aD):Nat->Int->Int->Option Int
 | 0,_,_=>none
 | aa+1,v3,v9=>if (decide (v9<(List.length p0.aGk:Int)))=true then ((idx p0.aGk v9).bind λx7=>((yU x7.Key).bind λae=>((tW x7.aE).bind λaf=>(lB p0 aa (i64.wrap (v3+(i64.wrap ((List.length ae:Int)+(List.length af:Int))))) (i64.wrap (v9+1)))))) else (some v3)
def uW (p0:M.aD):Option Int:=
 lB p0 fuel 0 0
def gV (p0:M.aGh):Nat->Int->Int->Option Int
 | 0,_,_=>none
 | aa+1,v3,v9=>if (decide (v9<(List.length p0.aGq:Int)))=true then ((idx p0.aGq v9).bind λx7=>((uW x7).bind λae=>(gV p0 aa (i64.wrap (v3+ae)) (i64.wrap (v9+1))))) else (some v3)
def tU (p0:M.aGh):Option Int:=
 gV p0 fuel 0 0
def BF (p0:M.bW):Option Int:=
 (tU p0.aG4).bind λx1=>(some (i64.wrap (x1+(List.length p0.Log:Int))))
def AU (p0:M.aG):Option Int:=
 (xQ p0.aGi).bind λx1=>((BF p0.bW).bind λx3=>((uW p0.aH.aG4).bind λx5=>(some (i64.wrap ((i64.wrap ((i64.wrap (x1+x3))+x5))+(i64.wrap (40*(List.length p0.aH.aG5.aM.aG0:Int))))))))
def Ah (p0:M.aG):Option Bool:=
 (cP p0.aGl).bind λx1=>(if x1=true then ((cP p0.Top).bind λx4=>(if x4=true then ((wH p0.aGf).bind λx7=>(if x7=true then (if (p0.aGf.aGl.toList==p0.aGl.toList)=true then ((wX p0.aGi).bind λaa=>(if aa=true then ((wW p0.bW.aG4).bind λae=>(if ae=true then ((yW p0.aH).bind λaf=>(if af=true then ((bB p0.aHI 0 1000000000000).bind λah=>(if ah=true then ((AU p0).bind λai=>(some (decide (ai<=2500)))) else (some false))) else (some false))) else (some false))) else (some false))) else (some false)) else (some false))) else (some false))) else (some false))
def uF (p0:M.aG) (p1:M.aG):Option Bool:=
 if (Op.bytesLess p0.aGl.toList p1.aGl.toList)=true then (some true) else (if (p0.aGl.toList==p1.aGl.toList)=true then (some (Op.bytesLess p0.Top.toList p1.Top.toList)) else (some false))
def gE (p0:M.aA):Nat->Int->Option Bool
 | 0,_=>none
 | aa+1,v8=>if (decide (v8<(List.length p0.aGj:Int)))=true then ((idx p0.aGj v8).bind λx8=>((Ah x8).bind λae=>(if (!ae)=true then (some false) else (if (decide (v8>0))=true then ((idx p0.aGj (i64.wrap (v8-1))).bind λaf=>((uF af x8).bind λah=>(if (!ah)=true then (some false) else (gE p0 aa (i64.wrap (v8+1)))))) else (gE p0 aa (i64.wrap (v8+1))))))) else (some (decide ((List.length p0.aGj:Int)<=9)))
def yQ (p0:M.aA):Option Bool:=
 gE p0 fuel 0
def wY (p0:ByteArray):Option Bool:=
 (At p0 30 true).bind λx1=>(some x1)
def cV (p0:M.aR) (v10:Int) (x8:M.nW) (ae:Int->Option Bool):Nat->Int->Option Bool
 | 0,_=>none
 | af+1,aa=>if (decide (aa<(List.length (List.take v10.toNat p0.aGy):Int)))=true then ((idx (List.take v10.toNat p0.aGy) aa).bind λah=>(if (ah.Name.toList==x8.Name.toList)=true then (if x8.aHc=true then (if (!ah.aHc)=true then (some false) else (if (!x8.aHJ)=true then (some false) else (if (!ah.aHJ)=true then (some false) else (cV p0 v10 x8 ae af (i64.wrap (aa+1)))))) else (cV p0 v10 x8 ae af (i64.wrap (aa+1)))) else (cV p0 v10 x8 ae af (i64.wrap (aa+1))))) else (ae aa)
def fS (p0:M.aR):Nat->Int->Option Bool
 | 0,_=>none
 | ae+1,v10=>if (decide (v10<(List.length p0.aGy:Int)))=true then ((idx p0.aGy v10).bind λx8=>((wY x8.Name).bind λaf=>(if (!af)=true then (some false) else ((bB x8.bJ 1 1000000000000).bind λah=>(if (!ah)=true then (some false) else ((An p0.aGy v10).bind λai=>(cV p0 v10 x8 (λ(aa:Int)=>fS p0 ae (i64.wrap (v10+1))) fuel 0))))))) else (some (decide ((List.length p0.aGy:Int)<=12)))
def vQ (p0:M.aR):Option Bool:=
 fS p0 fuel 0
def sA (p0:M.bJ):Nat->Int->Option Bool
 | 0,_=>none
 | aa+1,v8=>if (decide (v8<(List.length p0.aW:Int)))=true then ((idx p0.aW v8).bind λx8=>((cP x8.aHQ).bind λae=>(if (!ae)=true then (some false) else (if (x8.aGg != p0.aGg)=true then (some false) else (sA p0 aa (i64.wrap (v8+1))))))) else ((bB p0.Id 1 1000000000000).bind λaf=>(if af=true then ((cP p0.aGl).bind λah=>(if ah=true then ((cP p0.Top).bind λai=>(if ai=true then ((bB p0.aGg 1 1000000000000).bind λaj=>(if aj=true then (some (decide ((List.length p0.aW:Int)<=8))) else (some false))) else (some false))) else (some false))) else (some false)))
def BV (p0:M.bJ):Option Bool:=
 sA p0 fuel 0
def tR (p0:M.aG) (c0:ByteArray) (c1:ByteArray):Option Bool:=
 if (p0.aGl.toList==c0.toList)=true then (some (p0.Top.toList==c1.toList)) else (some false)
def dD (p0:List M.aG) (p1:M.aG->Option Bool):Nat->Int->Option Int
 | 0,_=>none
 | aa+1,v8=>if (decide (v8<(List.length p0:Int)))=true then ((idx p0 v8).bind λx7=>((p1 x7).bind λae=>(if ae=true then (some v8) else (dD p0 p1 aa (i64.wrap (v8+1)))))) else (some (-1))
def kD (p0:List M.aG) (p1:M.aG->Option Bool):Option Int:=
 dD p0 p1 fuel 0
def tA (p0:M.aA) (p1:ByteArray) (p2:ByteArray):Option Int:=
 (kD p0.aGj (λz0=>tR z0 p1 p2)).bind λx1=>(some x1)
def kU (p0:M.aGl):Nat->Int->Option Bool
 | 0,_=>none
 | aa+1,v8=>if (decide (v8<(List.length p0.aG8:Int)))=true then ((idx p0.aG8 v8).bind λx8=>((cP x8).bind λaf=>(if (!af)=true then (some false) else (if (decide (v8>0))=true then ((idx p0.aG8 (i64.wrap (v8-1))).bind λae=>(if (Op.bytesLess x8.toList ae.toList||x8.toList==ae.toList)=true then (some false) else (kU p0 aa (i64.wrap (v8+1))))) else (kU p0 aa (i64.wrap (v8+1))))))) else ((cP p0.Name).bind λah=>(if ah=true then ((bB p0.aGg 1 1000000000000).bind λai=>(if ai=true then ((bB (List.length p0.aG8:Int) 1 6).bind λaj=>(some aj)) else (some false))) else (some false)))
def sP (p0:M.aGl):Option Bool:=
 kU p0 fuel 0
def jU (p0:M.aGr):Nat->Int->Option Bool
 | 0,_=>none
 | ae+1,aa=>if (decide (aa<(List.length p0.aG9:Int)))=true then ((idx p0.aG9 aa).bind λaf=>((nI af).bind λah=>(if (!ah)=true then (some false) else (jU p0 ae (i64.wrap (aa+1)))))) else ((wP p0.aD).bind λai=>(if ai=true then (if (p0.aD.Name.toList==(⟨#[110,111,116,101,115]⟩:ByteArray).toList)=true then (some (decide ((List.length p0.aP:Int)<=60))) else (some false)) else (some false)))
def hY (p0:M.aGr):Nat->Int->Option Bool
 | 0,_=>none
 | aa+1,v10=>if (decide (v10<(List.length p0.aP:Int)))=true then ((idx p0.aP v10).bind λx8=>((bB x8.aGp 1 1000000).bind λae=>(if (!ae)=true then (some false) else ((bB x8.Seq 0 1000000).bind λaf=>(if (!af)=true then (some false) else (if (decide (v10>0))=true then ((idx p0.aP (i64.wrap (v10-1))).bind λah=>(if (decide (x8.aGp<=ah.aGp))=true then (some false) else (hY p0 aa (i64.wrap (v10+1))))) else (hY p0 aa (i64.wrap (v10+1))))))))) else (jU p0 fuel 0)
def Ai (p0:M.aGr):Option Bool:=
 hY p0 fuel 0
def iY (p0:M.World):Nat->Int->Option Bool
 | 0,_=>none
 | af+1,aa=>if (decide (aa<(List.length p0.aG2:Int)))=true then ((idx p0.aG2 aa).bind λae=>((sP ae).bind λah=>(if (!ah)=true then (some false) else ((tD ae.Name).bind λai=>(if (ai != aa)=true then (some false) else ((idx p0.aGz aa).bind λaj=>((Ai aj).bind λak=>(if (!ak)=true then (some false) else (iY p0 af (i64.wrap (aa+1))))))))))) else (some true)
def fB (p0:M.World):Nat->Int->Option Bool
 | 0,_=>none
 | af+1,ae=>if (decide (ae<(List.length p0.aGx:Int)))=true then ((idx p0.aGx ae).bind λaa=>((BV aa).bind λah=>(if (!ah)=true then (some false) else (if (decide (aa.Id>=p0.aGv))=true then (some false) else (if (decide (ae>0))=true then ((idx p0.aGx (i64.wrap (ae-1))).bind λai=>(if (decide (aa.Id<=ai.Id))=true then (some false) else ((tA p0.aA aa.aGl aa.Top).bind λaj=>(if (decide (aj<0))=true then (some false) else (fB p0 af (i64.wrap (ae+1))))))) else ((tA p0.aA aa.aGl aa.Top).bind λak=>(if (decide (ak<0))=true then (some false) else (fB p0 af (i64.wrap (ae+1)))))))))) else (iY p0 fuel 0)
def yZ (p0:M.World):Option Bool:=
 (bB p0.Now 0 999999990000).bind λx1=>(if (!x1)=true then (some false) else ((bB p0.aGp 1 1000000).bind λx4=>(if (!x4)=true then (some false) else ((yQ p0.aA).bind λx7=>(if (!x7)=true then (some false) else (if (decide ((List.length p0.aGx:Int)>6))=true then (some false) else ((bB p0.aGv 1 1000000000000).bind λaa=>(if (!aa)=true then (some false) else ((vQ p0.aGy).bind λae=>(if (!ae)=true then (some false) else (if ((List.length p0.aG2:Int) != 3)=true then (some false) else (if ((List.length p0.aGz:Int) != 3)=true then (some false) else (fB p0 fuel 0)))))))))))))
def AW (p0:M.aGl):Option (M.aGl×Bool):=
 (pO p0).bind λx1=>((sP p0).bind λx3=>(if (!x3)=true then ((pO p0).bind λx6=>(some (x6,false))) else ((sP (⟨x1.Name,(i64.wrap (x1.aGg+1)),x1.aG8,x1.aHJ⟩:M.aGl)).bind λx8=>(if (!x8)=true then ((pO p0).bind λaa=>(some (aa,false))) else (some ((⟨x1.Name,(i64.wrap (x1.aGg+1)),x1.aG8,x1.aHJ⟩:M.aGl),true))))))
def nA (p0:M.World) (p1:ByteArray):Option (M.World×Bool):=
 (yP p0).bind λx1=>((tD p1).bind λx3=>((yZ p0).bind λx5=>(if (!x5)=true then (some (x1,false)) else (if (decide (x3<0))=true then (some (x1,false)) else ((idx p0.aG2 x3).bind λx9=>((AW x9).bind λaa=>(if (!aa.2)=true then (some (x1,false)) else ((idx x1.aG2 x3).bind λae=>(some ((⟨x1.Now,x1.aHA,x1.aGp,x1.aA,x1.aGx,x1.aGv,x1.aGy,x1.aGt,(List.set x1.aG2 x3.toNat aa.1),x1.aGz⟩:M.World),true))))))))))
def eI (p0:List M.aG) (p1:List M.aG) (p2:M.aG->M.aG->Option Bool):Nat->Int->Option Bool
 | 0,_=>none
 | ae+1,aa=>if (decide (aa<(List.length p0:Int)))=true then ((idx p0 aa).bind λx9=>((idx p1 aa).bind λaf=>((p2 x9 af).bind λah=>(if (!ah)=true then (some false) else (eI p0 p1 p2 ae (i64.wrap (aa+1))))))) else (some true)
def kJ (p0:List M.aG) (p1:List M.aG) (p2:M.aG->M.aG->Option Bool):Option Bool:=
 if ((List.length p0:Int) != (List.length p1:Int))=true then (some false) else (eI p0 p1 p2 fuel 0)
def fF (p0:List M.aGo) (p1:List M.aGo) (p2:M.aGo->M.aGo->Option Bool):Nat->Int->Option Bool
 | 0,_=>none
 | ae+1,aa=>if (decide (aa<(List.length p0:Int)))=true then ((idx p0 aa).bind λx9=>((idx p1 aa).bind λaf=>((p2 x9 af).bind λah=>(if (!ah)=true then (some false) else (fF p0 p1 p2 ae (i64.wrap (aa+1))))))) else (some true)
def lU (p0:List M.aGo) (p1:List M.aGo) (p2:M.aGo->M.aGo->Option Bool):Option Bool:=
 if ((List.length p0:Int) != (List.length p1:Int))=true then (some false) else (fF p0 p1 p2 fuel 0)
def eJ (p0:List M.aGw) (p1:List M.aGw) (p2:M.aGw->M.aGw->Option Bool):Nat->Int->Option Bool
 | 0,_=>none
 | ae+1,aa=>if (decide (aa<(List.length p0:Int)))=true then ((idx p0 aa).bind λx9=>((idx p1 aa).bind λaf=>((p2 x9 af).bind λah=>(if (!ah)=true then (some false) else (eJ p0 p1 p2 ae (i64.wrap (aa+1))))))) else (some true)
def kH (p0:List M.aGw) (p1:List M.aGw) (p2:M.aGw->M.aGw->Option Bool):Option Bool:=
 if ((List.length p0:Int) != (List.length p1:Int))=true then (some false) else (eJ p0 p1 p2 fuel 0)
def pQ (p0:M.aGm) (p1:M.aGm):Option Bool:=
 if (p0.aHX==p1.aHX)=true then (if (p0.aHO==p1.aHO)=true then (if (p0.aGg==p1.aGg)=true then ((oE p0.aHT p1.aHT).bind λx4=>(if x4=true then (some (p0.aHb==p1.aHb)) else (some false))) else (some false)) else (some false)) else (some false)
def pW (p0:M.aGw) (p1:M.aGw):Option Bool:=
 if (p0.aGl.toList==p1.aGl.toList)=true then (if (p0.aHQ.toList==p1.aHQ.toList)=true then ((pQ p0.aGm p1.aGm).bind λx3=>(some x3)) else (some false)) else (some false)
def rK (p0:M.aGo) (p1:M.aGo):Option Bool:=
 if (p0.aGg==p1.aGg)=true then ((kH p0.aGs p1.aGs (λz0 z1=>pW z0 z1)).bind λx2=>(some x2)) else (some false)
def pJ (p0:M.aC) (p1:M.aC):Option Bool:=
 (lU p0.aGi p1.aGi (λz0 z1=>rK z0 z1)).bind λx1=>(some x1)
def fC (p0:List M.aD) (p1:List M.aD) (p2:M.aD->M.aD->Option Bool):Nat->Int->Option Bool
 | 0,_=>none
 | ae+1,aa=>if (decide (aa<(List.length p0:Int)))=true then ((idx p0 aa).bind λx9=>((idx p1 aa).bind λaf=>((p2 x9 af).bind λah=>(if (!ah)=true then (some false) else (fC p0 p1 p2 ae (i64.wrap (aa+1))))))) else (some true)
def mH (p0:List M.aD) (p1:List M.aD) (p2:M.aD->M.aD->Option Bool):Option Bool:=
 if ((List.length p0:Int) != (List.length p1:Int))=true then (some false) else (fC p0 p1 p2 fuel 0)
def fW (p0:List M.aG1) (p1:List M.aG1) (p2:M.aG1->M.aG1->Option Bool):Nat->Int->Option Bool
 | 0,_=>none
 | ae+1,aa=>if (decide (aa<(List.length p0:Int)))=true then ((idx p0 aa).bind λx9=>((idx p1 aa).bind λaf=>((p2 x9 af).bind λah=>(if (!ah)=true then (some false) else (fW p0 p1 p2 ae (i64.wrap (aa+1))))))) else (some true)
def mO (p0:List M.aG1) (p1:List M.aG1) (p2:M.aG1->M.aG1->Option Bool):Option Bool:=
 if ((List.length p0:Int) != (List.length p1:Int))=true then (some false) else (fW p0 p1 p2 fuel 0)
def jG (p0:List M.Field) (p1:List M.Field):Nat->Int->Option Bool
 | 0,_=>none
 | af+1,aa=>if (decide (aa<(List.length p0:Int)))=true then ((idx p0 aa).bind λx8=>((idx p1 aa).bind λae=>(if (!((x8.Name.toList==ae.Name.toList)&&(x8.N==ae.N)))=true then (some false) else (jG p0 p1 af (i64.wrap (aa+1)))))) else (some true)
def sL (p0:List M.Field) (p1:List M.Field):Option Bool:=
 if ((List.length p0:Int) != (List.length p1:Int))=true then (some false) else (jG p0 p1 fuel 0)
def tT (p0:M.aE) (p1:M.aE):Option Bool:=
 (sL p0.aGn p1.aGn).bind λx1=>(some x1)
def tI (p0:M.aG1) (p1:M.aG1):Option Bool:=
 if ((p0.Key.aG7==p1.Key.aG7)&&((p0.Key.N==p1.Key.N)&&(p0.Key.aHG.toList==p1.Key.aHG.toList)))=true then ((tT p0.aE p1.aE).bind λx2=>(some x2)) else (some false)
def gZ (p0:M.aD) (p1:M.aD):Option Bool:=
 if (p0.Name.toList==p1.Name.toList)=true then (if (p0.aHD==p1.aHD)=true then ((mO p0.aGk p1.aGk (λz0 z1=>tI z0 z1)).bind λx3=>(some x3)) else (some false)) else (some false)
def fV (p0:List M.aO) (p1:List M.aO):Nat->Int->Option Bool
 | 0,_=>none
 | af+1,aa=>if (decide (aa<(List.length p0:Int)))=true then ((idx p0 aa).bind λx8=>((idx p1 aa).bind λae=>(if (!((x8.aD.toList==ae.aD.toList)&&(x8.Field.toList==ae.Field.toList)))=true then (some false) else (fV p0 p1 af (i64.wrap (aa+1)))))) else (some true)
def nC (p0:List M.aO) (p1:List M.aO):Option Bool:=
 if ((List.length p0:Int) != (List.length p1:Int))=true then (some false) else (fV p0 p1 fuel 0)
def pP (p0:M.aGh) (p1:M.aGh):Option Bool:=
 if (p0.Name.toList==p1.Name.toList)=true then (if (p0.aGg==p1.aGg)=true then ((mH p0.aGq p1.aGq (λz0 z1=>gZ z0 z1)).bind λx3=>(if x3=true then ((nC p0.aG3 p1.aG3).bind λx6=>(some x6)) else (some false))) else (some false)) else (some false)
def xG (p0:M.bW) (p1:M.bW):Option Bool:=
 (pP p0.aG4 p1.aG4).bind λx1=>(if x1=true then ((oE p0.Log p1.Log).bind λx4=>(if x4=true then (some (p0.aHM==p1.aHM)) else (some false))) else (some false))
def iW (p0:List M.bC) (p1:List M.bC):Nat->Int->Option Bool
 | 0,_=>none
 | af+1,ae=>if (decide (ae<(List.length p0:Int)))=true then ((idx p0 ae).bind λx8=>((idx p1 ae).bind λaa=>(if (!((x8.aGp==aa.aGp)&&((x8.Seq==aa.Seq)&&((x8.Key.aG7==aa.Key.aG7)&&((x8.Key.N==aa.Key.N)&&((x8.Key.aHG.toList==aa.Key.aHG.toList)&&((x8.Field.toList==aa.Field.toList)&&(x8.N==aa.N))))))))=true then (some false) else (iW p0 p1 af (i64.wrap (ae+1)))))) else (some true)
def nK (p0:List M.bC) (p1:List M.bC):Option Bool:=
 if ((List.length p0:Int) != (List.length p1:Int))=true then (some false) else (iW p0 p1 fuel 0)
def sM (p0:M.aM) (p1:M.aM):Option Bool:=
 if (p0.aGp==p1.aGp)=true then (if (p0.aHH==p1.aHH)=true then ((nK p0.aG0 p1.aG0).bind λx3=>(some x3)) else (some false)) else (some false)
def xV (p0:M.aG5) (p1:M.aG5):Option Bool:=
 (sM p0.aM p1.aM).bind λx1=>(if x1=true then (if (p0.aHL==p1.aHL)=true then (some (p0.aHB==p1.aHB)) else (some false)) else (some false))
def sD (p0:M.aH) (p1:M.aH):Option Bool:=
 (gZ p0.aG4 p1.aG4).bind λx1=>(if x1=true then (if (p0.aHS==p1.aHS)=true then ((xV p0.aG5 p1.aG5).bind λx5=>(some x5)) else (some false)) else (some false))
def oO (p0:M.aG) (p1:M.aG):Option Bool:=
 if (p0.aGl.toList==p1.aGl.toList)=true then (if (p0.Top.toList==p1.Top.toList)=true then (if ((p0.aGf.aGl.toList==p1.aGf.aGl.toList)&&((p0.aGf.aG6==p1.aGf.aG6)&&((p0.aGf.aHC==p1.aGf.aHC)&&(p0.aGf.aHF==p1.aGf.aHF))))=true then ((pJ p0.aGi p1.aGi).bind λx4=>(if x4=true then ((xG p0.bW p1.bW).bind λx7=>(if x7=true then ((sD p0.aH p1.aH).bind λaa=>(if aa=true then (if (p0.aHI==p1.aHI)=true then (some (p0.aHE==p1.aHE)) else (some false)) else (some false))) else (some false))) else (some false))) else (some false)) else (some false)) else (some false)
def sJ (p0:M.aA) (p1:M.aA):Option Bool:=
 (kJ p0.aGj p1.aGj (λz0 z1=>oO z0 z1)).bind λx1=>(some x1)
def fY (p0:List M.bJ) (p1:List M.bJ) (p2:M.bJ->M.bJ->Option Bool):Nat->Int->Option Bool
 | 0,_=>none
 | ae+1,aa=>if (decide (aa<(List.length p0:Int)))=true then ((idx p0 aa).bind λx9=>((idx p1 aa).bind λaf=>((p2 x9 af).bind λah=>(if (!ah)=true then (some false) else (fY p0 p1 p2 ae (i64.wrap (aa+1))))))) else (some true)
def mN (p0:List M.bJ) (p1:List M.bJ) (p2:M.bJ->M.bJ->Option Bool):Option Bool:=
 if ((List.length p0:Int) != (List.length p1:Int))=true then (some false) else (fY p0 p1 p2 fuel 0)
def iD (p0:List M.aW) (p1:List M.aW):Nat->Int->Option Bool
 | 0,_=>none
 | af+1,aa=>if (decide (aa<(List.length p0:Int)))=true then ((idx p0 aa).bind λx8=>((idx p1 aa).bind λae=>(if (!((x8.aHQ.toList==ae.aHQ.toList)&&(x8.aGg==ae.aGg)))=true then (some false) else (iD p0 p1 af (i64.wrap (aa+1)))))) else (some true)
def pK (p0:List M.aW) (p1:List M.aW):Option Bool:=
 if ((List.length p0:Int) != (List.length p1:Int))=true then (some false) else (iD p0 p1 fuel 0)
def jB (p0:List M.Instr) (p1:List M.Instr):Nat->Int->Option Bool
 | 0,_=>none
 | af+1,aa=>if (decide (aa<(List.length p0:Int)))=true then ((idx p0 aa).bind λx8=>((idx p1 aa).bind λae=>(if (!((x8.aG7==ae.aG7)&&((x8.R==ae.R)&&((x8.N==ae.N)&&(x8.aHG.toList==ae.aHG.toList)))))=true then (some false) else (jB p0 p1 af (i64.wrap (aa+1)))))) else (some true)
def sG (p0:List M.Instr) (p1:List M.Instr):Option Bool:=
 if ((List.length p0:Int) != (List.length p1:Int))=true then (some false) else (jB p0 p1 fuel 0)
def lZ (p0:List Int) (p1:List Int):Nat->Int->Option Bool
 | 0,_=>none
 | ae+1,aa=>if (decide (aa<(List.length p0:Int)))=true then ((idx p0 aa).bind λx8=>((idx p1 aa).bind λaf=>(if (x8 != af)=true then (some false) else (lZ p0 p1 ae (i64.wrap (aa+1)))))) else (some true)
def vZ (p0:List Int) (p1:List Int):Option Bool:=
 if ((List.length p0:Int) != (List.length p1:Int))=true then (some false) else (lZ p0 p1 fuel 0)
def sC (p0:M.aGu) (p1:M.aGu):Option Bool:=
 (sG p0.aHP p1.aHP).bind λx1=>(if x1=true then (if (p0.Pc==p1.Pc)=true then ((vZ p0.aHY p1.aHY).bind λx5=>(if x5=true then (if (p0.aHV==p1.aHV)=true then (if (p0.aHd==p1.aHd)=true then (some (p0.aHf==p1.aHf)) else (some false)) else (some false)) else (some false))) else (some false)) else (some false))
def gJ (p0:M.bJ) (p1:M.bJ):Option Bool:=
 if (p0.Id==p1.Id)=true then (if (p0.aGl.toList==p1.aGl.toList)=true then (if (p0.Top.toList==p1.Top.toList)=true then (if (p0.aGg==p1.aGg)=true then ((pK p0.aW p1.aW).bind λx5=>(if x5=true then ((sC p0.aGu p1.aGu).bind λx8=>(some x8)) else (some false))) else (some false)) else (some false)) else (some false)) else (some false)
def kB (p0:List M.nW) (p1:List M.nW):Nat->Int->Option Bool
 | 0,_=>none
 | af+1,aa=>if (decide (aa<(List.length p0:Int)))=true then ((idx p0 aa).bind λx8=>((idx p1 aa).bind λae=>(if (!((x8.Name.toList==ae.Name.toList)&&((x8.bJ==ae.bJ)&&((x8.aHJ==ae.aHJ)&&(x8.aHc==ae.aHc)))))=true then (some false) else (kB p0 p1 af (i64.wrap (aa+1)))))) else (some true)
def tZ (p0:List M.nW) (p1:List M.nW):Option Bool:=
 if ((List.length p0:Int) != (List.length p1:Int))=true then (some false) else (kB p0 p1 fuel 0)
def kA (p0:List M.Bk) (p1:List M.Bk):Nat->Int->Option Bool
 | 0,_=>none
 | af+1,aa=>if (decide (aa<(List.length p0:Int)))=true then ((idx p0 aa).bind λx8=>((idx p1 aa).bind λae=>(if (!((x8.To==ae.To)&&((x8.aHh==ae.aHh)&&(x8.N==ae.N))))=true then (some false) else (kA p0 p1 af (i64.wrap (aa+1)))))) else (some true)
def uJ (p0:List M.Bk) (p1:List M.Bk):Option Bool:=
 if ((List.length p0:Int) != (List.length p1:Int))=true then (some false) else (kA p0 p1 fuel 0)
def fX (p0:List M.aGl) (p1:List M.aGl) (p2:M.aGl->M.aGl->Option Bool):Nat->Int->Option Bool
 | 0,_=>none
 | ae+1,aa=>if (decide (aa<(List.length p0:Int)))=true then ((idx p0 aa).bind λx9=>((idx p1 aa).bind λaf=>((p2 x9 af).bind λah=>(if (!ah)=true then (some false) else (fX p0 p1 p2 ae (i64.wrap (aa+1))))))) else (some true)
def nB (p0:List M.aGl) (p1:List M.aGl) (p2:M.aGl->M.aGl->Option Bool):Option Bool:=
 if ((List.length p0:Int) != (List.length p1:Int))=true then (some false) else (fX p0 p1 p2 fuel 0)
def iC (p0:List ByteArray) (p1:List ByteArray):Nat->Int->Option Bool
 | 0,_=>none
 | ae+1,aa=>if (decide (aa<(List.length p0:Int)))=true then ((idx p0 aa).bind λx8=>((idx p1 aa).bind λaf=>(if (!(x8.toList==af.toList))=true then (some false) else (iC p0 p1 ae (i64.wrap (aa+1)))))) else (some true)
def pM (p0:List ByteArray) (p1:List ByteArray):Option Bool:=
 if ((List.length p0:Int) != (List.length p1:Int))=true then (some false) else (iC p0 p1 fuel 0)
def oJ (p0:M.aGl) (p1:M.aGl):Option Bool:=
 if (p0.Name.toList==p1.Name.toList)=true then (if (p0.aGg==p1.aGg)=true then ((pM p0.aG8 p1.aG8).bind λx3=>(if x3=true then (some (p0.aHJ==p1.aHJ)) else (some false))) else (some false)) else (some false)
def eH (p0:List M.aGr) (p1:List M.aGr) (p2:M.aGr->M.aGr->Option Bool):Nat->Int->Option Bool
 | 0,_=>none
 | ae+1,aa=>if (decide (aa<(List.length p0:Int)))=true then ((idx p0 aa).bind λx9=>((idx p1 aa).bind λaf=>((p2 x9 af).bind λah=>(if (!ah)=true then (some false) else (eH p0 p1 p2 ae (i64.wrap (aa+1))))))) else (some true)
def kM (p0:List M.aGr) (p1:List M.aGr) (p2:M.aGr->M.aGr->Option Bool):Option Bool:=
 if ((List.length p0:Int) != (List.length p1:Int))=true then (some false) else (eH p0 p1 p2 fuel 0)
def gM (p0:List M.aP) (p1:List M.aP):Nat->Int->Option Bool
 | 0,_=>none
 | af+1,aa=>if (decide (aa<(List.length p0:Int)))=true then ((idx p0 aa).bind λx8=>((idx p1 aa).bind λae=>(if (!((x8.aGp==ae.aGp)&&(x8.Seq==ae.Seq)))=true then (some false) else (gM p0 p1 af (i64.wrap (aa+1)))))) else (some true)
def nY (p0:List M.aP) (p1:List M.aP):Option Bool:=
 if ((List.length p0:Int) != (List.length p1:Int))=true then (some false) else (gM p0 p1 fuel 0)
def pA (p0:M.aGr) (p1:M.aGr):Option Bool:=
 (gZ p0.aD p1.aD).bind λx1=>(if x1=true then ((nY p0.aP p1.aP).bind λx4=>(if x4=true then ((nK p0.aG9 p1.aG9).bind λx7=>(some x7)) else (some false))) else (some false))
def rF (p0:M.World) (p1:M.World):Option Bool:=
 if (p0.Now==p1.Now)=true then (if (p0.aHA==p1.aHA)=true then (if (p0.aGp==p1.aGp)=true then ((sJ p0.aA p1.aA).bind λx4=>(if x4=true then ((mN p0.aGx p1.aGx (λz0 z1=>gJ z0 z1)).bind λx7=>(if x7=true then (if (p0.aGv==p1.aGv)=true then ((tZ p0.aGy.aGy p1.aGy.aGy).bind λaa=>(if aa=true then ((uJ p0.aGt.aHN p1.aGt.aHN).bind λae=>(if ae=true then ((nB p0.aG2 p1.aG2 (λz0 z1=>oJ z0 z1)).bind λaf=>(if af=true then ((kM p0.aGz p1.aGz (λz0 z1=>pA z0 z1)).bind λah=>(some ah)) else (some false))) else (some false))) else (some false))) else (some false)) else (some false))) else (some false))) else (some false)) else (some false)) else (some false)
def dV (p0:List Int) (x4:(M.aC×M.aGl×Int)) (x6:Bool):Nat->Int->Option Bool
 | 0,_=>none
 | aj+1,v7=>(if (decide (v7<(List.length x4.2.1.aG8:Int)))=true then (some x6) else (some false)).bind λak=>(if ak=true then ((idx x4.2.1.aG8 v7).bind λae=>((hJ x4.1 x4.2.1 x4.2.2 ae false).bind λaf=>((if (af.aHO != 200)=true then (some true) else ((mZ x4.2.1 ae x4.2.2).bind λal=>((yM af.aHT al).bind λao=>(some (!ao))))).bind λaq=>(if aq=true then (some false) else (dV p0 x4 x6 aj (i64.wrap (v7+1))))))) else ((jZ p0).bind λaa=>((nA aa.1 aa.2).bind λah=>((fL aa.1 aa.2).bind λai=>((if (ah.2==ai.2)=true then ((rF ah.1 ai.1).bind λar=>(some ar)) else (some false)).bind λav=>(some av))))))
def nF (p0:List Int):Option Bool:=
 (Gf p0).bind λx1=>(if x1=true then (some true) else ((lX p0).bind λx4=>((sK x4.1 x4.2.1 x4.2.2).bind λx6=>((sI x4.1 x4.2.1 x4.2.2).bind λx8=>(if (!(x6==x8))=true then (some false) else (dV p0 x4 x6 fuel 0))))))
end Go.Proofs.YtipmihbgjolaaaaGreat.gen
