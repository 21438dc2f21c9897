/-
  Helper text. No conditions.
-/
import Derived.Test.YtipmihbgjolaaaaGreatStorageMod
import Derived.Test.YtipmihbgjolaaaaGreatProg
import Derived.KernelRfl
set_option linter.unusedVariables false
set_option linter.unusedSimpArgs false
namespace Go.Proofs.YtipmihbgjolaaaaGreat.gen
open Go Go.Sh
theorem mixed:Tryz.prog.follows .mixedOrders=true:=by kernel_rfl
theorem ti3:jP Tryz.prog 3=some { k:=.int .i64,size:=1,bytes:=8,zero:=[.dat (.int .i64 0)] }:=by kernel_rfl
theorem ti4:jP Tryz.prog 4=some { k:=.bool,size:=1,bytes:=1,zero:=[.dat (.bool false)] }:=by kernel_rfl
theorem ti5:jP Tryz.prog 5=some { k:=.int .u8,size:=1,bytes:=1,zero:=[.dat (.int .u8 0)] }:=by kernel_rfl
theorem ti9:jP Tryz.prog 9=some { k:=.str,size:=1,bytes:=16,zero:=[.dat (.str ⟨#[]⟩)] }:=by kernel_rfl
theorem TV:jP Tryz.prog 22=some { k:=.slice 5,size:=1,bytes:=24,zero:=[.nil],sl:=[some (5,1)] }:=by kernel_rfl
theorem Yk:jP Tryz.prog 24=some { k:=.slice 49,size:=1,bytes:=24,zero:=[.nil],sl:=[some (49,24)] }:=by kernel_rfl
theorem YJ:jP Tryz.prog 26=some { k:=.struct [(0,1,false)],size:=1,bytes:=24,zero:=[.nil],sl:=[some (49,24)] }:=by kernel_rfl
theorem YA:jP Tryz.prog 28=some { k:=.struct [(0,1,false),(1,1,false),(2,1,false),(3,1,false)],size:=4,bytes:=40,zero:=[.dat (.str ⟨#[]⟩),.dat (.int .i64 0),.dat (.int .i64 0),.dat (.int .i64 0)],cmp:=[.str,.int,.int,.int] }:=by kernel_rfl
theorem Ms:jP Tryz.prog 29=some { k:=.slice 193,size:=1,bytes:=24,zero:=[.nil],sl:=[some (193,2)] }:=by kernel_rfl
theorem xY:jP Tryz.prog 31=some { k:=.struct [(0,1,false)],size:=1,bytes:=24,zero:=[.nil],sl:=[some (193,2)] }:=by kernel_rfl
theorem SG:jP Tryz.prog 32=some { k:=.slice 40,size:=1,bytes:=24,zero:=[.nil],sl:=[some (40,3)] }:=by kernel_rfl
theorem Tu:jP Tryz.prog 33=some { k:=.slice 282,size:=1,bytes:=24,zero:=[.nil],sl:=[some (282,2)] }:=by kernel_rfl
theorem OQ:jP Tryz.prog 35=some { k:=.struct [(0,1,false),(1,1,false),(2,1,false),(3,1,false)],size:=4,bytes:=72,zero:=[.dat (.str ⟨#[]⟩),.dat (.int .i64 0),.nil,.nil],sl:=[none,none,some (40,3),some (282,2)] }:=by kernel_rfl
theorem Yl:jP Tryz.prog 37=some { k:=.struct [(0,4,true),(4,1,false),(5,1,false)],size:=6,bytes:=104,zero:=[.dat (.str ⟨#[]⟩),.dat (.int .i64 0),.nil,.nil,.nil,.dat (.int .i64 0)],sl:=[none,none,some (40,3),some (282,2),some (5,1),none] }:=by kernel_rfl
theorem YU:jP Tryz.prog 38=some { k:=.slice 284,size:=1,bytes:=24,zero:=[.nil],sl:=[some (284,4)] }:=by kernel_rfl
theorem SB:jP Tryz.prog 40=some { k:=.struct [(0,1,false),(1,1,false),(2,1,false)],size:=3,bytes:=48,zero:=[.dat (.str ⟨#[]⟩),.nil,.dat (.int .i64 0)],sl:=[none,some (284,4),none] }:=by kernel_rfl
theorem YP:jP Tryz.prog 41=some { k:=.slice 211,size:=1,bytes:=24,zero:=[.nil],sl:=[some (211,7)] }:=by kernel_rfl
theorem YL:jP Tryz.prog 43=some { k:=.struct [(0,1,false),(1,1,false),(2,1,false)],size:=3,bytes:=40,zero:=[.dat (.int .i64 0),.dat (.int .i64 0),.nil],sl:=[none,none,some (211,7)] }:=by kernel_rfl
theorem Yt:jP Tryz.prog 45=some { k:=.struct [(0,3,true),(3,1,false),(4,1,false)],size:=5,bytes:=56,zero:=[.dat (.int .i64 0),.dat (.int .i64 0),.nil,.dat (.int .i64 0),.dat (.int .i64 0)],sl:=[none,none,some (211,7),none,none] }:=by kernel_rfl
theorem S3:jP Tryz.prog 47=some { k:=.struct [(0,3,true),(3,1,false),(4,5,true)],size:=9,bytes:=112,zero:=[.dat (.str ⟨#[]⟩),.nil,.dat (.int .i64 0),.dat (.int .i64 0),.dat (.int .i64 0),.dat (.int .i64 0),.nil,.dat (.int .i64 0),.dat (.int .i64 0)],sl:=[none,some (284,4),none,none,none,none,some (211,7),none,none] }:=by kernel_rfl
theorem S5:jP Tryz.prog 49=some { k:=.struct [(0,1,false),(1,1,false),(2,4,true),(6,1,true),(7,6,true),(13,9,true),(22,1,false),(23,1,false)],size:=24,bytes:=328,zero:=[.dat (.str ⟨#[]⟩),.dat (.str ⟨#[]⟩),.dat (.str ⟨#[]⟩),.dat (.int .i64 0),.dat (.int .i64 0),.dat (.int .i64 0),.nil,.dat (.str ⟨#[]⟩),.dat (.int .i64 0),.nil,.nil,.nil,.dat (.int .i64 0),.dat (.str ⟨#[]⟩),.nil,.dat (.int .i64 0),.dat (.int .i64 0),.dat (.int .i64 0),.dat (.int .i64 0),.nil,.dat (.int .i64 0),.dat (.int .i64 0),.dat (.int .i64 0),.dat (.bool false)],sl:=[none,none,none,none,none,none,some (193,2),none,none,some (40,3),some (282,2),some (5,1),none,none,some (284,4),none,none,none,none,some (211,7),none,none,none,none] }:=by kernel_rfl
theorem X9:jP Tryz.prog 57=some { k:=.slice 96,size:=1,bytes:=24,zero:=[.nil],sl:=[some (96,11)] }:=by kernel_rfl
theorem TR:jP Tryz.prog 60=some { k:=.slice 9,size:=1,bytes:=24,zero:=[.nil],sl:=[some (9,1)] }:=by kernel_rfl
theorem Yy:jP Tryz.prog 90=some { k:=.slice 98,size:=1,bytes:=24,zero:=[.nil],sl:=[some (98,2)] }:=by kernel_rfl
theorem Ya:jP Tryz.prog 91=some { k:=.slice 216,size:=1,bytes:=24,zero:=[.nil],sl:=[some (216,4)] }:=by kernel_rfl
theorem TY:jP Tryz.prog 92=some { k:=.slice 3,size:=1,bytes:=24,zero:=[.nil],sl:=[some (3,1)] }:=by kernel_rfl
theorem Yv:jP Tryz.prog 94=some { k:=.struct [(0,1,false),(1,1,false),(2,1,false),(3,1,false),(4,1,false),(5,1,false)],size:=6,bytes:=72,zero:=[.nil,.dat (.int .i64 0),.nil,.dat (.int .i64 0),.dat (.bool false),.dat (.bool false)],sl:=[some (216,4),none,some (3,1),none,none,none] }:=by kernel_rfl
theorem Yp:jP Tryz.prog 96=some { k:=.struct [(0,1,false),(1,1,false),(2,1,false),(3,1,false),(4,1,false),(5,6,true)],size:=11,bytes:=144,zero:=[.dat (.int .i64 0),.dat (.str ⟨#[]⟩),.dat (.str ⟨#[]⟩),.dat (.int .i64 0),.nil,.nil,.dat (.int .i64 0),.nil,.dat (.int .i64 0),.dat (.bool false),.dat (.bool false)],sl:=[none,none,none,none,some (98,2),some (216,4),none,some (3,1),none,none,none] }:=by kernel_rfl
theorem YI:jP Tryz.prog 98=some { k:=.struct [(0,1,false),(1,1,false)],size:=2,bytes:=24,zero:=[.dat (.str ⟨#[]⟩),.dat (.int .i64 0)],cmp:=[.str,.int] }:=by kernel_rfl
theorem Sp:jP Tryz.prog 105=some { k:=.struct [(0,1,false),(1,1,false),(2,1,false),(3,1,false),(4,1,false)],size:=5,bytes:=56,zero:=[.dat (.int .i64 0),.dat (.int .i64 0),.dat (.int .i64 0),.nil,.dat (.bool false)],sl:=[none,none,none,some (5,1),none] }:=by kernel_rfl
theorem Uq:jP Tryz.prog 135=some { k:=.slice 207,size:=1,bytes:=24,zero:=[.nil],sl:=[some (207,2)] }:=by kernel_rfl
theorem UF:jP Tryz.prog 137=some { k:=.struct [(0,3,true),(3,1,false),(4,1,false)],size:=5,bytes:=96,zero:=[.dat (.str ⟨#[]⟩),.nil,.dat (.int .i64 0),.nil,.nil],sl:=[none,some (284,4),none,some (207,2),some (211,7)] }:=by kernel_rfl
theorem UD:jP Tryz.prog 182=some { k:=.struct [(0,1,false),(1,1,false),(2,1,false)],size:=3,bytes:=40,zero:=[.nil,.dat (.int .i64 0),.dat (.int .i64 0)],sl:=[some (5,1),none,none] }:=by kernel_rfl
theorem JM:jP Tryz.prog 191=some { k:=.slice 195,size:=1,bytes:=24,zero:=[.nil],sl:=[some (195,7)] }:=by kernel_rfl
theorem Cy:jP Tryz.prog 193=some { k:=.struct [(0,1,false),(1,1,false)],size:=2,bytes:=32,zero:=[.dat (.int .i64 0),.nil],sl:=[none,some (195,7)] }:=by kernel_rfl
theorem HG:jP Tryz.prog 195=some { k:=.struct [(0,1,false),(1,1,false),(2,5,true)],size:=7,bytes:=88,zero:=[.dat (.str ⟨#[]⟩),.dat (.str ⟨#[]⟩),.dat (.int .i64 0),.dat (.int .i64 0),.dat (.int .i64 0),.nil,.dat (.bool false)],sl:=[none,none,none,none,none,some (5,1),none] }:=by kernel_rfl
theorem Ur:jP Tryz.prog 207=some { k:=.struct [(0,1,false),(1,1,false)],size:=2,bytes:=16,zero:=[.dat (.int .i64 0),.dat (.int .i64 0)],cmp:=[.int,.int] }:=by kernel_rfl
theorem Um:jP Tryz.prog 209=some { k:=.struct [(0,1,false),(1,1,false),(2,1,false)],size:=3,bytes:=32,zero:=[.dat (.int .i64 0),.dat (.int .i64 0),.dat (.str ⟨#[]⟩)],cmp:=[.int,.int,.str] }:=by kernel_rfl
theorem UB:jP Tryz.prog 211=some { k:=.struct [(0,1,false),(1,1,false),(2,3,true),(5,1,false),(6,1,false)],size:=7,bytes:=72,zero:=[.dat (.int .i64 0),.dat (.int .i64 0),.dat (.int .i64 0),.dat (.int .i64 0),.dat (.str ⟨#[]⟩),.dat (.str ⟨#[]⟩),.dat (.int .i64 0)],cmp:=[.int,.int,.int,.int,.str,.str,.int] }:=by kernel_rfl
theorem Uz:jP Tryz.prog 216=some { k:=.struct [(0,1,false),(1,1,false),(2,1,false),(3,1,false)],size:=4,bytes:=40,zero:=[.dat (.int .i64 0),.dat (.int .i64 0),.dat (.int .i64 0),.dat (.str ⟨#[]⟩)],cmp:=[.int,.int,.int,.str] }:=by kernel_rfl
theorem UL:jP Tryz.prog 252=some { k:=.slice 356,size:=1,bytes:=24,zero:=[.nil],sl:=[some (356,2)] }:=by kernel_rfl
theorem UI:jP Tryz.prog 254=some { k:=.struct [(0,1,false)],size:=1,bytes:=24,zero:=[.nil],sl:=[some (356,2)] }:=by kernel_rfl
theorem T8:jP Tryz.prog 257=some { k:=.struct [(0,1,false),(1,1,false),(2,3,true),(5,1,true),(6,1,false)],size:=7,bytes:=96,zero:=[.dat (.int .i64 0),.dat (.str ⟨#[]⟩),.dat (.int .i64 0),.dat (.int .i64 0),.dat (.str ⟨#[]⟩),.nil,.dat (.str ⟨#[]⟩)],sl:=[none,none,none,none,none,some (356,2),none] }:=by kernel_rfl
theorem Ue:jP Tryz.prog 258=some { k:=.slice 257,size:=1,bytes:=24,zero:=[.nil],sl:=[some (257,7)] }:=by kernel_rfl
theorem Od:jP Tryz.prog 282=some { k:=.struct [(0,1,false),(1,1,false)],size:=2,bytes:=32,zero:=[.dat (.str ⟨#[]⟩),.dat (.str ⟨#[]⟩)],cmp:=[.str,.str] }:=by kernel_rfl
theorem Ut:jP Tryz.prog 284=some { k:=.struct [(0,3,true),(3,1,true)],size:=4,bytes:=56,zero:=[.dat (.int .i64 0),.dat (.int .i64 0),.dat (.str ⟨#[]⟩),.nil],sl:=[none,none,none,some (356,2)] }:=by kernel_rfl
theorem Uk:jP Tryz.prog 356=some { k:=.struct [(0,1,false),(1,1,false)],size:=2,bytes:=24,zero:=[.dat (.str ⟨#[]⟩),.dat (.int .i64 0)],cmp:=[.str,.int] }:=by kernel_rfl
theorem Un:jP Tryz.prog 365=some { k:=.slice 22,size:=1,bytes:=24,zero:=[.nil],sl:=[some (22,1)] }:=by kernel_rfl
theorem UM:jP Tryz.prog 380=some { k:=.struct [(0,1,false),(1,1,false),(2,1,false)],size:=3,bytes:=40,zero:=[.dat (.int .i64 0),.dat (.str ⟨#[]⟩),.dat (.str ⟨#[]⟩)],cmp:=[.int,.str,.str] }:=by kernel_rfl
theorem UU:jP Tryz.prog 426=some { k:=.struct [(0,1,false),(1,1,false),(2,3,true),(5,3,true)],size:=8,bytes:=72,zero:=[.dat (.bool false),.dat (.bool false),.dat (.int .i64 0),.dat (.int .i64 0),.dat (.str ⟨#[]⟩),.dat (.int .i64 0),.dat (.int .i64 0),.dat (.str ⟨#[]⟩)],cmp:=[.bool,.bool,.int,.int,.str,.int,.int,.str] }:=by kernel_rfl
abbrev Sc:=kM Tryz.prog
def M.aK.rs(r:M.aK):List RC:=[.ro (.str r.Zh),.ro (.str r.Zw),.ro (.str r.YZ.Zh),.ro (.int .i64 r.YZ.Zm),.ro (.int .i64 r.YZ.Zs),.ro (.int .i64 r.YZ.Zv),.own 193 2 (List.map M.Y6.en r.Y1.Y1),.ro (.str r.bG.Zf.Name),.ro (.int .i64 r.bG.Zf.Y2),.own 40 3 (List.map M.aA.en r.bG.Zf.Y5),.own 282 2 (List.map M.aM.en r.bG.Zf.Za),.own 5 1 (List.map enB r.bG.ZD),.ro (.int .i64 r.bG.Zu),.ro (.str r.aD.Zf.Name),.own 284 4 (List.map M.Zd.en r.aD.Zf.Y3),.ro (.int .i64 r.aD.Zf.Zn),.ro (.int .i64 r.aD.Zx),.ro (.int .i64 r.aD.Ze.aF.Zg),.ro (.int .i64 r.aD.Ze.aF.Zr),.own 211 7 (List.map M.aV.en r.aD.Ze.aF.Y9),.ro (.int .i64 r.aD.Ze.Zt),.ro (.int .i64 r.aD.Ze.Zj),.ro (.int .i64 r.Zo),.ro (.bool r.Zl)]
def M.Y6.rs(r:M.Y6):List RC:=[.ro (.int .i64 r.Y2),.own 195 7 (List.map M.Zb.en r.Y8)]
def M.aE.rs(r:M.aE):List RC:=[.own 193 2 (List.map M.Y6.en r.Y1)]
def M.YY.rs(r:M.YY):List RC:=[.ro (.str r.Name),.ro (.int .i64 r.Y2),.own 40 3 (List.map M.aA.en r.Y5),.own 282 2 (List.map M.aM.en r.Za)]
def M.bG.rs(r:M.bG):List RC:=[.ro (.str r.Zf.Name),.ro (.int .i64 r.Zf.Y2),.own 40 3 (List.map M.aA.en r.Zf.Y5),.own 282 2 (List.map M.aM.en r.Zf.Za),.own 5 1 (List.map enB r.ZD),.ro (.int .i64 r.Zu)]
def M.Instr.rs(r:M.Instr):List RC:=[.ro (.int .i64 r.Zi),.ro (.int .i64 r.R),.ro (.int .i64 r.N),.ro (.str r.Zp)]
def M.Zd.rs(r:M.Zd):List RC:=[.ro (.int .i64 r.Key.Zi),.ro (.int .i64 r.Key.N),.ro (.str r.Key.Zp),.own 356 2 (List.map M.Field.en r.aC.Y4)]
def M.Key.rs(r:M.Key):List RC:=[.ro (.int .i64 r.Zi),.ro (.int .i64 r.N),.ro (.str r.Zp)]
def M.Zc.rs(r:M.Zc):List RC:=[.own 216 4 (List.map M.Instr.en r.Zz),.ro (.int .i64 r.Pc),.own 3 1 (List.map enI r.ZK),.ro (.int .i64 r.ZG),.ro (.bool r.ZL),.ro (.bool r.ZM)]
def M.Op.rs(r:M.Op):List RC:=[.ro (.int .i64 r.Zi),.ro (.str r.aA),.ro (.int .i64 r.Key.Zi),.ro (.int .i64 r.Key.N),.ro (.str r.Key.Zp),.own 356 2 (List.map M.Field.en r.aC.Y4),.ro (.str r.Field)]
def M.aF.rs(r:M.aF):List RC:=[.ro (.int .i64 r.Zg),.ro (.int .i64 r.Zr),.own 211 7 (List.map M.aV.en r.Y9)]
def M.fS.rs(r:M.fS):List RC:=[.ro (.int .i64 r.Id),.ro (.str r.Zh),.ro (.str r.Zw),.ro (.int .i64 r.Y2),.own 98 2 (List.map M.bC.en r.bC),.own 216 4 (List.map M.Instr.en r.Zc.Zz),.ro (.int .i64 r.Zc.Pc),.own 3 1 (List.map enI r.Zc.ZK),.ro (.int .i64 r.Zc.ZG),.ro (.bool r.Zc.ZL),.ro (.bool r.Zc.ZM)]
def M.aC.rs(r:M.aC):List RC:=[.own 356 2 (List.map M.Field.en r.Y4)]
def M.aD.rs(r:M.aD):List RC:=[.ro (.str r.Zf.Name),.own 284 4 (List.map M.Zd.en r.Zf.Y3),.ro (.int .i64 r.Zf.Zn),.ro (.int .i64 r.Zx),.ro (.int .i64 r.Ze.aF.Zg),.ro (.int .i64 r.Ze.aF.Zr),.own 211 7 (List.map M.aV.en r.Ze.aF.Y9),.ro (.int .i64 r.Ze.Zt),.ro (.int .i64 r.Ze.Zj)]
def M.Y7.rs(r:M.Y7):List RC:=[.ro (.int .i64 r.ZC),.ro (.int .i64 r.ZA),.ro (.int .i64 r.Y2),.own 5 1 (List.map enB r.ZE),.ro (.bool r.ZF)]
def M.Zk.rs(r:M.Zk):List RC:=[.ro (.str r.aA.Name),.own 284 4 (List.map M.Zd.en r.aA.Y3),.ro (.int .i64 r.aA.Zn),.own 207 2 (List.map M.aT.en r.aT),.own 211 7 (List.map M.aV.en r.Zq)]
def M.aH.rs(r:M.aH):List RC:=[.own 49 24 (List.map M.aK.en r.Y0)]
def M.aA.rs(r:M.aA):List RC:=[.ro (.str r.Name),.own 284 4 (List.map M.Zd.en r.Y3),.ro (.int .i64 r.Zn)]
def M.Ze.rs(r:M.Ze):List RC:=[.ro (.int .i64 r.aF.Zg),.ro (.int .i64 r.aF.Zr),.own 211 7 (List.map M.aV.en r.aF.Y9),.ro (.int .i64 r.Zt),.ro (.int .i64 r.Zj)]
def M.aV.rs(r:M.aV):List RC:=[.ro (.int .i64 r.Zg),.ro (.int .i64 r.ZI),.ro (.int .i64 r.Key.Zi),.ro (.int .i64 r.Key.N),.ro (.str r.Key.Zp),.ro (.str r.Field),.ro (.int .i64 r.N)]
def Hs:At:=oB 35 [cS (⟨#[]⟩:ByteArray),cI 0,.nil,.nil]
def WK:At:=oB 37 [cS (⟨#[]⟩:ByteArray),cI 0,.nil,.nil,.nil,cI 0]
def Yd:At:=oB 45 [cI 0,cI 0,.nil,cI 0,cI 0]
def U3:At:=oB 47 [cS (⟨#[]⟩:ByteArray),.nil,cI 0,cI 0,cI 0,cI 0,.nil,cI 0,cI 0]
def KG:At:=oB 49 [cS (⟨#[]⟩:ByteArray),cS (⟨#[]⟩:ByteArray),cS (⟨#[]⟩:ByteArray),cI 0,cI 0,cI 0,.nil,cS (⟨#[]⟩:ByteArray),cI 0,.nil,.nil,.nil,cI 0,cS (⟨#[]⟩:ByteArray),.nil,cI 0,cI 0,cI 0,cI 0,.nil,cI 0,cI 0,cI 0,cB false]
def Yg:At:=oB 94 [.nil,cI 0,.nil,cI 0,cB false,cB false]
def Rn:At:=oB 96 [cI 0,cS (⟨#[]⟩:ByteArray),cS (⟨#[]⟩:ByteArray),cI 0,.nil,.nil,cI 0,.nil,cI 0,cB false,cB false]
def Ud:At:=oB 105 [cI 0,cI 0,cI 0,.nil,cB false]
def RO:At:=oB 137 [cS (⟨#[]⟩:ByteArray),.nil,cI 0,.nil,.nil]
def Uh:At:=oB 216 [cI 0,cI 0,cI 0,cS (⟨#[]⟩:ByteArray)]
def UO:At:=oB 257 [cI 0,cS (⟨#[]⟩:ByteArray),cI 0,cI 0,cS (⟨#[]⟩:ByteArray),.nil,cS (⟨#[]⟩:ByteArray)]
def XK:=PLift.up (qI ti3 (qI ti4 (qI ti5 (qI ti9 (qI TV (qI Yk (qI YJ (qI YA (qI Ms (qI xY (qI SG (qI Tu (qI OQ (qI Yl (qI YU (qI SB (qI YP (qI YL (qI Yt (qI S3 (qI S5 (qI X9 (qI TR (qI Yy (qI Ya (qI TY (qI Yv (qI Yp (qI YI (qI Sp (qI Uq (qI UF (qI UD (qI JM (qI Cy (qI HG (qI Ur (qI Um (qI UB (qI Uz (qI UL (qI UI (qI T8 (qI Ue (qI Od (qI Ut (qI Uk (qI Un (qI UM UU)))))))))))))))))))))))))))))))))))))))))))))))))
theorem TB:type_of% XK.down:=XK.down
def Wu:=PLift.up (qI @enI.eq_1 (qI @enB.eq_1 (qI @enS.eq_1 (qI @enT.eq_1 (qI @enL.eq_1 (qI @enI.fl (qI @enB.fl (qI @enS.fl (qI @enT.fl (qI @PG (qI @P5 (qI @Ok (qI @aI.eq_1 (qI @aB.eq_1 (qI @aS.eq_1 (qI @aL.eq_1 (qI @aX.eq_1 (qI @cI.eq_1 (qI @cB.eq_1 (qI @cS.eq_1 (qI @cL.eq_1 (qI @vI.eq_1 (qI @vB.eq_1 (qI @vS.eq_1 (qI @vL.eq_1 (qI @vR.eq_1 (qI @vP.eq_1 (qI @oX.eq_1 (qI @oB.eq_1 (qI @oW.eq_1 (qI @rI.eq_1 (qI @rB.eq_1 (qI @rS.eq_1 (qI @rW.eq_1 (qI @M.aK.rs.eq_1 (qI @M.Y6.rs.eq_1 (qI @M.aE.rs.eq_1 (qI @M.YY.rs.eq_1 (qI @M.bG.rs.eq_1 (qI @M.Instr.rs.eq_1 (qI @M.Zd.rs.eq_1 (qI @M.Key.rs.eq_1 (qI @M.Zc.rs.eq_1 (qI @M.Op.rs.eq_1 (qI @M.aF.rs.eq_1 (qI @M.fS.rs.eq_1 (qI @M.aC.rs.eq_1 (qI @M.aD.rs.eq_1 (qI @M.Y7.rs.eq_1 (qI @M.Zk.rs.eq_1 (qI @M.aH.rs.eq_1 (qI @M.aA.rs.eq_1 (qI @M.Ze.rs.eq_1 (qI @M.aV.rs.eq_1 (qI @Hs.eq_1 (qI @WK.eq_1 (qI @Yd.eq_1 (qI @U3.eq_1 (qI @KG.eq_1 (qI @Yg.eq_1 (qI @Rn.eq_1 (qI @Ud.eq_1 (qI @RO.eq_1 (qI @Uh.eq_1 (qI @UO.eq_1 (qI @M.aO.en.eq_1 (qI @M.Key.en.eq_1 (qI @M.Key.en.fl (qI @M.aV.en.eq_1 (qI @M.aV.en.fl (qI @M.aF.en.eq_1 (qI @M.YZ.en.eq_1 (qI @M.YZ.en.fl (qI @M.Y7.en.eq_1 (qI @M.Zb.en.eq_1 (qI @M.Y6.en.eq_1 (qI @M.aE.en.eq_1 (qI @M.Field.en.eq_1 (qI @M.Field.en.fl (qI @M.aC.en.eq_1 (qI @M.Zd.en.eq_1 (qI @M.aA.en.eq_1 (qI @M.aM.en.eq_1 (qI @M.aM.en.fl (qI @M.YY.en.eq_1 (qI @M.Ze.en.eq_1 (qI @M.aD.en.eq_1 (qI @M.bG.en.eq_1 (qI @M.aK.en.eq_1 (qI @M.Op.en.eq_1 (qI @M.eX.en.eq_1 (qI @M.eX.en.fl (qI @M.aH.en.eq_1 (qI @M.iN.en.eq_1 (qI @M.iN.en.fl (qI @M.aT.en.eq_1 (qI @M.aT.en.fl (qI @M.Zk.en.eq_1 (qI @M.Instr.en.eq_1 (qI @M.Instr.en.fl (qI @M.Zc.en.eq_1 (qI @M.bC.en.eq_1 (qI @M.bC.en.fl @M.fS.en.eq_1)))))))))))))))))))))))))))))))))))))))))))))))))))))))))))))))))))))))))))))))))))))))))))))))))))))))
theorem EN:type_of% Wu.down:=Wu.down
end Go.Proofs.YtipmihbgjolaaaaGreat.gen
