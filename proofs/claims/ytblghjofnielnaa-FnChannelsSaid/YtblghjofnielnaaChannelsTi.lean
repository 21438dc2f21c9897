/-
  Helper text. No conditions.
-/
import Derived.Test.YtblghjofnielnaaChannelsMod
import Derived.Test.YtblghjofnielnaaProg
import Derived.KernelRfl
namespace Go.Proofs.Ytblghjofnielnaa.gen
open Go Go.Sh
set_option linter.unusedVariables false
set_option linter.unusedSimpArgs false
theorem mixed:Try.prog.follows .mixedOrders=true:=by kernel_rfl
theorem ti3:dA Try.prog 3=some { k:=.int .i64,size:=1,bytes:=8,zero:=[.dat (.int .i64 0)] }:=by kernel_rfl
theorem ti4:dA Try.prog 4=some { k:=.bool,size:=1,bytes:=1,zero:=[.dat (.bool false)] }:=by kernel_rfl
theorem ti5:dA Try.prog 5=some { k:=.int .u8,size:=1,bytes:=1,zero:=[.dat (.int .u8 0)] }:=by kernel_rfl
theorem ti9:dA Try.prog 9=some { k:=.str,size:=1,bytes:=16,zero:=[.dat (.str ⟨#[]⟩)] }:=by kernel_rfl
theorem aBR:dA Try.prog 22=some { k:=.slice 5,size:=1,bytes:=24,zero:=[.nil],sl:=[some (5,1)] }:=by kernel_rfl
theorem qD:dA Try.prog 24=some { k:=.slice 40,size:=1,bytes:=24,zero:=[.nil],sl:=[some (40,3)] }:=by kernel_rfl
theorem yE:dA Try.prog 26=some { k:=.struct [(0,1,false)],size:=1,bytes:=24,zero:=[.nil],sl:=[some (40,3)] }:=by kernel_rfl
theorem aBL:dA Try.prog 27=some { k:=.slice 38,size:=1,bytes:=24,zero:=[.nil],sl:=[some (38,11)] }:=by kernel_rfl
theorem aBY:dA Try.prog 32=some { k:=.slice 81,size:=1,bytes:=24,zero:=[.nil],sl:=[some (81,2)] }:=by kernel_rfl
theorem aBN:dA Try.prog 33=some { k:=.slice 77,size:=1,bytes:=24,zero:=[.nil],sl:=[some (77,4)] }:=by kernel_rfl
theorem aBa:dA Try.prog 34=some { k:=.slice 3,size:=1,bytes:=24,zero:=[.nil],sl:=[some (3,1)] }:=by kernel_rfl
theorem aBU:dA Try.prog 36=some { k:=.struct [(0,1,false),(1,1,false),(2,1,false),(3,1,false),(4,1,false),(5,1,false)],size:=6,bytes:=72,zero:=[.nil,.dat (.int .i64 0),.nil,.dat (.int .i64 0),.dat (.bool false),.dat (.bool false)],sl:=[some (77,4),none,some (3,1),none,none,none] }:=by kernel_rfl
theorem aBX:dA Try.prog 38=some { k:=.struct [(0,1,false),(1,1,false),(2,1,false),(3,1,false),(4,1,false),(5,6,true)],size:=11,bytes:=144,zero:=[.dat (.int .i64 0),.dat (.str ⟨#[]⟩),.dat (.str ⟨#[]⟩),.dat (.int .i64 0),.nil,.nil,.dat (.int .i64 0),.nil,.dat (.int .i64 0),.dat (.bool false),.dat (.bool false)],sl:=[none,none,none,none,some (81,2),some (77,4),none,some (3,1),none,none,none] }:=by kernel_rfl
theorem pR:dA Try.prog 40=some { k:=.struct [(0,1,false),(1,1,false),(2,1,false)],size:=3,bytes:=24,zero:=[.dat (.int .i64 0),.dat (.int .i64 0),.dat (.int .i64 0)],cmp:=[.int,.int,.int] }:=by kernel_rfl
theorem aBD:dA Try.prog 60=some { k:=.struct [(0,1,false),(1,1,false),(2,1,false)],size:=3,bytes:=40,zero:=[.nil,.dat (.int .i64 0),.dat (.int .i64 0)],sl:=[some (5,1),none,none] }:=by kernel_rfl
theorem aBV:dA Try.prog 64=some { k:=.slice 9,size:=1,bytes:=24,zero:=[.nil],sl:=[some (9,1)] }:=by kernel_rfl
theorem aBK:dA Try.prog 73=some { k:=.struct [(0,1,false),(1,1,false),(2,1,false),(3,1,false),(4,1,false)],size:=5,bytes:=56,zero:=[.dat (.int .i64 0),.dat (.int .i64 0),.dat (.int .i64 0),.nil,.dat (.bool false)],sl:=[none,none,none,some (5,1),none] }:=by kernel_rfl
theorem aBG:dA Try.prog 77=some { k:=.struct [(0,1,false),(1,1,false),(2,1,false),(3,1,false)],size:=4,bytes:=40,zero:=[.dat (.int .i64 0),.dat (.int .i64 0),.dat (.int .i64 0),.dat (.str ⟨#[]⟩)],cmp:=[.int,.int,.int,.str] }:=by kernel_rfl
theorem aBW:dA Try.prog 81=some { k:=.struct [(0,1,false),(1,1,false)],size:=2,bytes:=24,zero:=[.dat (.str ⟨#[]⟩),.dat (.int .i64 0)],cmp:=[.str,.int] }:=by kernel_rfl
abbrev Sc:=dO Try.prog
def M.Channel.rs (r:M.Channel):List RC:=[.own 40 3 (List.map M.bB.en r.Mails)]
def M.Instr.rs (r:M.Instr):List RC:=[.ro (.int .i64 r.Kind),.ro (.int .i64 r.R),.ro (.int .i64 r.N),.ro (.str r.Text)]
def M.Machine.rs (r:M.Machine):List RC:=[.own 77 4 (List.map M.Instr.en r.Script),.ro (.int .i64 r.Pc),.own 3 1 (List.map enI r.Regs),.ro (.int .i64 r.Steps),.ro (.bool r.Done),.ro (.bool r.Wait)]
def M.bB.rs (r:M.bB):List RC:=[.ro (.int .i64 r.To),.ro (.int .i64 r.From),.ro (.int .i64 r.N)]
def M.aO.rs (r:M.aO):List RC:=[.ro (.int .i64 r.Id),.ro (.str r.Site),.ro (.str r.Top),.ro (.int .i64 r.Version),.own 81 2 (List.map M.aF.en r.aF),.own 77 4 (List.map M.Instr.en r.Machine.Script),.ro (.int .i64 r.Machine.Pc),.own 3 1 (List.map enI r.Machine.Regs),.ro (.int .i64 r.Machine.Steps),.ro (.bool r.Machine.Done),.ro (.bool r.Machine.Wait)]
theorem TB:type_of% (And.intro ti3 (And.intro ti4 (And.intro ti5 (And.intro ti9 (And.intro aBR (And.intro qD (And.intro yE (And.intro aBL (And.intro aBY (And.intro aBN (And.intro aBa (And.intro aBU (And.intro aBX (And.intro pR (And.intro aBD (And.intro aBV (And.intro aBK (And.intro aBG (aBW))))))))))))))))))):=
 And.intro ti3 (And.intro ti4 (And.intro ti5 (And.intro ti9 (And.intro aBR (And.intro qD (And.intro yE (And.intro aBL (And.intro aBY (And.intro aBN (And.intro aBa (And.intro aBU (And.intro aBX (And.intro pR (And.intro aBD (And.intro aBV (And.intro aBK (And.intro aBG (aBW))))))))))))))))))
theorem EN:type_of% (And.intro (@enI.eq_1) (And.intro (@enB.eq_1) (And.intro (@enS.eq_1) (And.intro (@enT.eq_1) (And.intro (@enL.eq_1) (And.intro (@enI.fl) (And.intro (@enB.fl) (And.intro (@enS.fl) (And.intro (@enT.fl) (And.intro (@rK) (And.intro (@tI) (And.intro (@qR) (And.intro (@aI.eq_1) (And.intro (@aB.eq_1) (And.intro (@aS.eq_1) (And.intro (@aL.eq_1) (And.intro (@aX.eq_1) (And.intro (@cI.eq_1) (And.intro (@cB.eq_1) (And.intro (@cS.eq_1) (And.intro (@cL.eq_1) (And.intro (@vI.eq_1) (And.intro (@vB.eq_1) (And.intro (@vS.eq_1) (And.intro (@vL.eq_1) (And.intro (@vR.eq_1) (And.intro (@vP.eq_1) (And.intro (@oX.eq_1) (And.intro (@oB.eq_1) (And.intro (@oW.eq_1) (And.intro (@rI.eq_1) (And.intro (@rB.eq_1) (And.intro (@rS.eq_1) (And.intro (@rW.eq_1) (And.intro (@M.Channel.rs.eq_1) (And.intro (@M.Instr.rs.eq_1) (And.intro (@M.Machine.rs.eq_1) (And.intro (@M.bB.rs.eq_1) (And.intro (@M.aO.rs.eq_1) (And.intro (@M.aU.en.eq_1) (And.intro (@M.bB.en.eq_1) (And.intro (@M.bB.en.fl) (And.intro (@M.Channel.en.eq_1) (And.intro (@M.Instr.en.eq_1) (And.intro (@M.Instr.en.fl) (And.intro (@M.Machine.en.eq_1) (And.intro (@M.aF.en.eq_1) (And.intro (@M.aF.en.fl) (And.intro (@M.aO.en.eq_1) (@M.Response.en.eq_1)))))))))))))))))))))))))))))))))))))))))))))))))):=
 And.intro (@enI.eq_1) (And.intro (@enB.eq_1) (And.intro (@enS.eq_1) (And.intro (@enT.eq_1) (And.intro (@enL.eq_1) (And.intro (@enI.fl) (And.intro (@enB.fl) (And.intro (@enS.fl) (And.intro (@enT.fl) (And.intro (@rK) (And.intro (@tI) (And.intro (@qR) (And.intro (@aI.eq_1) (And.intro (@aB.eq_1) (And.intro (@aS.eq_1) (And.intro (@aL.eq_1) (And.intro (@aX.eq_1) (And.intro (@cI.eq_1) (And.intro (@cB.eq_1) (And.intro (@cS.eq_1) (And.intro (@cL.eq_1) (And.intro (@vI.eq_1) (And.intro (@vB.eq_1) (And.intro (@vS.eq_1) (And.intro (@vL.eq_1) (And.intro (@vR.eq_1) (And.intro (@vP.eq_1) (And.intro (@oX.eq_1) (And.intro (@oB.eq_1) (And.intro (@oW.eq_1) (And.intro (@rI.eq_1) (And.intro (@rB.eq_1) (And.intro (@rS.eq_1) (And.intro (@rW.eq_1) (And.intro (@M.Channel.rs.eq_1) (And.intro (@M.Instr.rs.eq_1) (And.intro (@M.Machine.rs.eq_1) (And.intro (@M.bB.rs.eq_1) (And.intro (@M.aO.rs.eq_1) (And.intro (@M.aU.en.eq_1) (And.intro (@M.bB.en.eq_1) (And.intro (@M.bB.en.fl) (And.intro (@M.Channel.en.eq_1) (And.intro (@M.Instr.en.eq_1) (And.intro (@M.Instr.en.fl) (And.intro (@M.Machine.en.eq_1) (And.intro (@M.aF.en.eq_1) (And.intro (@M.aF.en.fl) (And.intro (@M.aO.en.eq_1) (@M.Response.en.eq_1)))))))))))))))))))))))))))))))))))))))))))))))))
end Go.Proofs.Ytblghjofnielnaa.gen
