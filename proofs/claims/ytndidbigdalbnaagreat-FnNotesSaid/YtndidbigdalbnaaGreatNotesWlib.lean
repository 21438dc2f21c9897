/-
  Helper text. No conditions.
-/
import Derived.Test.YtndidbigdalbnaaGreatNotesTi
import Derived.Lib.Walk
import Derived.WalkKit
import Derived.Shelf.RegionOpenPlain
import Derived.Lib.JoinLaws
import Derived.Laws.Externs
set_option linter.unusedVariables false
set_option linter.unusedSimpArgs false
namespace Go.Proofs.YtndidbigdalbnaaGreat.gen
open Go Go.Sh Tryz
set_option maxRecDepth 20000
set_option maxHeartbeats 4000000
namespace L312
theorem u79:prog.underlying 64=some (.slice 153):=by kernel_rfl
theorem u3:prog.underlying 3=some (.int .i64):=by kernel_rfl
theorem u4:prog.underlying 4=some .bool:=by kernel_rfl
theorem iT:aAK prog 64 153 3 4 56:=⟨u79,u3,aCE (by kernel_rfl)⟩
theorem fnF:type_of% @func312:=@func312
theorem ntF:Tryz.f312.ntmps=95:=rfl
theorem foF : ∀(args:Array Value) (w:World),(callFunc 347 args).run prog w=((Extern.SlicesOverlaps.overlaps #[64,64] #[4] args).run prog w).andThen λv w'=>.ok (.value v) w':=run_callFunc_extern func347 (by kernel_rfl) (by kernel_rfl) (by kernel_rfl) (e:=Extern.SlicesOverlaps.overlaps #[64,64] #[4]) (by kernel_rfl)
set_option maxRecDepth 100000 in
theorem iR:Rp prog 312 153 4:=zIR
set_option maxRecDepth 100000 in
theorem iG:Rn prog 312 153 4 56:=zIG
set_option maxRecDepth 100000 in
theorem iE:Rq prog 312 153 4 56:=zIE
theorem aDx (args:List (Bool×List D)):lE prog 312 args [(false,[.edit (.ins 153 4 56)])]:=aCt iR iG iE ⟨_,_,func312,rfl,wL⟩ args
end L312
instance aKM:bU 312 (type_of% @L312.aDx):=⟨@L312.aDx⟩
namespace L66
theorem u79:prog.underlying 88=some (.slice 157):=by kernel_rfl
theorem u3:prog.underlying 3=some (.int .i64):=by kernel_rfl
theorem u4:prog.underlying 4=some .bool:=by kernel_rfl
theorem iT:aAK prog 88 157 3 2 24:=⟨u79,u3,aCE (by kernel_rfl)⟩
theorem fnF:type_of% @func66:=@func66
theorem ntF:Tryz.f66.ntmps=95:=rfl
theorem foF : ∀(args:Array Value) (w:World),(callFunc 128 args).run prog w=((Extern.SlicesOverlaps.overlaps #[88,88] #[4] args).run prog w).andThen λv w'=>.ok (.value v) w':=run_callFunc_extern func128 (by kernel_rfl) (by kernel_rfl) (by kernel_rfl) (e:=Extern.SlicesOverlaps.overlaps #[88,88] #[4]) (by kernel_rfl)
set_option maxRecDepth 100000 in
theorem iR:Rp prog 66 157 2:=zIR
set_option maxRecDepth 100000 in
theorem iG:Rn prog 66 157 2 24:=zIG
set_option maxRecDepth 100000 in
theorem iE:Rq prog 66 157 2 24:=zIE
theorem aGk (args:List (Bool×List D)):lE prog 66 args [(false,[.edit (.ins 157 2 24)])]:=aCt iR iG iE ⟨_,_,func66,rfl,wL⟩ args
end L66
instance aKa:bU 66 (type_of% @L66.aGk):=⟨@L66.aGk⟩
namespace L74
theorem u79:prog.underlying 24=some (.slice 75):=by kernel_rfl
theorem u3:prog.underlying 3=some (.int .i64):=by kernel_rfl
theorem u4:prog.underlying 4=some .bool:=by kernel_rfl
theorem iT:aAK prog 24 75 3 24 328:=⟨u79,u3,aCE (by kernel_rfl)⟩
theorem fnF:type_of% @func74:=@func74
theorem ntF:Tryz.f74.ntmps=95:=rfl
theorem foF : ∀(args:Array Value) (w:World),(callFunc 141 args).run prog w=((Extern.SlicesOverlaps.overlaps #[24,24] #[4] args).run prog w).andThen λv w'=>.ok (.value v) w':=run_callFunc_extern func141 (by kernel_rfl) (by kernel_rfl) (by kernel_rfl) (e:=Extern.SlicesOverlaps.overlaps #[24,24] #[4]) (by kernel_rfl)
set_option maxRecDepth 100000 in
theorem iR:Rp prog 74 75 24:=zIR
set_option maxRecDepth 100000 in
theorem iG:Rn prog 74 75 24 328:=zIG
set_option maxRecDepth 100000 in
theorem iE:Rq prog 74 75 24 328:=zIE
theorem aI5 (args:List (Bool×List D)):lE prog 74 args [(false,[.edit (.ins 75 24 328)])]:=aCt iR iG iE ⟨_,_,func74,rfl,wL⟩ args
end L74
instance aKZ:bU 74 (type_of% @L74.aI5):=⟨@L74.aI5⟩
end Go.Proofs.YtndidbigdalbnaaGreat.gen
