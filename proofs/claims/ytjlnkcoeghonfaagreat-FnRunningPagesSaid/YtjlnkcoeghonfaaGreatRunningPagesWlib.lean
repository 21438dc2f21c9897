/-
  Helper text. No conditions.
-/
import Derived.Test.YtjlnkcoeghonfaaGreatRunningPagesTi
import Derived.Lib.Walk
import Derived.WalkKit
import Derived.Shelf.RegionOpenPlain
import Derived.Lib.JoinLaws
import Derived.Laws.Externs
set_option linter.unusedVariables false
set_option linter.unusedSimpArgs false
namespace Go.Proofs.YtjlnkcoeghonfaaGreat.gen
open Go Go.Sh Tryz
set_option maxRecDepth 20000
set_option maxHeartbeats 4000000
namespace L492
theorem u79:prog.underlying 73=some (.slice 320):=by kernel_rfl
theorem u3:prog.underlying 3=some (.int .i64):=by kernel_rfl
theorem u4:prog.underlying 4=some .bool:=by kernel_rfl
theorem iT:Z8 prog 73 320 3 4 56:=⟨u79,u3,aBx (by kernel_rfl)⟩
theorem fnF:type_of% @func492:=@func492
theorem ntF:Tryz.f492.ntmps=95:=rfl
theorem foF : ∀(args:Array Value) (w:World),(callFunc 558 args).run prog w=((Extern.SlicesOverlaps.overlaps #[73,73] #[4] args).run prog w).andThen λv w'=>.ok (.value v) w':=run_callFunc_extern func558 (by kernel_rfl) (by kernel_rfl) (by kernel_rfl) (e:=Extern.SlicesOverlaps.overlaps #[73,73] #[4]) (by kernel_rfl)
set_option maxRecDepth 100000 in
theorem iR:Rq prog 492 320 4:=zIR
set_option maxRecDepth 100000 in
theorem iG:Rn prog 492 320 4 56:=zIG
set_option maxRecDepth 100000 in
theorem iE:Rs prog 492 320 4 56:=zIE
theorem aEL (args:List (Bool×List D)):kU prog 492 args [(false,[.edit (.ins 320 4 56)])]:=aCf iR iG iE ⟨_,_,func492,rfl,wM⟩ args
end L492
instance aKn:bK 492 (type_of% @L492.aEL):=⟨@L492.aEL⟩
namespace L274
theorem u79:prog.underlying 205=some (.slice 322):=by kernel_rfl
theorem u3:prog.underlying 3=some (.int .i64):=by kernel_rfl
theorem u4:prog.underlying 4=some .bool:=by kernel_rfl
theorem iT:Z8 prog 205 322 3 2 24:=⟨u79,u3,aBx (by kernel_rfl)⟩
theorem fnF:type_of% @func274:=@func274
theorem ntF:Tryz.f274.ntmps=95:=rfl
theorem foF : ∀(args:Array Value) (w:World),(callFunc 395 args).run prog w=((Extern.SlicesOverlaps.overlaps #[205,205] #[4] args).run prog w).andThen λv w'=>.ok (.value v) w':=run_callFunc_extern func395 (by kernel_rfl) (by kernel_rfl) (by kernel_rfl) (e:=Extern.SlicesOverlaps.overlaps #[205,205] #[4]) (by kernel_rfl)
set_option maxRecDepth 100000 in
theorem iR:Rq prog 274 322 2:=zIR
set_option maxRecDepth 100000 in
theorem iG:Rn prog 274 322 2 24:=zIG
set_option maxRecDepth 100000 in
theorem iE:Rs prog 274 322 2 24:=zIE
theorem aDS (args:List (Bool×List D)):kU prog 274 args [(false,[.edit (.ins 322 2 24)])]:=aCf iR iG iE ⟨_,_,func274,rfl,wM⟩ args
end L274
instance aKy:bK 274 (type_of% @L274.aDS):=⟨@L274.aDS⟩
namespace L280
theorem u79:prog.underlying 37=some (.slice 84):=by kernel_rfl
theorem u3:prog.underlying 3=some (.int .i64):=by kernel_rfl
theorem u4:prog.underlying 4=some .bool:=by kernel_rfl
theorem iT:Z8 prog 37 84 3 24 328:=⟨u79,u3,aBx (by kernel_rfl)⟩
theorem fnF:type_of% @func280:=@func280
theorem ntF:Tryz.f280.ntmps=95:=rfl
theorem foF : ∀(args:Array Value) (w:World),(callFunc 403 args).run prog w=((Extern.SlicesOverlaps.overlaps #[37,37] #[4] args).run prog w).andThen λv w'=>.ok (.value v) w':=run_callFunc_extern func403 (by kernel_rfl) (by kernel_rfl) (by kernel_rfl) (e:=Extern.SlicesOverlaps.overlaps #[37,37] #[4]) (by kernel_rfl)
set_option maxRecDepth 100000 in
theorem iR:Rq prog 280 84 24:=zIR
set_option maxRecDepth 100000 in
theorem iG:Rn prog 280 84 24 328:=zIG
set_option maxRecDepth 100000 in
theorem iE:Rs prog 280 84 24 328:=zIE
theorem aDc (args:List (Bool×List D)):kU prog 280 args [(false,[.edit (.ins 84 24 328)])]:=aCf iR iG iE ⟨_,_,func280,rfl,wM⟩ args
end L280
instance aKz:bK 280 (type_of% @L280.aDc):=⟨@L280.aDc⟩
end Go.Proofs.YtjlnkcoeghonfaaGreat.gen
