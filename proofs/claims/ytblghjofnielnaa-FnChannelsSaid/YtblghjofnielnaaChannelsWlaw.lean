/-
  Helper text. No conditions.
-/
import Derived.Test.YtblghjofnielnaaChannelsTi
import Derived.Test.YtblghjofnielnaaChannelsWimpl
import Derived.Test.YtblghjofnielnaaChannelsWmark
import Derived.Test.YtblghjofnielnaaChannelsWspec2
namespace Go.Proofs.Ytblghjofnielnaa.gen
open Go Go.Sh
set_option linter.unusedVariables false
set_option linter.unusedSimpArgs false
set_option maxRecDepth 20000
set_option maxHeartbeats 4000000
theorem fU (p0 r) (h:dP p0=some r):Sc 3 [aL enB p0] [rB r]:=by
 have i1:=fun (x4:(M.Channel×(List M.aO)×Int×Int)) (x6:(M.Channel×Int)) (x8:(M.Channel×Int))=>inv fun m s=>∃v11:Int,∃v12:Int,(s.t 3=vP 3 1 0∧s.t 4=vR 200025 1∧s.t 5=vI x4.2.2.1∧s.t 6=vI x4.2.2.2∧s.t 7=vP 7 1 0∧s.t 9=vP 9 1 0∧s.t 11=vI v11∧s.t 12=vI v12∧s.h 3=(1,oB 26 [.row 100025 1])∧s.h 7=(1,oB 26 [.row 100035 1])∧s.h 9=(1,oB 26 [.row 100043 1])∧s.h 100025=(1,oW 40 3 M.bB.en x4.1.Mails)∧s.h 100035=(1,oW 40 3 M.bB.en x6.1.Mails)∧s.h 100043=(1,oW 40 3 M.bB.en x8.1.Mails)∧s.h 200025=(1,oW 38 11 M.aO.en x4.2.1))∧bF x4 x6 x8 m v11 v12=some r
 have e1:=@bF.eq_2
 have i2:=fun (x4:(M.Channel×(List M.aO)×Int×Int)) (x6:(M.Channel×Int)) (x8:(M.Channel×Int)) (v11:Int)=>inv fun m s=>∃v13:Int,(s.t 4=vR 200025 1∧s.t 5=vI x4.2.2.1∧s.t 6=vI x4.2.2.2∧s.t 7=vP 7 1 0∧s.t 9=vP 9 1 0∧s.t 11=vI v11∧s.t 13=vI v13∧s.h 7=(1,oB 26 [.row 100035 1])∧s.h 9=(1,oB 26 [.row 100043 1])∧s.h 100035=(1,oW 40 3 M.bB.en x6.1.Mails)∧s.h 100043=(1,oW 40 3 M.bB.en x8.1.Mails)∧s.h 200025=(1,oW 38 11 M.aO.en x4.2.1))∧bM x4 x6 x8 v11 m v13=some r
 have e2:=@bM.eq_2
 have i3:=fun (x4:(M.Channel×(List M.aO)×Int×Int)) (x6:(M.Channel×Int)) (x8:(M.Channel×Int)) (v11:Int) (v13:Int) (x51:M.bB) (k57:Bool→Int→Option Bool) (s37:St)=>inv fun m s=>∃v15_L3:Bool,∃v16_L3:Int,(s.t 4=vR 200025 1∧s.t 5=vI x4.2.2.1∧s.t 6=vI x4.2.2.2∧s.t 7=vP 7 1 0∧s.t 9=vP 9 1 0∧s.t 11=vI v11∧s.t 13=vI v13∧s.t 14=vP 14 ((s37.h 14).1+1) 0∧s.t 15=vB v15_L3∧s.t 16=vI v16_L3∧s.h 7=(1,oB 26 [.row 100035 1])∧s.h 9=(1,oB 26 [.row 100043 1])∧s.h 14=(((s37.h 14).1+1),oX 40 (M.bB.en x51))∧s.h 100035=(1,oW 40 3 M.bB.en x6.1.Mails)∧s.h 100043=(1,oW 40 3 M.bB.en x8.1.Mails)∧s.h 200025=(1,oW 38 11 M.aO.en x4.2.1))∧aZ x4 v11 x51 k57 m v15_L3 v16_L3=some r
 have e3:=@aZ.eq_2
 unfold dP at h
 exact sgo 221 [.tmp 2] Try.func3
instance:gR 3 (type_of% @fU):=⟨@fU⟩
end Go.Proofs.Ytblghjofnielnaa.gen
