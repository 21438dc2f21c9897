/-
  Helper text: plain Lean models of the functions that the law reaches. No conditions.
-/
import Derived.Test.YtfcfdnmhpdgjfaaShS
namespace Go.Proofs.Ytfcfdnmhpdgjfaa.gen
open Go Go.Sh
set_option linter.unusedVariables false
set_option linter.unusedSimpArgs false
structure M.Mail where
  To : Int
  From : Int
  N : Int
def M.Mail.en (x : M.Mail) : List D := [.int .i64 x.To, .int .i64 x.From, .int .i64 x.N]
theorem M.Mail.en.fl (l : List M.Mail) : (List.map M.Mail.en l).all (fun y => y.all D.flat) = true := flatL (fun _ => rfl) l
structure M.Channel where
  Mails : List M.Mail
def M.Channel.en (x : M.Channel) : List D := [.sl (List.map M.Mail.en x.Mails)]
structure M.Loaded where
  Path : ByteArray
  Version : Int
def M.Loaded.en (x : M.Loaded) : List D := [.str x.Path, .int .i64 x.Version]
theorem M.Loaded.en.fl (l : List M.Loaded) : (List.map M.Loaded.en l).all (fun y => y.all D.flat) = true := flatL (fun _ => rfl) l
structure M.Instr where
  Kind : Int
  R : Int
  N : Int
  Text : ByteArray
def M.Instr.en (x : M.Instr) : List D := [.int .i64 x.Kind, .int .i64 x.R, .int .i64 x.N, .str x.Text]
theorem M.Instr.en.fl (l : List M.Instr) : (List.map M.Instr.en l).all (fun y => y.all D.flat) = true := flatL (fun _ => rfl) l
structure M.Machine where
  Script : List M.Instr
  Pc : Int
  Regs : List Int
  Steps : Int
  Done : Bool
  Wait : Bool
def M.Machine.en (x : M.Machine) : List D := [.sl (List.map M.Instr.en x.Script), .int .i64 x.Pc, .sl (List.map enI x.Regs), .int .i64 x.Steps, .bool x.Done, .bool x.Wait]
structure M.Page where
  Id : Int
  Site : ByteArray
  Top : ByteArray
  Version : Int
  Loaded : List M.Loaded
  Machine : M.Machine
def M.Page.en (x : M.Page) : List D := [.int .i64 x.Id, .str x.Site, .str x.Top, .int .i64 x.Version, .sl (List.map M.Loaded.en x.Loaded), .sl (List.map M.Instr.en x.Machine.Script), .int .i64 x.Machine.Pc, .sl (List.map enI x.Machine.Regs), .int .i64 x.Machine.Steps, .bool x.Machine.Done, .bool x.Machine.Wait]
def m_laws_szMailS (p0 : List M.Mail) (p1 : Int) : Option Int :=
  if (decide ((IntKind.i64.wrap (p1 - (List.length p0 : Int))) < 0)) = true then (some (-1)) else (some (IntKind.i64.wrap (p1 - (List.length p0 : Int))))
def m_laws_szChannel (p0 : M.Channel) (p1 : Int) : Option Int :=
  (m_laws_szMailS p0.Mails p1).bind fun x1 => (if (decide (x1 < 0)) = true then (some (-1)) else (some x1))
def m_laws_szLoaded (p0 : M.Loaded) (p1 : Int) : Option Int :=
  if (decide ((IntKind.i64.wrap (p1 - (p0.Path.size : Int))) < 0)) = true then (some (-1)) else (some (IntKind.i64.wrap (p1 - (p0.Path.size : Int))))
def m_laws_szLoadedS_L1 (p0 : List M.Loaded) : Nat → Int → Int → Option Int
  | 0, _, _ => none
  | nL1 + 1, v1, v5 => if (decide (v5 < (List.length p0 : Int))) = true then ((idx p0 v5).bind fun x7 => ((m_laws_szLoaded x7 v1).bind fun x12 => (if (decide (x12 < 0)) = true then (some (-1)) else (m_laws_szLoadedS_L1 p0 nL1 x12 (IntKind.i64.wrap (v5 + 1)))))) else (some v1)
def m_laws_szLoadedS (p0 : List M.Loaded) (p1 : Int) : Option Int :=
  if (decide ((IntKind.i64.wrap (p1 - (List.length p0 : Int))) < 0)) = true then (some (-1)) else (m_laws_szLoadedS_L1 p0 fuel (IntKind.i64.wrap (p1 - (List.length p0 : Int))) 0)
def m_laws_szInstr (p0 : M.Instr) (p1 : Int) : Option Int :=
  if (decide ((IntKind.i64.wrap (p1 - (p0.Text.size : Int))) < 0)) = true then (some (-1)) else (some (IntKind.i64.wrap (p1 - (p0.Text.size : Int))))
def m_laws_szInstrS_L1 (p0 : List M.Instr) : Nat → Int → Int → Option Int
  | 0, _, _ => none
  | nL1 + 1, v1, v5 => if (decide (v5 < (List.length p0 : Int))) = true then ((idx p0 v5).bind fun x7 => ((m_laws_szInstr x7 v1).bind fun x12 => (if (decide (x12 < 0)) = true then (some (-1)) else (m_laws_szInstrS_L1 p0 nL1 x12 (IntKind.i64.wrap (v5 + 1)))))) else (some v1)
def m_laws_szInstrS (p0 : List M.Instr) (p1 : Int) : Option Int :=
  if (decide ((IntKind.i64.wrap (p1 - (List.length p0 : Int))) < 0)) = true then (some (-1)) else (m_laws_szInstrS_L1 p0 fuel (IntKind.i64.wrap (p1 - (List.length p0 : Int))) 0)
def m_laws_szIntS (p0 : List Int) (p1 : Int) : Option Int :=
  if (decide ((IntKind.i64.wrap (p1 - (List.length p0 : Int))) < 0)) = true then (some (-1)) else (some (IntKind.i64.wrap (p1 - (List.length p0 : Int))))
def m_laws_szMachine (p0 : M.Machine) (p1 : Int) : Option Int :=
  (m_laws_szInstrS p0.Script p1).bind fun x1 => (if (decide (x1 < 0)) = true then (some (-1)) else ((m_laws_szIntS p0.Regs x1).bind fun x4 => (if (decide (x4 < 0)) = true then (some (-1)) else (some x4))))
def m_laws_szPage (p0 : M.Page) (p1 : Int) : Option Int :=
  if (decide ((IntKind.i64.wrap (p1 - (p0.Site.size : Int))) < 0)) = true then (some (-1)) else (if (decide ((IntKind.i64.wrap ((IntKind.i64.wrap (p1 - (p0.Site.size : Int))) - (p0.Top.size : Int))) < 0)) = true then (some (-1)) else ((m_laws_szLoadedS p0.Loaded (IntKind.i64.wrap ((IntKind.i64.wrap (p1 - (p0.Site.size : Int))) - (p0.Top.size : Int)))).bind fun x3 => (if (decide (x3 < 0)) = true then (some (-1)) else ((m_laws_szMachine p0.Machine x3).bind fun x6 => (if (decide (x6 < 0)) = true then (some (-1)) else (some x6))))))
def m_laws_szPageS_L1 (p0 : List M.Page) : Nat → Int → Int → Option Int
  | 0, _, _ => none
  | nL1 + 1, v1, v5 => if (decide (v5 < (List.length p0 : Int))) = true then ((idx p0 v5).bind fun x7 => ((m_laws_szPage x7 v1).bind fun x12 => (if (decide (x12 < 0)) = true then (some (-1)) else (m_laws_szPageS_L1 p0 nL1 x12 (IntKind.i64.wrap (v5 + 1)))))) else (some v1)
def m_laws_szPageS (p0 : List M.Page) (p1 : Int) : Option Int :=
  if (decide ((IntKind.i64.wrap (p1 - (List.length p0 : Int))) < 0)) = true then (some (-1)) else (m_laws_szPageS_L1 p0 fuel (IntKind.i64.wrap (p1 - (List.length p0 : Int))) 0)
def m_laws_toMail (p0 : M.Mail) : Option M.Mail :=
  some p0
def m_laws_toMailS_L1 (p0 : List M.Mail) : Nat → Int → List M.Mail → Option (List M.Mail)
  | 0, _, _ => none
  | nL1 + 1, v4, r7 => if (decide (v4 < (List.length p0 : Int))) = true then ((idx p0 v4).bind fun x13 => ((m_laws_toMail x13).bind fun x18 => ((idx r7 v4).bind fun x20 => (m_laws_toMailS_L1 p0 nL1 (IntKind.i64.wrap (v4 + 1)) (List.set r7 v4.toNat x18))))) else (some r7)
def m_laws_toMailS (p0 : List M.Mail) : Option (List M.Mail) :=
  (mkL 24 (List.length p0 : Int) (⟨0, 0, 0⟩ : M.Mail)).bind fun x1 => (m_laws_toMailS_L1 p0 fuel 0 (List.replicate (List.length p0 : Int).toNat (⟨0, 0, 0⟩ : M.Mail)))
def m_laws_toChannel (p0 : M.Channel) : Option M.Channel :=
  (m_laws_toMailS p0.Mails).bind fun x1 => (some (⟨x1⟩ : M.Channel))
def m_laws_toLoaded (p0 : M.Loaded) : Option M.Loaded :=
  some p0
def m_laws_toLoadedS_L1 (p0 : List M.Loaded) : Nat → Int → List M.Loaded → Option (List M.Loaded)
  | 0, _, _ => none
  | nL1 + 1, v4, r7 => if (decide (v4 < (List.length p0 : Int))) = true then ((idx p0 v4).bind fun x13 => ((m_laws_toLoaded x13).bind fun x18 => ((idx r7 v4).bind fun x20 => (m_laws_toLoadedS_L1 p0 nL1 (IntKind.i64.wrap (v4 + 1)) (List.set r7 v4.toNat x18))))) else (some r7)
def m_laws_toLoadedS (p0 : List M.Loaded) : Option (List M.Loaded) :=
  (mkL 24 (List.length p0 : Int) (⟨(⟨#[]⟩ : ByteArray), 0⟩ : M.Loaded)).bind fun x1 => (m_laws_toLoadedS_L1 p0 fuel 0 (List.replicate (List.length p0 : Int).toNat (⟨(⟨#[]⟩ : ByteArray), 0⟩ : M.Loaded)))
def m_laws_toInstr (p0 : M.Instr) : Option M.Instr :=
  some p0
def m_laws_toInstrS_L1 (p0 : List M.Instr) : Nat → Int → List M.Instr → Option (List M.Instr)
  | 0, _, _ => none
  | nL1 + 1, v4, r7 => if (decide (v4 < (List.length p0 : Int))) = true then ((idx p0 v4).bind fun x13 => ((m_laws_toInstr x13).bind fun x18 => ((idx r7 v4).bind fun x20 => (m_laws_toInstrS_L1 p0 nL1 (IntKind.i64.wrap (v4 + 1)) (List.set r7 v4.toNat x18))))) else (some r7)
def m_laws_toInstrS (p0 : List M.Instr) : Option (List M.Instr) :=
  (mkL 40 (List.length p0 : Int) (⟨0, 0, 0, (⟨#[]⟩ : ByteArray)⟩ : M.Instr)).bind fun x1 => (m_laws_toInstrS_L1 p0 fuel 0 (List.replicate (List.length p0 : Int).toNat (⟨0, 0, 0, (⟨#[]⟩ : ByteArray)⟩ : M.Instr)))
def m_laws_toIntS_L1 (p0 : List Int) : Nat → Int → List Int → Option (List Int)
  | 0, _, _ => none
  | nL1 + 1, v4, r7 => if (decide (v4 < (List.length p0 : Int))) = true then ((idx p0 v4).bind fun x13 => ((idx r7 v4).bind fun x18 => (m_laws_toIntS_L1 p0 nL1 (IntKind.i64.wrap (v4 + 1)) (List.set r7 v4.toNat x13)))) else (some r7)
def m_laws_toIntS (p0 : List Int) : Option (List Int) :=
  (mkL 8 (List.length p0 : Int) 0).bind fun x1 => (m_laws_toIntS_L1 p0 fuel 0 (List.replicate (List.length p0 : Int).toNat 0))
def m_laws_toMachine (p0 : M.Machine) : Option M.Machine :=
  (m_laws_toInstrS p0.Script).bind fun x1 => ((m_laws_toIntS p0.Regs).bind fun x3 => (some (⟨x1, p0.Pc, x3, p0.Steps, p0.Done, p0.Wait⟩ : M.Machine)))
def m_laws_toPage (p0 : M.Page) : Option M.Page :=
  (m_laws_toLoadedS p0.Loaded).bind fun x1 => ((m_laws_toMachine p0.Machine).bind fun x3 => (some (⟨p0.Id, p0.Site, p0.Top, p0.Version, x1, x3⟩ : M.Page)))
def m_laws_toPageS_L1 (p0 : List M.Page) : Nat → Int → List M.Page → Option (List M.Page)
  | 0, _, _ => none
  | nL1 + 1, v4, r7 => if (decide (v4 < (List.length p0 : Int))) = true then ((idx p0 v4).bind fun x13 => ((m_laws_toPage x13).bind fun x18 => ((idx r7 v4).bind fun x20 => (m_laws_toPageS_L1 p0 nL1 (IntKind.i64.wrap (v4 + 1)) (List.set r7 v4.toNat x18))))) else (some r7)
def m_laws_toPageS (p0 : List M.Page) : Option (List M.Page) :=
  (mkL 144 (List.length p0 : Int) (⟨0, (⟨#[]⟩ : ByteArray), (⟨#[]⟩ : ByteArray), 0, ([] : List M.Loaded), (⟨([] : List M.Instr), 0, ([] : List Int), 0, false, false⟩ : M.Machine)⟩ : M.Page)).bind fun x1 => (m_laws_toPageS_L1 p0 fuel 0 (List.replicate (List.length p0 : Int).toNat (⟨0, (⟨#[]⟩ : ByteArray), (⟨#[]⟩ : ByteArray), 0, ([] : List M.Loaded), (⟨([] : List M.Instr), 0, ([] : List Int), 0, false, false⟩ : M.Machine)⟩ : M.Page)))
def m_spec_l26Copy (p0 : M.Channel) : Option M.Channel :=
  (app 24 ([] : List M.Mail) p0.Mails).bind fun x1 => (some p0)
def m_spec_l26Page_L1 (p0 : List M.Page) (p1 : Int) : Nat → Int → Option Int
  | 0, _ => none
  | nL1 + 1, v5 => if (decide (v5 < (List.length p0 : Int))) = true then ((idx p0 v5).bind fun x6 => (if (x6.Id == p1) = true then (some v5) else (m_spec_l26Page_L1 p0 p1 nL1 (IntKind.i64.wrap (v5 + 1))))) else (some (-1))
def m_spec_l26Page (p0 : List M.Page) (p1 : Int) : Option Int :=
  m_spec_l26Page_L1 p0 p1 fuel 0
def m_spec_CanTalk (p0 : M.Page) (p1 : M.Page) : Option Bool :=
  if (p0.Site.toList == p1.Site.toList) = true then (if (p0.Top.toList == p1.Top.toList) = true then (some (p0.Id != p1.Id)) else (some false)) else (some false)
def m_spec_MailsFor_L1 (p0 : M.Channel) (p1 : Int) : Nat → Int → List M.Mail → Option (List M.Mail)
  | 0, _, _ => none
  | nL1 + 1, v6, r7 => if (decide (v6 < (List.length p0.Mails : Int))) = true then ((idx p0.Mails v6).bind fun x15 => (if (x15.To == p1) = true then ((app 24 r7 ([x15])).bind fun x21 => (m_spec_MailsFor_L1 p0 p1 nL1 (IntKind.i64.wrap (v6 + 1)) (r7 ++ [x15]))) else (m_spec_MailsFor_L1 p0 p1 nL1 (IntKind.i64.wrap (v6 + 1)) r7))) else (some r7)
def m_spec_MailsFor (p0 : M.Channel) (p1 : Int) : Option (List M.Mail) :=
  m_spec_MailsFor_L1 p0 p1 fuel 0 ([] : List M.Mail)
def m_spec_Broadcast_L1 (p1 : List M.Page) (p2 : Int) (p3 : Int) (x3 : Int) : Nat → Int → Int → List M.Mail → Option (M.Channel × Int)
  | 0, _, _, _ => none
  | nL1 + 1, v12, v13, r15 => if (decide (v13 < (List.length p1 : Int))) = true then ((idx p1 x3).bind fun x19 => ((idx p1 v13).bind fun x24 => ((m_spec_CanTalk x19 x24).bind fun x29 => (if x29 = true then ((m_spec_MailsFor (⟨r15⟩ : M.Channel) x24.Id).bind fun x32 => (if (decide ((List.length x32 : Int) < 5)) = true then ((app 24 r15 ([(⟨x24.Id, p2, p3⟩ : M.Mail)])).bind fun x35 => (m_spec_Broadcast_L1 p1 p2 p3 x3 nL1 (IntKind.i64.wrap (v12 + 1)) (IntKind.i64.wrap (v13 + 1)) (r15 ++ [(⟨x24.Id, p2, p3⟩ : M.Mail)]))) else (m_spec_Broadcast_L1 p1 p2 p3 x3 nL1 v12 (IntKind.i64.wrap (v13 + 1)) r15))) else (m_spec_Broadcast_L1 p1 p2 p3 x3 nL1 v12 (IntKind.i64.wrap (v13 + 1)) r15))))) else (some ((⟨r15⟩ : M.Channel), v12))
def m_spec_Broadcast (p0 : M.Channel) (p1 : List M.Page) (p2 : Int) (p3 : Int) : Option (M.Channel × Int) :=
  (m_spec_l26Copy p0).bind fun x1 => ((m_spec_l26Page p1 p2).bind fun x3 => (if (decide (x3 < 0)) = true then (some (x1, 0)) else (m_spec_Broadcast_L1 p1 p2 p3 x3 fuel 0 0 x1.Mails)))
def m_impl_copyChannel (p0 : M.Channel) : Option M.Channel :=
  (app 24 ([] : List M.Mail) p0.Mails).bind fun x1 => (some p0)
def m_impl_Broadcast_1 (p0 : M.Page) (c0 : Int) : Option Bool :=
  some (p0.Id == c0)
def m_slices_IndexFunc_Page_L1 (p0 : List M.Page) (p1 : M.Page → Option Bool) : Nat → Int → Option Int
  | 0, _ => none
  | nL1 + 1, v8 => if (decide (v8 < (List.length p0 : Int))) = true then ((idx p0 v8).bind fun x7 => ((p1 x7).bind fun x12 => (if x12 = true then (some v8) else (m_slices_IndexFunc_Page_L1 p0 p1 nL1 (IntKind.i64.wrap (v8 + 1)))))) else (some (-1))
def m_slices_IndexFunc_Page (p0 : List M.Page) (p1 : M.Page → Option Bool) : Option Int :=
  m_slices_IndexFunc_Page_L1 p0 p1 fuel 0
def m_impl_CanTalk (p0 : M.Page) (p1 : M.Page) : Option Bool :=
  if (p0.Site.toList == p1.Site.toList) = true then (if (p0.Top.toList == p1.Top.toList) = true then (some (p0.Id != p1.Id)) else (some false)) else (some false)
def m_impl_MailsFor_L1 (p0 : M.Channel) (p1 : Int) : Nat → Int → List M.Mail → Option (List M.Mail)
  | 0, _, _ => none
  | nL1 + 1, v12, r8 => if (decide (v12 < (List.length p0.Mails : Int))) = true then ((idx p0.Mails v12).bind fun x15 => (if (x15.To == p1) = true then ((app 24 r8 ([x15])).bind fun x21 => (m_impl_MailsFor_L1 p0 p1 nL1 (IntKind.i64.wrap (v12 + 1)) (r8 ++ [x15]))) else (m_impl_MailsFor_L1 p0 p1 nL1 (IntKind.i64.wrap (v12 + 1)) r8))) else (some r8)
def m_impl_MailsFor (p0 : M.Channel) (p1 : Int) : Option (List M.Mail) :=
  m_impl_MailsFor_L1 p0 p1 fuel 0 ([] : List M.Mail)
def m_impl_Broadcast_L1 (p1 : List M.Page) (p2 : Int) (p3 : Int) (x3 : Int) : Nat → Int → Int → List M.Mail → Option (M.Channel × Int)
  | 0, _, _, _ => none
  | nL1 + 1, v12, v25, r16 => if (decide (v25 < (List.length p1 : Int))) = true then ((idx p1 v25).bind fun x22 => ((idx p1 x3).bind fun x27 => ((m_impl_CanTalk x27 x22).bind fun x32 => (if x32 = true then ((m_impl_MailsFor (⟨r16⟩ : M.Channel) x22.Id).bind fun x35 => (if (decide ((List.length x35 : Int) < 5)) = true then ((app 24 r16 ([(⟨x22.Id, p2, p3⟩ : M.Mail)])).bind fun x38 => (m_impl_Broadcast_L1 p1 p2 p3 x3 nL1 (IntKind.i64.wrap (v12 + 1)) (IntKind.i64.wrap (v25 + 1)) (r16 ++ [(⟨x22.Id, p2, p3⟩ : M.Mail)]))) else (m_impl_Broadcast_L1 p1 p2 p3 x3 nL1 v12 (IntKind.i64.wrap (v25 + 1)) r16))) else (m_impl_Broadcast_L1 p1 p2 p3 x3 nL1 v12 (IntKind.i64.wrap (v25 + 1)) r16))))) else (some ((⟨r16⟩ : M.Channel), v12))
def m_impl_Broadcast (p0 : M.Channel) (p1 : List M.Page) (p2 : Int) (p3 : Int) : Option (M.Channel × Int) :=
  (m_impl_copyChannel p0).bind fun x1 => ((m_slices_IndexFunc_Page p1 (fun z0 => m_impl_Broadcast_1 z0 p2)).bind fun x3 => (if (decide (x3 < 0)) = true then (some (x1, 0)) else (m_impl_Broadcast_L1 p1 p2 p3 x3 fuel 0 0 x1.Mails)))
def m_laws_eqMail (p0 : M.Mail) (p1 : M.Mail) : Option Bool :=
  if (p0.To != p1.To) = true then (some false) else (if (p0.From != p1.From) = true then (some false) else (if (p0.N != p1.N) = true then (some false) else (some true)))
def m_laws_eqMailS_L1 (p0 : List M.Mail) (p1 : List M.Mail) : Nat → Int → Option Bool
  | 0, _ => none
  | nL1 + 1, v5 => if (decide (v5 < (List.length p0 : Int))) = true then ((idx p0 v5).bind fun x7 => ((idx p1 v5).bind fun x12 => ((m_laws_eqMail x7 x12).bind fun x17 => (if (!x17) = true then (some false) else (m_laws_eqMailS_L1 p0 p1 nL1 (IntKind.i64.wrap (v5 + 1))))))) else (some true)
def m_laws_eqMailS (p0 : List M.Mail) (p1 : List M.Mail) : Option Bool :=
  if ((List.length p0 : Int) != (List.length p1 : Int)) = true then (some false) else (m_laws_eqMailS_L1 p0 p1 fuel 0)
def m_laws_eqChannel (p0 : M.Channel) (p1 : M.Channel) : Option Bool :=
  (m_laws_eqMailS p0.Mails p1.Mails).bind fun x1 => (if (!x1) = true then (some false) else (some true))
def m_laws_eqLoaded (p0 : M.Loaded) (p1 : M.Loaded) : Option Bool :=
  if (!(p0.Path.toList == p1.Path.toList)) = true then (some false) else (if (p0.Version != p1.Version) = true then (some false) else (some true))
def m_laws_eqLoadedS_L1 (p0 : List M.Loaded) (p1 : List M.Loaded) : Nat → Int → Option Bool
  | 0, _ => none
  | nL1 + 1, v5 => if (decide (v5 < (List.length p0 : Int))) = true then ((idx p0 v5).bind fun x7 => ((idx p1 v5).bind fun x12 => ((m_laws_eqLoaded x7 x12).bind fun x17 => (if (!x17) = true then (some false) else (m_laws_eqLoadedS_L1 p0 p1 nL1 (IntKind.i64.wrap (v5 + 1))))))) else (some true)
def m_laws_eqLoadedS (p0 : List M.Loaded) (p1 : List M.Loaded) : Option Bool :=
  if ((List.length p0 : Int) != (List.length p1 : Int)) = true then (some false) else (m_laws_eqLoadedS_L1 p0 p1 fuel 0)
def m_laws_eqInstr (p0 : M.Instr) (p1 : M.Instr) : Option Bool :=
  if (p0.Kind != p1.Kind) = true then (some false) else (if (p0.R != p1.R) = true then (some false) else (if (p0.N != p1.N) = true then (some false) else (if (!(p0.Text.toList == p1.Text.toList)) = true then (some false) else (some true))))
def m_laws_eqInstrS_L1 (p0 : List M.Instr) (p1 : List M.Instr) : Nat → Int → Option Bool
  | 0, _ => none
  | nL1 + 1, v5 => if (decide (v5 < (List.length p0 : Int))) = true then ((idx p0 v5).bind fun x7 => ((idx p1 v5).bind fun x12 => ((m_laws_eqInstr x7 x12).bind fun x17 => (if (!x17) = true then (some false) else (m_laws_eqInstrS_L1 p0 p1 nL1 (IntKind.i64.wrap (v5 + 1))))))) else (some true)
def m_laws_eqInstrS (p0 : List M.Instr) (p1 : List M.Instr) : Option Bool :=
  if ((List.length p0 : Int) != (List.length p1 : Int)) = true then (some false) else (m_laws_eqInstrS_L1 p0 p1 fuel 0)
def m_laws_eqIntS_L1 (p0 : List Int) (p1 : List Int) : Nat → Int → Option Bool
  | 0, _ => none
  | nL1 + 1, v5 => if (decide (v5 < (List.length p0 : Int))) = true then ((idx p0 v5).bind fun x7 => ((idx p1 v5).bind fun x12 => (if (x7 != x12) = true then (some false) else (m_laws_eqIntS_L1 p0 p1 nL1 (IntKind.i64.wrap (v5 + 1)))))) else (some true)
def m_laws_eqIntS (p0 : List Int) (p1 : List Int) : Option Bool :=
  if ((List.length p0 : Int) != (List.length p1 : Int)) = true then (some false) else (m_laws_eqIntS_L1 p0 p1 fuel 0)
def m_laws_eqMachine (p0 : M.Machine) (p1 : M.Machine) : Option Bool :=
  (m_laws_eqInstrS p0.Script p1.Script).bind fun x1 => (if (!x1) = true then (some false) else (if (p0.Pc != p1.Pc) = true then (some false) else ((m_laws_eqIntS p0.Regs p1.Regs).bind fun x5 => (if (!x5) = true then (some false) else (if (p0.Steps != p1.Steps) = true then (some false) else (if (!(p0.Done == p1.Done)) = true then (some false) else (if (!(p0.Wait == p1.Wait)) = true then (some false) else (some true))))))))
def m_laws_eqPage (p0 : M.Page) (p1 : M.Page) : Option Bool :=
  if (p0.Id != p1.Id) = true then (some false) else (if (!(p0.Site.toList == p1.Site.toList)) = true then (some false) else (if (!(p0.Top.toList == p1.Top.toList)) = true then (some false) else (if (p0.Version != p1.Version) = true then (some false) else ((m_laws_eqLoadedS p0.Loaded p1.Loaded).bind fun x5 => (if (!x5) = true then (some false) else ((m_laws_eqMachine p0.Machine p1.Machine).bind fun x8 => (if (!x8) = true then (some false) else (some true))))))))
def m_laws_eqPageS_L1 (p0 : List M.Page) (p1 : List M.Page) : Nat → Int → Option Bool
  | 0, _ => none
  | nL1 + 1, v5 => if (decide (v5 < (List.length p0 : Int))) = true then ((idx p0 v5).bind fun x7 => ((idx p1 v5).bind fun x12 => ((m_laws_eqPage x7 x12).bind fun x17 => (if (!x17) = true then (some false) else (m_laws_eqPageS_L1 p0 p1 nL1 (IntKind.i64.wrap (v5 + 1))))))) else (some true)
def m_laws_eqPageS (p0 : List M.Page) (p1 : List M.Page) : Option Bool :=
  if ((List.length p0 : Int) != (List.length p1 : Int)) = true then (some false) else (m_laws_eqPageS_L1 p0 p1 fuel 0)
def m_laws_markMailS_L1  : Nat → Int → Int → List M.Mail → Option (List M.Mail × Int)
  | 0, _, _, _ => none
  | nL1 + 1, v1, v5, r99 => if (decide (v5 < (List.length r99 : Int))) = true then ((idx r99 v5).bind fun x8 => ((some (List.set r99 v5.toNat (⟨v1, x8.From, x8.N⟩ : M.Mail))).bind fun y13 => ((idx y13 v5).bind fun x21 => ((some (List.set y13 v5.toNat (⟨x21.To, (IntKind.i64.wrap (v1 + 1)), x21.N⟩ : M.Mail))).bind fun y26 => ((idx y26 v5).bind fun x34 => ((some (List.set y26 v5.toNat (⟨x34.To, x34.From, (IntKind.i64.wrap ((IntKind.i64.wrap (v1 + 1)) + 1))⟩ : M.Mail))).bind fun y39 => (m_laws_markMailS_L1 nL1 (IntKind.i64.wrap ((IntKind.i64.wrap ((IntKind.i64.wrap (v1 + 1)) + 1)) + 1)) (IntKind.i64.wrap (v5 + 1)) y39))))))) else (some (r99, v1))
def m_laws_markMailS (p0 : List M.Mail) (p1 : Int) : Option (List M.Mail × Int) :=
  m_laws_markMailS_L1 fuel p1 0 p0
def m_laws_markChannel (p0 : M.Channel) (p1 : Int) : Option (List M.Mail × Int) :=
  (m_laws_markMailS p0.Mails p1).bind fun x1 => (some (x1.1, x1.2))
def m_laws_markText_L1  : Nat → Int → ByteArray → Option ByteArray
  | 0, _, _ => none
  | nL1 + 1, v0, v3 => if (decide (v0 > 0)) = true then ((toStr ([(IntKind.u8.wrap (IntKind.i64.wrap (48 + (Int.tmod v0 10))))])).bind fun x6 => ((cat (bytesStr ([(IntKind.u8.wrap (IntKind.i64.wrap (48 + (Int.tmod v0 10))))])) v3).bind fun x8 => (m_laws_markText_L1 nL1 (IntKind.i64.wrap (Int.tdiv v0 10)) ((bytesStr ([(IntKind.u8.wrap (IntKind.i64.wrap (48 + (Int.tmod v0 10))))])) ++ v3)))) else ((cat (⟨#[109]⟩ : ByteArray) v3).bind fun x13 => (some ((⟨#[109]⟩ : ByteArray) ++ v3)))
def m_laws_markText (p0 : Int) : Option ByteArray :=
  if (decide (p0 ≤ 0)) = true then (some (⟨#[109, 48]⟩ : ByteArray)) else (m_laws_markText_L1 fuel p0 (⟨#[]⟩ : ByteArray))
def m_laws_markLoadedS_L1  : Nat → Int → Int → List M.Loaded → Option (List M.Loaded × Int)
  | 0, _, _, _ => none
  | nL1 + 1, v1, v5, r99 => if (decide (v5 < (List.length r99 : Int))) = true then ((m_laws_markText v1).bind fun x8 => ((idx r99 v5).bind fun x10 => ((some (List.set r99 v5.toNat (⟨x8, x10.Version⟩ : M.Loaded))).bind fun y15 => ((idx y15 v5).bind fun x23 => ((some (List.set y15 v5.toNat (⟨x23.Path, (IntKind.i64.wrap (v1 + 1))⟩ : M.Loaded))).bind fun y28 => (m_laws_markLoadedS_L1 nL1 (IntKind.i64.wrap ((IntKind.i64.wrap (v1 + 1)) + 1)) (IntKind.i64.wrap (v5 + 1)) y28)))))) else (some (r99, v1))
def m_laws_markLoadedS (p0 : List M.Loaded) (p1 : Int) : Option (List M.Loaded × Int) :=
  m_laws_markLoadedS_L1 fuel p1 0 p0
def m_laws_markInstrS_L1  : Nat → Int → Int → List M.Instr → Option (List M.Instr × Int)
  | 0, _, _, _ => none
  | nL1 + 1, v1, v5, r99 => if (decide (v5 < (List.length r99 : Int))) = true then ((idx r99 v5).bind fun x8 => ((some (List.set r99 v5.toNat (⟨v1, x8.R, x8.N, x8.Text⟩ : M.Instr))).bind fun y13 => ((idx y13 v5).bind fun x21 => ((some (List.set y13 v5.toNat (⟨x21.Kind, (IntKind.i64.wrap (v1 + 1)), x21.N, x21.Text⟩ : M.Instr))).bind fun y26 => ((idx y26 v5).bind fun x34 => ((some (List.set y26 v5.toNat (⟨x34.Kind, x34.R, (IntKind.i64.wrap ((IntKind.i64.wrap (v1 + 1)) + 1)), x34.Text⟩ : M.Instr))).bind fun y39 => ((m_laws_markText (IntKind.i64.wrap ((IntKind.i64.wrap ((IntKind.i64.wrap (v1 + 1)) + 1)) + 1))).bind fun x47 => ((idx y39 v5).bind fun x49 => ((some (List.set y39 v5.toNat (⟨x49.Kind, x49.R, x49.N, x47⟩ : M.Instr))).bind fun y54 => (m_laws_markInstrS_L1 nL1 (IntKind.i64.wrap ((IntKind.i64.wrap ((IntKind.i64.wrap ((IntKind.i64.wrap (v1 + 1)) + 1)) + 1)) + 1)) (IntKind.i64.wrap (v5 + 1)) y54)))))))))) else (some (r99, v1))
def m_laws_markInstrS (p0 : List M.Instr) (p1 : Int) : Option (List M.Instr × Int) :=
  m_laws_markInstrS_L1 fuel p1 0 p0
def m_laws_markIntS_L1  : Nat → Int → Int → List Int → Option (List Int × Int)
  | 0, _, _, _ => none
  | nL1 + 1, v1, v5, r99 => if (decide (v5 < (List.length r99 : Int))) = true then ((idx r99 v5).bind fun x8 => ((some (List.set r99 v5.toNat v1)).bind fun y13 => (m_laws_markIntS_L1 nL1 (IntKind.i64.wrap (v1 + 1)) (IntKind.i64.wrap (v5 + 1)) y13))) else (some (r99, v1))
def m_laws_markIntS (p0 : List Int) (p1 : Int) : Option (List Int × Int) :=
  m_laws_markIntS_L1 fuel p1 0 p0
def m_laws_markPageS_L1  : Nat → Int → Int → List M.Page → Option (List M.Page × Int)
  | 0, _, _, _ => none
  | nL1 + 1, v1, v5, r99 => if (decide (v5 < (List.length r99 : Int))) = true then ((idx r99 v5).bind fun x8 => ((some (List.set r99 v5.toNat (⟨v1, x8.Site, x8.Top, x8.Version, x8.Loaded, x8.Machine⟩ : M.Page))).bind fun y13 => ((m_laws_markText (IntKind.i64.wrap (v1 + 1))).bind fun x21 => ((idx y13 v5).bind fun x23 => ((some (List.set y13 v5.toNat (⟨x23.Id, x21, x23.Top, x23.Version, x23.Loaded, x23.Machine⟩ : M.Page))).bind fun y28 => ((m_laws_markText (IntKind.i64.wrap ((IntKind.i64.wrap (v1 + 1)) + 1))).bind fun x36 => ((idx y28 v5).bind fun x38 => ((some (List.set y28 v5.toNat (⟨x38.Id, x38.Site, x36, x38.Version, x38.Loaded, x38.Machine⟩ : M.Page))).bind fun y43 => ((idx y43 v5).bind fun x51 => ((some (List.set y43 v5.toNat (⟨x51.Id, x51.Site, x51.Top, (IntKind.i64.wrap ((IntKind.i64.wrap ((IntKind.i64.wrap (v1 + 1)) + 1)) + 1)), x51.Loaded, x51.Machine⟩ : M.Page))).bind fun y56 => ((idx y56 v5).bind fun x64 => ((m_laws_markLoadedS x64.Loaded (IntKind.i64.wrap ((IntKind.i64.wrap ((IntKind.i64.wrap ((IntKind.i64.wrap (v1 + 1)) + 1)) + 1)) + 1))).bind fun x69 => ((some (List.set y56 v5.toNat (⟨x64.Id, x64.Site, x64.Top, x64.Version, x69.1, x64.Machine⟩ : M.Page))).bind fun y71 => ((idx y71 v5).bind fun x79 => ((m_laws_markInstrS x79.Machine.Script x69.2).bind fun x84 => ((some (List.set y71 v5.toNat (⟨x79.Id, x79.Site, x79.Top, x79.Version, x79.Loaded, (⟨x84.1, x79.Machine.Pc, x79.Machine.Regs, x79.Machine.Steps, x79.Machine.Done, x79.Machine.Wait⟩ : M.Machine)⟩ : M.Page))).bind fun y86 => ((idx y86 v5).bind fun x94 => ((some (List.set y86 v5.toNat (⟨x94.Id, x94.Site, x94.Top, x94.Version, x94.Loaded, (⟨x94.Machine.Script, x84.2, x94.Machine.Regs, x94.Machine.Steps, x94.Machine.Done, x94.Machine.Wait⟩ : M.Machine)⟩ : M.Page))).bind fun y99 => ((idx y99 v5).bind fun x107 => ((m_laws_markIntS x107.Machine.Regs (IntKind.i64.wrap (x84.2 + 1))).bind fun x112 => ((some (List.set y99 v5.toNat (⟨x107.Id, x107.Site, x107.Top, x107.Version, x107.Loaded, (⟨x107.Machine.Script, x107.Machine.Pc, x112.1, x107.Machine.Steps, x107.Machine.Done, x107.Machine.Wait⟩ : M.Machine)⟩ : M.Page))).bind fun y114 => ((idx y114 v5).bind fun x122 => ((some (List.set y114 v5.toNat (⟨x122.Id, x122.Site, x122.Top, x122.Version, x122.Loaded, (⟨x122.Machine.Script, x122.Machine.Pc, x122.Machine.Regs, x112.2, x122.Machine.Done, x122.Machine.Wait⟩ : M.Machine)⟩ : M.Page))).bind fun y127 => ((idx y127 v5).bind fun x135 => ((some (List.set y127 v5.toNat (⟨x135.Id, x135.Site, x135.Top, x135.Version, x135.Loaded, (⟨x135.Machine.Script, x135.Machine.Pc, x135.Machine.Regs, x135.Machine.Steps, ((Int.tmod (IntKind.i64.wrap (x112.2 + 1)) 3) == 0), x135.Machine.Wait⟩ : M.Machine)⟩ : M.Page))).bind fun y140 => ((idx y140 v5).bind fun x148 => ((some (List.set y140 v5.toNat (⟨x148.Id, x148.Site, x148.Top, x148.Version, x148.Loaded, (⟨x148.Machine.Script, x148.Machine.Pc, x148.Machine.Regs, x148.Machine.Steps, x148.Machine.Done, ((Int.tmod (IntKind.i64.wrap ((IntKind.i64.wrap (x112.2 + 1)) + 1)) 3) == 0)⟩ : M.Machine)⟩ : M.Page))).bind fun y153 => (m_laws_markPageS_L1 nL1 (IntKind.i64.wrap ((IntKind.i64.wrap ((IntKind.i64.wrap (x112.2 + 1)) + 1)) + 1)) (IntKind.i64.wrap (v5 + 1)) y153)))))))))))))))))))))))))))) else (some (r99, v1))
def m_laws_markPageS (p0 : List M.Page) (p1 : Int) : Option (List M.Page × Int) :=
  m_laws_markPageS_L1 fuel p1 0 p0
def m_laws_heldMailS_L1 (p0 : List M.Mail) : Nat → Int → Int → Option Int
  | 0, _, _ => none
  | nL1 + 1, v1, v5 => if (decide (v5 < (List.length p0 : Int))) = true then ((idx p0 v5).bind fun x6 => (if (x6.To != v1) = true then (some (-1)) else (if (x6.From != (IntKind.i64.wrap (v1 + 1))) = true then (some (-1)) else (if (x6.N != (IntKind.i64.wrap ((IntKind.i64.wrap (v1 + 1)) + 1))) = true then (some (-1)) else (m_laws_heldMailS_L1 p0 nL1 (IntKind.i64.wrap ((IntKind.i64.wrap ((IntKind.i64.wrap (v1 + 1)) + 1)) + 1)) (IntKind.i64.wrap (v5 + 1))))))) else (some v1)
def m_laws_heldMailS (p0 : List M.Mail) (p1 : Int) : Option Int :=
  m_laws_heldMailS_L1 p0 fuel p1 0
def m_laws_heldChannel (p0 : M.Channel) (p1 : Int) : Option Int :=
  (m_laws_heldMailS p0.Mails p1).bind fun x1 => (if (decide (x1 < 0)) = true then (some (-1)) else (some x1))
def m_laws_FnExactBroadcast (p0 : M.Channel) (p1 : List M.Page) (p2 : Int) (p3 : Int) : Option Bool :=
  (m_laws_szChannel p0 1048576).bind fun x1 => (if (decide (x1 < 0)) = true then (some true) else ((m_laws_szPageS p1 x1).bind fun x4 => (if (decide (x4 < 0)) = true then (some true) else ((m_laws_toChannel p0).bind fun x7 => ((m_laws_toPageS p1).bind fun x9 => ((m_spec_Broadcast x7 x9 p2 p3).bind fun x11 => ((m_laws_toChannel p0).bind fun x13 => ((m_laws_toPageS p1).bind fun x15 => ((m_impl_Broadcast x13 x15 p2 p3).bind fun x17 => ((m_laws_eqChannel x17.1 x11.1).bind fun x19 => (if (!x19) = true then (some false) else (if (x17.2 != x11.2) = true then (some false) else ((m_laws_toChannel p0).bind fun x23 => ((m_laws_eqChannel x13 x23).bind fun x25 => (if (!x25) = true then (some false) else ((m_laws_toPageS p1).bind fun x28 => ((m_laws_eqPageS x15 x28).bind fun x30 => (if (!x30) = true then (some false) else ((m_laws_markChannel x13 1).bind fun x33 => ((m_laws_markPageS x15 x33.2).bind fun x52 => (if (decide (x52.2 < 0)) = true then (some false) else ((m_laws_eqChannel x17.1 x11.1).bind fun x70 => (if (!x70) = true then (some false) else ((m_laws_markChannel x17.1 1).bind fun x73 => ((m_laws_heldChannel (⟨x73.1⟩ : M.Channel) 1).bind fun x89 => (if (decide (x89 < 0)) = true then (some false) else (if (x89 != x73.2) = true then (some false) else ((m_laws_toChannel p0).bind fun x93 => ((m_laws_toPageS p1).bind fun x95 => ((m_impl_Broadcast x93 x95 p2 p3).bind fun x97 => ((m_laws_eqChannel x97.1 x11.1).bind fun x99 => (if (!x99) = true then (some false) else (if (x97.2 != x11.2) = true then (some false) else ((m_laws_heldChannel (⟨x73.1⟩ : M.Channel) 1).bind fun x103 => (if (decide (x103 < 0)) = true then (some false) else (if (x103 != x73.2) = true then (some false) else (some true)))))))))))))))))))))))))))))))))))))
end Go.Proofs.Ytfcfdnmhpdgjfaa.gen
