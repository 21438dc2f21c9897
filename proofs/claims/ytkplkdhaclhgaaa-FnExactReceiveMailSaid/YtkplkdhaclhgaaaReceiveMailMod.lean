/-
  Helper text: plain Lean models of the functions that the law reaches. No conditions.
-/
import Derived.Test.YtkplkdhaclhgaaaShS
namespace Go.Proofs.Ytkplkdhaclhgaaa.gen
open Go Go.Sh
set_option linter.unusedVariables false
set_option linter.unusedSimpArgs false
structure M.Mail where
  To : Int
  From : Int
  N : Int
def M.Mail.en (x : M.Mail) : List D := [.int .i64 x.To, .int .i64 x.From, .int .i64 x.N]
theorem M.Mail.en.fl (l : List M.Mail) : (List.map M.Mail.en l).all (fun y => y.all D.flat) = true := flatL (fun _ => rfl) l
structure M.Channel where
  Mails : List M.Mail
def M.Channel.en (x : M.Channel) : List D := [.sl (List.map M.Mail.en x.Mails)]
def m_laws_szMailS (p0 : List M.Mail) (p1 : Int) : Option Int :=
  if (decide ((IntKind.i64.wrap (p1 - (List.length p0 : Int))) < 0)) = true then (some (-1)) else (some (IntKind.i64.wrap (p1 - (List.length p0 : Int))))
def m_laws_szChannel (p0 : M.Channel) (p1 : Int) : Option Int :=
  (m_laws_szMailS p0.Mails p1).bind fun x1 => (if (decide (x1 < 0)) = true then (some (-1)) else (some x1))
def m_laws_toMail (p0 : M.Mail) : Option M.Mail :=
  some p0
def m_laws_toMailS_L1 (p0 : List M.Mail) : Nat → Int → List M.Mail → Option (List M.Mail)
  | 0, _, _ => none
  | nL1 + 1, v4, r7 => if (decide (v4 < (List.length p0 : Int))) = true then ((idx p0 v4).bind fun x13 => ((m_laws_toMail x13).bind fun x18 => ((idx r7 v4).bind fun x20 => (m_laws_toMailS_L1 p0 nL1 (IntKind.i64.wrap (v4 + 1)) (List.set r7 v4.toNat x18))))) else (some r7)
def m_laws_toMailS (p0 : List M.Mail) : Option (List M.Mail) :=
  (mkL 24 (List.length p0 : Int) (⟨0, 0, 0⟩ : M.Mail)).bind fun x1 => (m_laws_toMailS_L1 p0 fuel 0 (List.replicate (List.length p0 : Int).toNat (⟨0, 0, 0⟩ : M.Mail)))
def m_laws_toChannel (p0 : M.Channel) : Option M.Channel :=
  (m_laws_toMailS p0.Mails).bind fun x1 => (some (⟨x1⟩ : M.Channel))
def m_spec_l26Copy (p0 : M.Channel) : Option M.Channel :=
  (app 24 ([] : List M.Mail) p0.Mails).bind fun x1 => (some p0)
def m_spec_ReceiveMail_L1 (p0 : M.Channel) (p1 : Int) : Nat → Int → Option (M.Channel × M.Mail × Bool)
  | 0, _ => none
  | nL1 + 1, v7 => if (decide (v7 < (List.length p0.Mails : Int))) = true then ((idx p0.Mails v7).bind fun x11 => (if (x11.To == p1) = true then ((slcHi p0.Mails v7).bind fun x17 => ((app 24 ([] : List M.Mail) (List.take v7.toNat p0.Mails)).bind fun x19 => ((slcLo p0.Mails (IntKind.i64.wrap (v7 + 1))).bind fun x21 => ((app 24 (List.take v7.toNat p0.Mails) (List.drop (IntKind.i64.wrap (v7 + 1)).toNat p0.Mails)).bind fun x23 => (some ((⟨((List.take v7.toNat p0.Mails) ++ (List.drop (IntKind.i64.wrap (v7 + 1)).toNat p0.Mails))⟩ : M.Channel), x11, true)))))) else (m_spec_ReceiveMail_L1 p0 p1 nL1 (IntKind.i64.wrap (v7 + 1))))) else ((m_spec_l26Copy p0).bind fun x25 => (some (x25, (⟨0, 0, 0⟩ : M.Mail), false)))
def m_spec_ReceiveMail (p0 : M.Channel) (p1 : Int) : Option (M.Channel × M.Mail × Bool) :=
  m_spec_ReceiveMail_L1 p0 p1 fuel 0
def m_impl_copyChannel (p0 : M.Channel) : Option M.Channel :=
  (app 24 ([] : List M.Mail) p0.Mails).bind fun x1 => (some p0)
def m_impl_ReceiveMail_1 (p0 : M.Mail) (c0 : Int) : Option Bool :=
  some (p0.To == c0)
def m_slices_IndexFunc_Mail_L1 (p0 : List M.Mail) (p1 : M.Mail → Option Bool) : Nat → Int → Option Int
  | 0, _ => none
  | nL1 + 1, v8 => if (decide (v8 < (List.length p0 : Int))) = true then ((idx p0 v8).bind fun x7 => ((p1 x7).bind fun x12 => (if x12 = true then (some v8) else (m_slices_IndexFunc_Mail_L1 p0 p1 nL1 (IntKind.i64.wrap (v8 + 1)))))) else (some (-1))
def m_slices_IndexFunc_Mail (p0 : List M.Mail) (p1 : M.Mail → Option Bool) : Option Int :=
  m_slices_IndexFunc_Mail_L1 p0 p1 fuel 0

def m_impl_ReceiveMail (p0 : M.Channel) (p1 : Int) : Option (M.Channel × M.Mail × Bool) :=
  (m_impl_copyChannel p0).bind fun x1 => ((m_slices_IndexFunc_Mail p0.Mails (fun z0 => m_impl_ReceiveMail_1 z0 p1)).bind fun x3 => (if (decide (x3 < 0)) = true then (some (x1, (⟨0, 0, 0⟩ : M.Mail), false)) else ((delAt x1.Mails x3 (IntKind.i64.wrap (x3 + 1))).bind fun x6 => ((idx p0.Mails x3).bind fun x8 => (some ((⟨(List.take x3.toNat x1.Mails ++ List.drop (IntKind.i64.wrap (x3 + 1)).toNat x1.Mails)⟩ : M.Channel), x8, true))))))
def m_laws_eqMail (p0 : M.Mail) (p1 : M.Mail) : Option Bool :=
  if (p0.To != p1.To) = true then (some false) else (if (p0.From != p1.From) = true then (some false) else (if (p0.N != p1.N) = true then (some false) else (some true)))
def m_laws_eqMailS_L1 (p0 : List M.Mail) (p1 : List M.Mail) : Nat → Int → Option Bool
  | 0, _ => none
  | nL1 + 1, v5 => if (decide (v5 < (List.length p0 : Int))) = true then ((idx p0 v5).bind fun x7 => ((idx p1 v5).bind fun x12 => ((m_laws_eqMail x7 x12).bind fun x17 => (if (!x17) = true then (some false) else (m_laws_eqMailS_L1 p0 p1 nL1 (IntKind.i64.wrap (v5 + 1))))))) else (some true)
def m_laws_eqMailS (p0 : List M.Mail) (p1 : List M.Mail) : Option Bool :=
  if ((List.length p0 : Int) != (List.length p1 : Int)) = true then (some false) else (m_laws_eqMailS_L1 p0 p1 fuel 0)
def m_laws_eqChannel (p0 : M.Channel) (p1 : M.Channel) : Option Bool :=
  (m_laws_eqMailS p0.Mails p1.Mails).bind fun x1 => (if (!x1) = true then (some false) else (some true))
def m_laws_markMailS_L1  : Nat → Int → Int → List M.Mail → Option (List M.Mail × Int)
  | 0, _, _, _ => none
  | nL1 + 1, v1, v5, r99 => if (decide (v5 < (List.length r99 : Int))) = true then ((idx r99 v5).bind fun x8 => ((some (List.set r99 v5.toNat (⟨v1, x8.From, x8.N⟩ : M.Mail))).bind fun y13 => ((idx y13 v5).bind fun x21 => ((some (List.set y13 v5.toNat (⟨x21.To, (IntKind.i64.wrap (v1 + 1)), x21.N⟩ : M.Mail))).bind fun y26 => ((idx y26 v5).bind fun x34 => ((some (List.set y26 v5.toNat (⟨x34.To, x34.From, (IntKind.i64.wrap ((IntKind.i64.wrap (v1 + 1)) + 1))⟩ : M.Mail))).bind fun y39 => (m_laws_markMailS_L1 nL1 (IntKind.i64.wrap ((IntKind.i64.wrap ((IntKind.i64.wrap (v1 + 1)) + 1)) + 1)) (IntKind.i64.wrap (v5 + 1)) y39))))))) else (some (r99, v1))
def m_laws_markMailS (p0 : List M.Mail) (p1 : Int) : Option (List M.Mail × Int) :=
  m_laws_markMailS_L1 fuel p1 0 p0
def m_laws_markChannel (p0 : M.Channel) (p1 : Int) : Option (List M.Mail × Int) :=
  (m_laws_markMailS p0.Mails p1).bind fun x1 => (some (x1.1, x1.2))
def m_laws_heldMailS_L1 (p0 : List M.Mail) : Nat → Int → Int → Option Int
  | 0, _, _ => none
  | nL1 + 1, v1, v5 => if (decide (v5 < (List.length p0 : Int))) = true then ((idx p0 v5).bind fun x6 => (if (x6.To != v1) = true then (some (-1)) else (if (x6.From != (IntKind.i64.wrap (v1 + 1))) = true then (some (-1)) else (if (x6.N != (IntKind.i64.wrap ((IntKind.i64.wrap (v1 + 1)) + 1))) = true then (some (-1)) else (m_laws_heldMailS_L1 p0 nL1 (IntKind.i64.wrap ((IntKind.i64.wrap ((IntKind.i64.wrap (v1 + 1)) + 1)) + 1)) (IntKind.i64.wrap (v5 + 1))))))) else (some v1)
def m_laws_heldMailS (p0 : List M.Mail) (p1 : Int) : Option Int :=
  m_laws_heldMailS_L1 p0 fuel p1 0
def m_laws_heldChannel (p0 : M.Channel) (p1 : Int) : Option Int :=
  (m_laws_heldMailS p0.Mails p1).bind fun x1 => (if (decide (x1 < 0)) = true then (some (-1)) else (some x1))
def m_laws_FnExactReceiveMail (p0 : M.Channel) (p1 : Int) : Option Bool :=
  (m_laws_szChannel p0 1048576).bind fun x1 => (if (decide (x1 < 0)) = true then (some true) else ((m_laws_toChannel p0).bind fun x4 => ((m_spec_ReceiveMail x4 p1).bind fun x6 => ((m_laws_toChannel p0).bind fun x8 => ((m_impl_ReceiveMail x8 p1).bind fun x10 => ((m_laws_eqChannel x10.1 x6.1).bind fun x12 => (if (!x12) = true then (some false) else ((m_laws_eqMail x10.2.1 x6.2.1).bind fun x15 => (if (!x15) = true then (some false) else (if (!(x10.2.2 == x6.2.2)) = true then (some false) else ((m_laws_toChannel p0).bind fun x19 => ((m_laws_eqChannel x8 x19).bind fun x21 => (if (!x21) = true then (some false) else ((m_laws_markChannel x8 1).bind fun x24 => (if (decide (x24.2 < 0)) = true then (some false) else ((m_laws_eqChannel x10.1 x6.1).bind fun x44 => (if (!x44) = true then (some false) else ((m_laws_eqMail x10.2.1 x6.2.1).bind fun x47 => (if (!x47) = true then (some false) else ((m_laws_markChannel x10.1 1).bind fun x50 => ((m_laws_heldChannel (⟨x50.1⟩ : M.Channel) 1).bind fun x66 => (if (decide (x66 < 0)) = true then (some false) else (if (x66 != x50.2) = true then (some false) else ((m_laws_toChannel p0).bind fun x70 => ((m_impl_ReceiveMail x70 p1).bind fun x72 => ((m_laws_eqChannel x72.1 x6.1).bind fun x74 => (if (!x74) = true then (some false) else ((m_laws_eqMail x72.2.1 x6.2.1).bind fun x77 => (if (!x77) = true then (some false) else (if (!(x72.2.2 == x6.2.2)) = true then (some false) else ((m_laws_heldChannel (⟨x50.1⟩ : M.Channel) 1).bind fun x81 => (if (decide (x81 < 0)) = true then (some false) else (if (x81 != x50.2) = true then (some false) else (some true))))))))))))))))))))))))))))))))))
end Go.Proofs.Ytkplkdhaclhgaaa.gen
