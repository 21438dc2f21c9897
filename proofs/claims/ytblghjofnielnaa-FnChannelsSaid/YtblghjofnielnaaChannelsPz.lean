/-
  Helper text. No conditions.
-/
import Derived.Test.YtblghjofnielnaaChannelsMod
namespace Go.Proofs.Ytblghjofnielnaa.gen
open Go Go.Sh
set_option linter.unusedVariables false
set_option linter.unusedSimpArgs false
structure M.bB.ok (x:M.bB):Prop where
 To:inI x.To
 From:inI x.From
 N:inI x.N
def M.bB.sh:List Shp:=[.int .i64,.int .i64,.int .i64]
structure M.Channel.ok (x:M.Channel):Prop where
 Mails:(x.Mails.length≤maxLen ∧ ∀y∈x.Mails,M.bB.ok y)
def M.Channel.sh:List Shp:=[.sl M.bB.sh]
def M.Channel.sz (x:M.Channel):Nat:=x.Mails.length
structure M.aF.ok (x:M.aF):Prop where
 Path:x.Path.size≤maxLen
 Version:inI x.Version
def M.aF.sh:List Shp:=[.str,.int .i64]
def M.aF.sz (x:M.aF):Nat:=x.Path.size
structure M.Instr.ok (x:M.Instr):Prop where
 Kind:inI x.Kind
 R:inI x.R
 N:inI x.N
 Text:x.Text.size≤maxLen
def M.Instr.sh:List Shp:=[.int .i64,.int .i64,.int .i64,.str]
def M.Instr.sz (x:M.Instr):Nat:=x.Text.size
structure M.Machine.ok (x:M.Machine):Prop where
 Script:(x.Script.length≤maxLen ∧ ∀y∈x.Script,M.Instr.ok y)
 Pc:inI x.Pc
 Regs:okI x.Regs
 Steps:inI x.Steps
def M.Machine.sh:List Shp:=[.sl M.Instr.sh,.int .i64,.sl [.int .i64],.int .i64,.bool,.bool]
def M.Machine.sz (x:M.Machine):Nat:=(x.Script.length+iV M.Instr.sz x.Script)+(x.Regs.length)
structure M.aO.ok (x:M.aO):Prop where
 Id:inI x.Id
 Site:x.Site.size≤maxLen
 Top:x.Top.size≤maxLen
 Version:inI x.Version
 aF:(x.aF.length≤maxLen ∧ ∀y∈x.aF,M.aF.ok y)
 Machine:M.Machine.ok x.Machine
def M.aO.sh:List Shp:=[.int .i64,.str,.str,.int .i64,.sl M.aF.sh,.sl M.Instr.sh,.int .i64,.sl [.int .i64],.int .i64,.bool,.bool]
def M.aO.sz (x:M.aO):Nat:=x.Site.size+(x.Top.size+((x.aF.length+iV M.aF.sz x.aF)+(M.Machine.sz x.Machine)))
end Go.Proofs.Ytblghjofnielnaa.gen
