/-
  Helper text. No conditions.
-/
import Derived.Test.YtidhkhdnjonjfaaGreatBucketsMod
set_option linter.unusedVariables false
set_option linter.unusedSimpArgs false
namespace Go.Proofs.YtidhkhdnjonjfaaGreat.gen
open Go Go.Sh
structure M.Key.ok (x:M.Key):Prop where
 Kind:inI x.Kind
 N:inI x.N
 Text:x.Text.size≤maxLen
def M.Key.sh:List Shp:=[.int .i64,.int .i64,.str]
def M.Key.sz (x:M.Key):Nat:=x.Text.size
structure M.aT.ok (x:M.aT):Prop where
 Device:inI x.Device
 Seq:inI x.Seq
 Key:M.Key.ok x.Key
 Field:x.Field.size≤maxLen
 N:inI x.N
def M.aT.sh:List Shp:=[.int .i64,.int .i64,.int .i64,.int .i64,.str,.str,.int .i64]
def M.aT.sz (x:M.aT):Nat:=M.Key.sz x.Key+(x.Field.size)
structure M.aG.ok (x:M.aG):Prop where
 Device:inI x.Device
 Next:inI x.Next
 Writes:(x.Writes.length≤maxLen ∧ ∀y∈x.Writes,M.aT.ok y)
def M.aG.sh:List Shp:=[.int .i64,.int .i64,.sl M.aT.sh]
def M.aG.sz (x:M.aG):Nat:=(x.Writes.length+lV M.aT.sz x.Writes)
structure M.Registration.ok (x:M.Registration):Prop where
 Site:x.Site.size≤maxLen
 Installing:inI x.Installing
 Waiting:inI x.Waiting
 Active:inI x.Active
def M.Registration.sh:List Shp:=[.str,.int .i64,.int .i64,.int .i64]
def M.Registration.sz (x:M.Registration):Nat:=x.Site.size
structure M.Response.ok (x:M.Response):Prop where
 Type_:inI x.Type_
 Status:inI x.Status
 Version:inI x.Version
 Body:okB x.Body
def M.Response.sh:List Shp:=[.int .i64,.int .i64,.int .i64,.sl [.int .u8],.bool]
def M.Response.sz (x:M.Response):Nat:=x.Body.length
structure M.Cached.ok (x:M.Cached):Prop where
 Site:x.Site.size≤maxLen
 Path:x.Path.size≤maxLen
 Response:M.Response.ok x.Response
def M.Cached.sh:List Shp:=[.str,.str,.int .i64,.int .i64,.int .i64,.sl [.int .u8],.bool]
def M.Cached.sz (x:M.Cached):Nat:=x.Site.size+(x.Path.size+(M.Response.sz x.Response))
structure M.Cache.ok (x:M.Cache):Prop where
 Version:inI x.Version
 Entries:(x.Entries.length≤maxLen ∧ ∀y∈x.Entries,M.Cached.ok y)
def M.Cache.sh:List Shp:=[.int .i64,.sl M.Cached.sh]
def M.Cache.sz (x:M.Cache):Nat:=(x.Entries.length+lV M.Cached.sz x.Entries)
structure M.aE.ok (x:M.aE):Prop where
 Caches:(x.Caches.length≤maxLen ∧ ∀y∈x.Caches,M.Cache.ok y)
def M.aE.sh:List Shp:=[.sl M.Cache.sh]
def M.aE.sz (x:M.aE):Nat:=(x.Caches.length+lV M.Cache.sz x.Caches)
structure M.Field.ok (x:M.Field):Prop where
 Name:x.Name.size≤maxLen
 N:inI x.N
def M.Field.sh:List Shp:=[.str,.int .i64]
def M.Field.sz (x:M.Field):Nat:=x.Name.size
structure M.aC.ok (x:M.aC):Prop where
 Fields:(x.Fields.length≤maxLen ∧ ∀y∈x.Fields,M.Field.ok y)
def M.aC.sh:List Shp:=[.sl M.Field.sh]
def M.aC.sz (x:M.aC):Nat:=(x.Fields.length+lV M.Field.sz x.Fields)
structure M.Item.ok (x:M.Item):Prop where
 Key:M.Key.ok x.Key
 aC:M.aC.ok x.aC
def M.Item.sh:List Shp:=[.int .i64,.int .i64,.str,.sl M.Field.sh]
def M.Item.sz (x:M.Item):Nat:=M.Key.sz x.Key+(M.aC.sz x.aC)
structure M.aA.ok (x:M.aA):Prop where
 Name:x.Name.size≤maxLen
 Items:(x.Items.length≤maxLen ∧ ∀y∈x.Items,M.Item.ok y)
 Auto:inI x.Auto
def M.aA.sh:List Shp:=[.str,.sl M.Item.sh,.int .i64]
def M.aA.sz (x:M.aA):Nat:=x.Name.size+((x.Items.length+lV M.Item.sz x.Items))
structure M.aH.ok (x:M.aH):Prop where
 aA:x.aA.size≤maxLen
 Field:x.Field.size≤maxLen
def M.aH.sh:List Shp:=[.str,.str]
def M.aH.sz (x:M.aH):Nat:=x.aA.size+(x.Field.size)
structure M.Database.ok (x:M.Database):Prop where
 Name:x.Name.size≤maxLen
 Version:inI x.Version
 Stores:(x.Stores.length≤maxLen ∧ ∀y∈x.Stores,M.aA.ok y)
 Unique:(x.Unique.length≤maxLen ∧ ∀y∈x.Unique,M.aH.ok y)
def M.Database.sh:List Shp:=[.str,.int .i64,.sl M.aA.sh,.sl M.aH.sh]
def M.Database.sz (x:M.Database):Nat:=x.Name.size+((x.Stores.length+lV M.aA.sz x.Stores)+((x.Unique.length+lV M.aH.sz x.Unique)))
structure M.Sync.ok (x:M.Sync):Prop where
 aG:M.aG.ok x.aG
 Tries:inI x.Tries
 WaitUntil:inI x.WaitUntil
def M.Sync.sh:List Shp:=[.int .i64,.int .i64,.sl M.aT.sh,.int .i64,.int .i64]
def M.Sync.sz (x:M.Sync):Nat:=M.aG.sz x.aG
structure M.aD.ok (x:M.aD):Prop where
 Base:M.aA.ok x.Base
 Seen:inI x.Seen
 Sync:M.Sync.ok x.Sync
def M.aD.sh:List Shp:=[.str,.sl M.Item.sh,.int .i64,.int .i64,.int .i64,.int .i64,.sl M.aT.sh,.int .i64,.int .i64]
def M.aD.sz (x:M.aD):Nat:=M.aA.sz x.Base+(M.Sync.sz x.Sync)
structure M.bF.ok (x:M.bF):Prop where
 Base:M.Database.ok x.Base
 Log:okB x.Log
 Count:inI x.Count
def M.bF.sh:List Shp:=[.str,.int .i64,.sl M.aA.sh,.sl M.aH.sh,.sl [.int .u8],.int .i64]
def M.bF.sz (x:M.bF):Nat:=M.Database.sz x.Base+(x.Log.length)
structure M.Bucket.ok (x:M.Bucket):Prop where
 Site:x.Site.size≤maxLen
 Top:x.Top.size≤maxLen
 Registration:M.Registration.ok x.Registration
 Caches:M.aE.ok x.Caches
 bF:M.bF.ok x.bF
 aD:M.aD.ok x.aD
 LastUsed:inI x.LastUsed
def M.Bucket.sh:List Shp:=[.str,.str,.str,.int .i64,.int .i64,.int .i64,.sl M.Cache.sh,.str,.int .i64,.sl M.aA.sh,.sl M.aH.sh,.sl [.int .u8],.int .i64,.str,.sl M.Item.sh,.int .i64,.int .i64,.int .i64,.int .i64,.sl M.aT.sh,.int .i64,.int .i64,.int .i64,.bool]
def M.Bucket.sz (x:M.Bucket):Nat:=x.Site.size+(x.Top.size+(M.Registration.sz x.Registration+(M.aE.sz x.Caches+(M.bF.sz x.bF+(M.aD.sz x.aD)))))
structure M.Op.ok (x:M.Op):Prop where
 Kind:inI x.Kind
 aA:x.aA.size≤maxLen
 Key:M.Key.ok x.Key
 aC:M.aC.ok x.aC
 Field:x.Field.size≤maxLen
def M.Op.sh:List Shp:=[.int .i64,.str,.int .i64,.int .i64,.str,.sl M.Field.sh,.str]
def M.Op.sz (x:M.Op):Nat:=x.aA.size+(M.Key.sz x.Key+(M.aC.sz x.aC+(x.Field.size)))
structure M.eG.ok (x:M.eG):Prop where
 Low:M.Key.ok x.Low
 High:M.Key.ok x.High
def M.eG.sh:List Shp:=[.bool,.bool,.int .i64,.int .i64,.str,.int .i64,.int .i64,.str]
def M.eG.sz (x:M.eG):Nat:=M.Key.sz x.Low+(M.Key.sz x.High)
structure M.gK.ok (x:M.gK):Prop where
 Kind:inI x.Kind
 aA:x.aA.size≤maxLen
 Field:x.Field.size≤maxLen
def M.gK.sh:List Shp:=[.int .i64,.str,.str]
def M.gK.sz (x:M.gK):Nat:=x.aA.size+(x.Field.size)
structure M.aP.ok (x:M.aP):Prop where
 Device:inI x.Device
 Seq:inI x.Seq
def M.aP.sh:List Shp:=[.int .i64,.int .i64]
structure M.Server.ok (x:M.Server):Prop where
 aA:M.aA.ok x.aA
 aP:(x.aP.length≤maxLen ∧ ∀y∈x.aP,M.aP.ok y)
 Changes:(x.Changes.length≤maxLen ∧ ∀y∈x.Changes,M.aT.ok y)
def M.Server.sh:List Shp:=[.str,.sl M.Item.sh,.int .i64,.sl M.aP.sh,.sl M.aT.sh]
def M.Server.sz (x:M.Server):Nat:=M.aA.sz x.aA+(x.aP.length+((x.Changes.length+lV M.aT.sz x.Changes)))
end Go.Proofs.YtidhkhdnjonjfaaGreat.gen
