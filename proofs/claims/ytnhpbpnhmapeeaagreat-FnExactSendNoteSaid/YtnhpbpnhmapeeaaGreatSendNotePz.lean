/-
  Helper text. No conditions.
-/
import Derived.Test.YtnhpbpnhmapeeaaGreatSendNoteMod
namespace Go.Proofs.YtnhpbpnhmapeeaaGreat.gen
open Go Go.Sh
set_option linter.unusedVariables false
set_option linter.unusedSimpArgs false
structure M.Registration.ok (x:M.Registration):Prop where
 Site:x.Site.size≤maxLen
 Installing:inI x.Installing
 Waiting:inI x.Waiting
 Active:inI x.Active
def M.Registration.sh:List Shp:=[.str,.int .i64,.int .i64,.int .i64]
theorem M.Registration.cK (d:List D) (h:mS M.Registration.sh d) : ∃x,d=M.Registration.en x∧M.Registration.ok x:=by
 simp only [M.Registration.sh,mS,Has] at h
 obtain ⟨_,_,rfl,⟨a1,rfl,w1⟩,_,_,rfl,⟨a2,rfl,w2⟩,_,_,rfl,⟨a3,rfl,w3⟩,_,_,rfl,⟨a4,rfl,w4⟩,rfl⟩:=h
 exact ⟨⟨a1,a2,a3,a4⟩,rfl,⟨w1,wf_i64 w2,wf_i64 w3,wf_i64 w4⟩⟩
def M.Registration.sz (x:M.Registration):Nat:=x.Site.size
theorem M.Registration.lD (x:M.Registration) (hx:M.Registration.ok x):Sz (jW x) (M.Registration.sz x):=by
 intro l a b
 unfold jW M.Registration.sz
 exact (Sz.str hx.Site) l a b
theorem M.Registration.kH (x:M.Registration) (hx:M.Registration.ok x) (hs:M.Registration.sz x≤1048576):kE x=some x:=by
 unfold M.Registration.sz at hs
 unfold kE
 rfl
theorem M.Registration.kG (x:M.Registration) (hx:M.Registration.ok x):kF x x=some true:=by
 simp [kF]
theorem M.aCe.lD (xs:List Int) (hx:okB xs):Sz (uM xs) (xs.length):=by
 intro l a b
 unfold uM
 exact (Sz.str hx.1) l a b
theorem M.aCe.kH (xs:List Int) (hx:okB xs) (hs:xs.length≤1048576):uR xs=some xs:=by
 have hm:=le_max hx.1
 unfold uR
 rw [aAt (by omega) (by omega),Option.bind_some]
 refine aAI hx.1 (fun n k r hk hr => ?_) (fun n r => ?_) fuel 0 _ (by unfold fuel;omega) (by omega) (by simp) (by simp)
 ·simp only [mJ]
  rw [if_pos (bF hk),aQ hk,Option.bind_some,aQ (by omega),Option.bind_some,bH (by omega),Int.toNat_natCast]
 ·simp only [mJ]
  rw [if_neg (by rw [aT];simp)]
theorem M.aCe.kG (xs:List Int) (hx:okB xs):uS xs xs=some true:=by
 have hm:=le_max hx.1
 unfold uS
 rw [if_neg (by simp)]
 refine aAC hx.1 (fun n k hk => ?_) (fun n => ?_) fuel 0 (by unfold fuel;omega) (by omega)
 ·simp only [mD]
  rw [if_pos (bF hk),aQ hk]
  simp [bH (show k<9223372036854775807 by omega)]
 ·simp only [mD]
  rw [if_neg (by rw [aT];simp)]
structure M.Response.ok (x:M.Response):Prop where
 Type_:inI x.Type_
 Status:inI x.Status
 Version:inI x.Version
 Body:okB x.Body
def M.Response.sh:List Shp:=[.int .i64,.int .i64,.int .i64,.sl [.int .u8],.bool]
theorem M.Response.cK (d:List D) (h:mS M.Response.sh d) : ∃x,d=M.Response.en x∧M.Response.ok x:=by
 simp only [M.Response.sh,mS,Has] at h
 obtain ⟨_,_,rfl,⟨a1,rfl,w1⟩,_,_,rfl,⟨a2,rfl,w2⟩,_,_,rfl,⟨a3,rfl,w3⟩,_,_,rfl,⟨_,rfl,w4,q4⟩,_,_,rfl,⟨a5,rfl⟩,rfl⟩:=h
 obtain ⟨a4,rfl,e4⟩:=bE aNo q4
 exact ⟨⟨a1,a2,a3,a4,a5⟩,rfl,⟨wf_i64 w1,wf_i64 w2,wf_i64 w3,⟨by simpa using w4,e4⟩⟩⟩
def M.Response.sz (x:M.Response):Nat:=x.Body.length
theorem M.Response.lD (x:M.Response) (hx:M.Response.ok x):Sz (qS x) (M.Response.sz x):=by
 intro l a b
 unfold qS M.Response.sz
 exact (Sz.call (M.aCe.lD _ hx.Body)) l a b
theorem M.Response.kH (x:M.Response) (hx:M.Response.ok x) (hs:M.Response.sz x≤1048576):qJ x=some x:=by
 unfold M.Response.sz at hs
 unfold qJ
 rw [M.aCe.kH _ hx.Body (by omega),Option.bind_some]
theorem M.Response.kG (x:M.Response) (hx:M.Response.ok x):qZ x x=some true:=by
 simp [qZ,M.aCe.kG _ hx.Body]
structure M.Cached.ok (x:M.Cached):Prop where
 Site:x.Site.size≤maxLen
 Path:x.Path.size≤maxLen
 Response:M.Response.ok x.Response
def M.Cached.sh:List Shp:=[.str,.str,.int .i64,.int .i64,.int .i64,.sl [.int .u8],.bool]
theorem M.Cached.cK (d:List D) (h:mS M.Cached.sh d) : ∃x,d=M.Cached.en x∧M.Cached.ok x:=by
 simp only [M.Cached.sh,mS,Has] at h
 obtain ⟨_,_,rfl,⟨a1,rfl,w1⟩,_,_,rfl,⟨a2,rfl,w2⟩,_,_,rfl,⟨a3,rfl,w3⟩,_,_,rfl,⟨a4,rfl,w4⟩,_,_,rfl,⟨a5,rfl,w5⟩,_,_,rfl,⟨_,rfl,w6,q6⟩,_,_,rfl,⟨a7,rfl⟩,rfl⟩:=h
 obtain ⟨a6,rfl,e6⟩:=bE aNo q6
 exact ⟨⟨a1,a2,⟨a3,a4,a5,a6,a7⟩⟩,rfl,⟨w1,w2,⟨wf_i64 w3,wf_i64 w4,wf_i64 w5,⟨by simpa using w6,e6⟩⟩⟩⟩
def M.Cached.sz (x:M.Cached):Nat:=x.Site.size+(x.Path.size+(M.Response.sz x.Response))
theorem M.Cached.lD (x:M.Cached) (hx:M.Cached.ok x):Sz (vX x) (M.Cached.sz x):=by
 intro l a b
 unfold vX M.Cached.sz
 exact (Sz.aB5 hx.Site (Sz.aB5 hx.Path (Sz.call (M.Response.lD _ hx.Response)))) l a b
theorem M.Cached.kH (x:M.Cached) (hx:M.Cached.ok x) (hs:M.Cached.sz x≤1048576):wK x=some x:=by
 unfold M.Cached.sz at hs
 unfold wK
 rw [M.Response.kH _ hx.Response (by omega),Option.bind_some]
theorem M.Cached.kG (x:M.Cached) (hx:M.Cached.ok x):wL x x=some true:=by
 simp [wL,M.Response.kG _ hx.Response]
theorem M.aCg.lD (xs:List M.Cached) (hx:(xs.length≤maxLen ∧ ∀y∈xs,M.Cached.ok y)):Sz (tB xs) ((xs.length+aG M.Cached.sz xs)):=by
 intro l a b
 unfold tB
 exact (Sz.aEr hx.1 (fun x h=>M.Cached.lD x (hx.2 x h)) (fun _ _ _=>rfl)) l a b
theorem M.aCg.kH (xs:List M.Cached) (hx:(xs.length≤maxLen ∧ ∀y∈xs,M.Cached.ok y)) (hs:(xs.length+aG M.Cached.sz xs)≤1048576):tU xs=some xs:=by
 have hm:=le_max hx.1
 unfold tU
 rw [aAt (by omega) (by omega),Option.bind_some]
 refine aAI hx.1 (fun n k r hk hr => ?_) (fun n r => ?_) fuel 0 _ (by unfold fuel;omega) (by omega) (by simp) (by simp)
 ·simp only [jG]
  rw [if_pos (bF hk),aQ hk,Option.bind_some,M.Cached.kH _ (hx.2 _ (List.getElem_mem hk)) (by have:=cH (f:=M.Cached.sz) (List.getElem_mem hk);omega),Option.bind_some,aQ (by omega),Option.bind_some,bH (by omega),Int.toNat_natCast]
 ·simp only [jG]
  rw [if_neg (by rw [aT];simp)]
theorem M.aCg.kG (xs:List M.Cached) (hx:(xs.length≤maxLen ∧ ∀y∈xs,M.Cached.ok y)):tK xs xs=some true:=by
 have hm:=le_max hx.1
 unfold tK
 rw [if_neg (by simp)]
 refine aAC hx.1 (fun n k hk => ?_) (fun n => ?_) fuel 0 (by unfold fuel;omega) (by omega)
 ·simp only [jL]
  rw [if_pos (bF hk),aQ hk]
  simp [bH (show k<9223372036854775807 by omega),M.Cached.kG _ (hx.2 _ (List.getElem_mem hk))]
 ·simp only [jL]
  rw [if_neg (by rw [aT];simp)]
structure M.Cache.ok (x:M.Cache):Prop where
 Version:inI x.Version
 Entries:(x.Entries.length≤maxLen ∧ ∀y∈x.Entries,M.Cached.ok y)
def M.Cache.sh:List Shp:=[.int .i64,.sl M.Cached.sh]
theorem M.Cache.cK (d:List D) (h:mS M.Cache.sh d) : ∃x,d=M.Cache.en x∧M.Cache.ok x:=by
 simp only [M.Cache.sh,mS,Has] at h
 obtain ⟨_,_,rfl,⟨a1,rfl,w1⟩,_,_,rfl,⟨_,rfl,w2,q2⟩,rfl⟩:=h
 obtain ⟨a2,rfl,e2⟩:=bE M.Cached.cK q2
 exact ⟨⟨a1,a2⟩,rfl,⟨wf_i64 w1,⟨by simpa using w2,e2⟩⟩⟩
def M.Cache.sz (x:M.Cache):Nat:=(x.Entries.length+aG M.Cached.sz x.Entries)
theorem M.Cache.lD (x:M.Cache) (hx:M.Cache.ok x):Sz (zG x) (M.Cache.sz x):=by
 intro l a b
 unfold zG M.Cache.sz
 exact (Sz.call (M.aCg.lD _ hx.Entries)) l a b
theorem M.Cache.kH (x:M.Cache) (hx:M.Cache.ok x) (hs:M.Cache.sz x≤1048576):yK x=some x:=by
 unfold M.Cache.sz at hs
 unfold yK
 rw [M.aCg.kH _ hx.Entries (by omega),Option.bind_some]
theorem M.Cache.kG (x:M.Cache) (hx:M.Cache.ok x):zM x x=some true:=by
 simp [zM,M.aCg.kG _ hx.Entries]
theorem M.aEZ.lD (xs:List M.Cache) (hx:(xs.length≤maxLen ∧ ∀y∈xs,M.Cache.ok y)):Sz (xA xs) ((xs.length+aG M.Cache.sz xs)):=by
 intro l a b
 unfold xA
 exact (Sz.aEr hx.1 (fun x h=>M.Cache.lD x (hx.2 x h)) (fun _ _ _=>rfl)) l a b
theorem M.aEZ.kH (xs:List M.Cache) (hx:(xs.length≤maxLen ∧ ∀y∈xs,M.Cache.ok y)) (hs:(xs.length+aG M.Cache.sz xs)≤1048576):wS xs=some xs:=by
 have hm:=le_max hx.1
 unfold wS
 rw [aAt (by omega) (by omega),Option.bind_some]
 refine aAI hx.1 (fun n k r hk hr => ?_) (fun n r => ?_) fuel 0 _ (by unfold fuel;omega) (by omega) (by simp) (by simp)
 ·simp only [kS]
  rw [if_pos (bF hk),aQ hk,Option.bind_some,M.Cache.kH _ (hx.2 _ (List.getElem_mem hk)) (by have:=cH (f:=M.Cache.sz) (List.getElem_mem hk);omega),Option.bind_some,aQ (by omega),Option.bind_some,bH (by omega),Int.toNat_natCast]
 ·simp only [kS]
  rw [if_neg (by rw [aT];simp)]
theorem M.aEZ.kG (xs:List M.Cache) (hx:(xs.length≤maxLen ∧ ∀y∈xs,M.Cache.ok y)):wR xs xs=some true:=by
 have hm:=le_max hx.1
 unfold wR
 rw [if_neg (by simp)]
 refine aAC hx.1 (fun n k hk => ?_) (fun n => ?_) fuel 0 (by unfold fuel;omega) (by omega)
 ·simp only [kO]
  rw [if_pos (bF hk),aQ hk]
  simp [bH (show k<9223372036854775807 by omega),M.Cache.kG _ (hx.2 _ (List.getElem_mem hk))]
 ·simp only [kO]
  rw [if_neg (by rw [aT];simp)]
structure M.aU.ok (x:M.aU):Prop where
 Caches:(x.Caches.length≤maxLen ∧ ∀y∈x.Caches,M.Cache.ok y)
def M.aU.sh:List Shp:=[.sl M.Cache.sh]
theorem M.aU.cK (d:List D) (h:mS M.aU.sh d) : ∃x,d=M.aU.en x∧M.aU.ok x:=by
 simp only [M.aU.sh,mS,Has] at h
 obtain ⟨_,_,rfl,⟨_,rfl,w1,q1⟩,rfl⟩:=h
 obtain ⟨a1,rfl,e1⟩:=bE M.Cache.cK q1
 exact ⟨⟨a1⟩,rfl,⟨⟨by simpa using w1,e1⟩⟩⟩
def M.aU.sz (x:M.aU):Nat:=(x.Caches.length+aG M.Cache.sz x.Caches)
theorem M.aU.lD (x:M.aU) (hx:M.aU.ok x):Sz (rN x) (M.aU.sz x):=by
 intro l a b
 unfold rN M.aU.sz
 exact (Sz.call (M.aEZ.lD _ hx.Caches)) l a b
theorem M.aU.kH (x:M.aU) (hx:M.aU.ok x) (hs:M.aU.sz x≤1048576):qO x=some x:=by
 unfold M.aU.sz at hs
 unfold qO
 rw [M.aEZ.kH _ hx.Caches (by omega),Option.bind_some]
theorem M.aU.kG (x:M.aU) (hx:M.aU.ok x):qN x x=some true:=by
 simp [qN,M.aEZ.kG _ hx.Caches]
structure M.Key.ok (x:M.Key):Prop where
 Kind:inI x.Kind
 N:inI x.N
 Text:x.Text.size≤maxLen
def M.Key.sh:List Shp:=[.int .i64,.int .i64,.str]
theorem M.Key.cK (d:List D) (h:mS M.Key.sh d) : ∃x,d=M.Key.en x∧M.Key.ok x:=by
 simp only [M.Key.sh,mS,Has] at h
 obtain ⟨_,_,rfl,⟨a1,rfl,w1⟩,_,_,rfl,⟨a2,rfl,w2⟩,_,_,rfl,⟨a3,rfl,w3⟩,rfl⟩:=h
 exact ⟨⟨a1,a2,a3⟩,rfl,⟨wf_i64 w1,wf_i64 w2,w3⟩⟩
def M.Key.sz (x:M.Key):Nat:=x.Text.size
theorem M.Key.lD (x:M.Key) (hx:M.Key.ok x):Sz (aAJ x) (M.Key.sz x):=by
 intro l a b
 unfold aAJ M.Key.sz
 exact (Sz.str hx.Text) l a b
theorem M.Key.kH (x:M.Key) (hx:M.Key.ok x) (hs:M.Key.sz x≤1048576):aAG x=some x:=by
 unfold M.Key.sz at hs
 unfold aAG
 rfl
theorem M.Key.kG (x:M.Key) (hx:M.Key.ok x):aAH x x=some true:=by
 simp [aAH]
structure M.Field.ok (x:M.Field):Prop where
 Name:x.Name.size≤maxLen
 N:inI x.N
def M.Field.sh:List Shp:=[.str,.int .i64]
theorem M.Field.cK (d:List D) (h:mS M.Field.sh d) : ∃x,d=M.Field.en x∧M.Field.ok x:=by
 simp only [M.Field.sh,mS,Has] at h
 obtain ⟨_,_,rfl,⟨a1,rfl,w1⟩,_,_,rfl,⟨a2,rfl,w2⟩,rfl⟩:=h
 exact ⟨⟨a1,a2⟩,rfl,⟨w1,wf_i64 w2⟩⟩
def M.Field.sz (x:M.Field):Nat:=x.Name.size
theorem M.Field.lD (x:M.Field) (hx:M.Field.ok x):Sz (yX x) (M.Field.sz x):=by
 intro l a b
 unfold yX M.Field.sz
 exact (Sz.str hx.Name) l a b
theorem M.Field.kH (x:M.Field) (hx:M.Field.ok x) (hs:M.Field.sz x≤1048576):zJ x=some x:=by
 unfold M.Field.sz at hs
 unfold zJ
 rfl
theorem M.Field.kG (x:M.Field) (hx:M.Field.ok x):yE x x=some true:=by
 simp [yE]
theorem M.aE0.lD (xs:List M.Field) (hx:(xs.length≤maxLen ∧ ∀y∈xs,M.Field.ok y)):Sz (vU xs) ((xs.length+aG M.Field.sz xs)):=by
 intro l a b
 unfold vU
 exact (Sz.aEr hx.1 (fun x h=>M.Field.lD x (hx.2 x h)) (fun _ _ _=>rfl)) l a b
theorem M.aE0.kH (xs:List M.Field) (hx:(xs.length≤maxLen ∧ ∀y∈xs,M.Field.ok y)) (hs:(xs.length+aG M.Field.sz xs)≤1048576):xD xs=some xs:=by
 have hm:=le_max hx.1
 unfold xD
 rw [aAt (by omega) (by omega),Option.bind_some]
 refine aAI hx.1 (fun n k r hk hr => ?_) (fun n r => ?_) fuel 0 _ (by unfold fuel;omega) (by omega) (by simp) (by simp)
 ·simp only [kJ]
  rw [if_pos (bF hk),aQ hk,Option.bind_some,M.Field.kH _ (hx.2 _ (List.getElem_mem hk)) (by have:=cH (f:=M.Field.sz) (List.getElem_mem hk);omega),Option.bind_some,aQ (by omega),Option.bind_some,bH (by omega),Int.toNat_natCast]
 ·simp only [kJ]
  rw [if_neg (by rw [aT];simp)]
theorem M.aE0.kG (xs:List M.Field) (hx:(xs.length≤maxLen ∧ ∀y∈xs,M.Field.ok y)):wV xs xs=some true:=by
 have hm:=le_max hx.1
 unfold wV
 rw [if_neg (by simp)]
 refine aAC hx.1 (fun n k hk => ?_) (fun n => ?_) fuel 0 (by unfold fuel;omega) (by omega)
 ·simp only [kL]
  rw [if_pos (bF hk),aQ hk]
  simp [bH (show k<9223372036854775807 by omega),M.Field.kG _ (hx.2 _ (List.getElem_mem hk))]
 ·simp only [kL]
  rw [if_neg (by rw [aT];simp)]
structure M.aH.ok (x:M.aH):Prop where
 Fields:(x.Fields.length≤maxLen ∧ ∀y∈x.Fields,M.Field.ok y)
def M.aH.sh:List Shp:=[.sl M.Field.sh]
theorem M.aH.cK (d:List D) (h:mS M.aH.sh d) : ∃x,d=M.aH.en x∧M.aH.ok x:=by
 simp only [M.aH.sh,mS,Has] at h
 obtain ⟨_,_,rfl,⟨_,rfl,w1,q1⟩,rfl⟩:=h
 obtain ⟨a1,rfl,e1⟩:=bE M.Field.cK q1
 exact ⟨⟨a1⟩,rfl,⟨⟨by simpa using w1,e1⟩⟩⟩
def M.aH.sz (x:M.aH):Nat:=(x.Fields.length+aG M.Field.sz x.Fields)
theorem M.aH.lD (x:M.aH) (hx:M.aH.ok x):Sz (wZ x) (M.aH.sz x):=by
 intro l a b
 unfold wZ M.aH.sz
 exact (Sz.call (M.aE0.lD _ hx.Fields)) l a b
theorem M.aH.kH (x:M.aH) (hx:M.aH.ok x) (hs:M.aH.sz x≤1048576):wH x=some x:=by
 unfold M.aH.sz at hs
 unfold wH
 rw [M.aE0.kH _ hx.Fields (by omega),Option.bind_some]
theorem M.aH.kG (x:M.aH) (hx:M.aH.ok x):wW x x=some true:=by
 simp [wW,M.aE0.kG _ hx.Fields]
structure M.Item.ok (x:M.Item):Prop where
 Key:M.Key.ok x.Key
 aH:M.aH.ok x.aH
def M.Item.sh:List Shp:=[.int .i64,.int .i64,.str,.sl M.Field.sh]
theorem M.Item.cK (d:List D) (h:mS M.Item.sh d) : ∃x,d=M.Item.en x∧M.Item.ok x:=by
 simp only [M.Item.sh,mS,Has] at h
 obtain ⟨_,_,rfl,⟨a1,rfl,w1⟩,_,_,rfl,⟨a2,rfl,w2⟩,_,_,rfl,⟨a3,rfl,w3⟩,_,_,rfl,⟨_,rfl,w4,q4⟩,rfl⟩:=h
 obtain ⟨a4,rfl,e4⟩:=bE M.Field.cK q4
 exact ⟨⟨⟨a1,a2,a3⟩,⟨a4⟩⟩,rfl,⟨⟨wf_i64 w1,wf_i64 w2,w3⟩,⟨⟨by simpa using w4,e4⟩⟩⟩⟩
def M.Item.sz (x:M.Item):Nat:=M.Key.sz x.Key+(M.aH.sz x.aH)
theorem M.Item.lD (x:M.Item) (hx:M.Item.ok x):Sz (aAq x) (M.Item.sz x):=by
 intro l a b
 unfold aAq M.Item.sz
 exact (Sz.sG (M.Key.lD _ hx.Key) (Sz.call (M.aH.lD _ hx.aH))) l a b
theorem M.Item.kH (x:M.Item) (hx:M.Item.ok x) (hs:M.Item.sz x≤1048576):aAQ x=some x:=by
 unfold M.Item.sz at hs
 unfold aAQ
 rw [M.Key.kH _ hx.Key (by omega),Option.bind_some,M.aH.kH _ hx.aH (by omega),Option.bind_some]
theorem M.Item.kG (x:M.Item) (hx:M.Item.ok x):aAU x x=some true:=by
 simp [aAU,M.Key.kG _ hx.Key,M.aH.kG _ hx.aH]
theorem M.aFF.lD (xs:List M.Item) (hx:(xs.length≤maxLen ∧ ∀y∈xs,M.Item.ok y)):Sz (zP xs) ((xs.length+aG M.Item.sz xs)):=by
 intro l a b
 unfold zP
 exact (Sz.aEr hx.1 (fun x h=>M.Item.lD x (hx.2 x h)) (fun _ _ _=>rfl)) l a b
theorem M.aFF.kH (xs:List M.Item) (hx:(xs.length≤maxLen ∧ ∀y∈xs,M.Item.ok y)) (hs:(xs.length+aG M.Item.sz xs)≤1048576):yJ xs=some xs:=by
 have hm:=le_max hx.1
 unfold yJ
 rw [aAt (by omega) (by omega),Option.bind_some]
 refine aAI hx.1 (fun n k r hk hr => ?_) (fun n r => ?_) fuel 0 _ (by unfold fuel;omega) (by omega) (by simp) (by simp)
 ·simp only [mO]
  rw [if_pos (bF hk),aQ hk,Option.bind_some,M.Item.kH _ (hx.2 _ (List.getElem_mem hk)) (by have:=cH (f:=M.Item.sz) (List.getElem_mem hk);omega),Option.bind_some,aQ (by omega),Option.bind_some,bH (by omega),Int.toNat_natCast]
 ·simp only [mO]
  rw [if_neg (by rw [aT];simp)]
theorem M.aFF.kG (xs:List M.Item) (hx:(xs.length≤maxLen ∧ ∀y∈xs,M.Item.ok y)):zO xs xs=some true:=by
 have hm:=le_max hx.1
 unfold zO
 rw [if_neg (by simp)]
 refine aAC hx.1 (fun n k hk => ?_) (fun n => ?_) fuel 0 (by unfold fuel;omega) (by omega)
 ·simp only [mA]
  rw [if_pos (bF hk),aQ hk]
  simp [bH (show k<9223372036854775807 by omega),M.Item.kG _ (hx.2 _ (List.getElem_mem hk))]
 ·simp only [mA]
  rw [if_neg (by rw [aT];simp)]
structure M.aE.ok (x:M.aE):Prop where
 Name:x.Name.size≤maxLen
 Items:(x.Items.length≤maxLen ∧ ∀y∈x.Items,M.Item.ok y)
 Auto:inI x.Auto
def M.aE.sh:List Shp:=[.str,.sl M.Item.sh,.int .i64]
theorem M.aE.cK (d:List D) (h:mS M.aE.sh d) : ∃x,d=M.aE.en x∧M.aE.ok x:=by
 simp only [M.aE.sh,mS,Has] at h
 obtain ⟨_,_,rfl,⟨a1,rfl,w1⟩,_,_,rfl,⟨_,rfl,w2,q2⟩,_,_,rfl,⟨a3,rfl,w3⟩,rfl⟩:=h
 obtain ⟨a2,rfl,e2⟩:=bE M.Item.cK q2
 exact ⟨⟨a1,a2,a3⟩,rfl,⟨w1,⟨by simpa using w2,e2⟩,wf_i64 w3⟩⟩
def M.aE.sz (x:M.aE):Nat:=x.Name.size+((x.Items.length+aG M.Item.sz x.Items))
theorem M.aE.lD (x:M.aE) (hx:M.aE.ok x):Sz (pJ x) (M.aE.sz x):=by
 intro l a b
 unfold pJ M.aE.sz
 exact (Sz.aB5 hx.Name (Sz.call (M.aFF.lD _ hx.Items))) l a b
theorem M.aE.kH (x:M.aE) (hx:M.aE.ok x) (hs:M.aE.sz x≤1048576):pP x=some x:=by
 unfold M.aE.sz at hs
 unfold pP
 rw [M.aFF.kH _ hx.Items (by omega),Option.bind_some]
theorem M.aE.kG (x:M.aE) (hx:M.aE.ok x):pM x x=some true:=by
 simp [pM,M.aFF.kG _ hx.Items]
theorem M.aEN.lD (xs:List M.aE) (hx:(xs.length≤maxLen ∧ ∀y∈xs,M.aE.ok y)):Sz (wN xs) ((xs.length+aG M.aE.sz xs)):=by
 intro l a b
 unfold wN
 exact (Sz.aEr hx.1 (fun x h=>M.aE.lD x (hx.2 x h)) (fun _ _ _=>rfl)) l a b
theorem M.aEN.kH (xs:List M.aE) (hx:(xs.length≤maxLen ∧ ∀y∈xs,M.aE.ok y)) (hs:(xs.length+aG M.aE.sz xs)≤1048576):wB xs=some xs:=by
 have hm:=le_max hx.1
 unfold wB
 rw [aAt (by omega) (by omega),Option.bind_some]
 refine aAI hx.1 (fun n k r hk hr => ?_) (fun n r => ?_) fuel 0 _ (by unfold fuel;omega) (by omega) (by simp) (by simp)
 ·simp only [kP]
  rw [if_pos (bF hk),aQ hk,Option.bind_some,M.aE.kH _ (hx.2 _ (List.getElem_mem hk)) (by have:=cH (f:=M.aE.sz) (List.getElem_mem hk);omega),Option.bind_some,aQ (by omega),Option.bind_some,bH (by omega),Int.toNat_natCast]
 ·simp only [kP]
  rw [if_neg (by rw [aT];simp)]
theorem M.aEN.kG (xs:List M.aE) (hx:(xs.length≤maxLen ∧ ∀y∈xs,M.aE.ok y)):vT xs xs=some true:=by
 have hm:=le_max hx.1
 unfold vT
 rw [if_neg (by simp)]
 refine aAC hx.1 (fun n k hk => ?_) (fun n => ?_) fuel 0 (by unfold fuel;omega) (by omega)
 ·simp only [kK]
  rw [if_pos (bF hk),aQ hk]
  simp [bH (show k<9223372036854775807 by omega),M.aE.kG _ (hx.2 _ (List.getElem_mem hk))]
 ·simp only [kK]
  rw [if_neg (by rw [aT];simp)]
structure M.aD.ok (x:M.aD):Prop where
 aE:x.aE.size≤maxLen
 Field:x.Field.size≤maxLen
def M.aD.sh:List Shp:=[.str,.str]
theorem M.aD.cK (d:List D) (h:mS M.aD.sh d) : ∃x,d=M.aD.en x∧M.aD.ok x:=by
 simp only [M.aD.sh,mS,Has] at h
 obtain ⟨_,_,rfl,⟨a1,rfl,w1⟩,_,_,rfl,⟨a2,rfl,w2⟩,rfl⟩:=h
 exact ⟨⟨a1,a2⟩,rfl,⟨w1,w2⟩⟩
def M.aD.sz (x:M.aD):Nat:=x.aE.size+(x.Field.size)
theorem M.aD.lD (x:M.aD) (hx:M.aD.ok x):Sz (qA x) (M.aD.sz x):=by
 intro l a b
 unfold qA M.aD.sz
 exact (Sz.aB5 hx.aE (Sz.str hx.Field)) l a b
theorem M.aD.kH (x:M.aD) (hx:M.aD.ok x) (hs:M.aD.sz x≤1048576):rH x=some x:=by
 unfold M.aD.sz at hs
 unfold rH
 rfl
theorem M.aD.kG (x:M.aD) (hx:M.aD.ok x):rD x x=some true:=by
 simp [rD]
theorem M.aA9.lD (xs:List M.aD) (hx:(xs.length≤maxLen ∧ ∀y∈xs,M.aD.ok y)):Sz (oP xs) ((xs.length+aG M.aD.sz xs)):=by
 intro l a b
 unfold oP
 exact (Sz.aEr hx.1 (fun x h=>M.aD.lD x (hx.2 x h)) (fun _ _ _=>rfl)) l a b
theorem M.aA9.kH (xs:List M.aD) (hx:(xs.length≤maxLen ∧ ∀y∈xs,M.aD.ok y)) (hs:(xs.length+aG M.aD.sz xs)≤1048576):pA xs=some xs:=by
 have hm:=le_max hx.1
 unfold pA
 rw [aAt (by omega) (by omega),Option.bind_some]
 refine aAI hx.1 (fun n k r hk hr => ?_) (fun n r => ?_) fuel 0 _ (by unfold fuel;omega) (by omega) (by simp) (by simp)
 ·simp only [hZ]
  rw [if_pos (bF hk),aQ hk,Option.bind_some,M.aD.kH _ (hx.2 _ (List.getElem_mem hk)) (by have:=cH (f:=M.aD.sz) (List.getElem_mem hk);omega),Option.bind_some,aQ (by omega),Option.bind_some,bH (by omega),Int.toNat_natCast]
 ·simp only [hZ]
  rw [if_neg (by rw [aT];simp)]
theorem M.aA9.kG (xs:List M.aD) (hx:(xs.length≤maxLen ∧ ∀y∈xs,M.aD.ok y)):oT xs xs=some true:=by
 have hm:=le_max hx.1
 unfold oT
 rw [if_neg (by simp)]
 refine aAC hx.1 (fun n k hk => ?_) (fun n => ?_) fuel 0 (by unfold fuel;omega) (by omega)
 ·simp only [iA]
  rw [if_pos (bF hk),aQ hk]
  simp [bH (show k<9223372036854775807 by omega),M.aD.kG _ (hx.2 _ (List.getElem_mem hk))]
 ·simp only [iA]
  rw [if_neg (by rw [aT];simp)]
structure M.Database.ok (x:M.Database):Prop where
 Name:x.Name.size≤maxLen
 Version:inI x.Version
 Stores:(x.Stores.length≤maxLen ∧ ∀y∈x.Stores,M.aE.ok y)
 Unique:(x.Unique.length≤maxLen ∧ ∀y∈x.Unique,M.aD.ok y)
def M.Database.sh:List Shp:=[.str,.int .i64,.sl M.aE.sh,.sl M.aD.sh]
theorem M.Database.cK (d:List D) (h:mS M.Database.sh d) : ∃x,d=M.Database.en x∧M.Database.ok x:=by
 simp only [M.Database.sh,mS,Has] at h
 obtain ⟨_,_,rfl,⟨a1,rfl,w1⟩,_,_,rfl,⟨a2,rfl,w2⟩,_,_,rfl,⟨_,rfl,w3,q3⟩,_,_,rfl,⟨_,rfl,w4,q4⟩,rfl⟩:=h
 obtain ⟨a3,rfl,e3⟩:=bE M.aE.cK q3
 obtain ⟨a4,rfl,e4⟩:=bE M.aD.cK q4
 exact ⟨⟨a1,a2,a3,a4⟩,rfl,⟨w1,wf_i64 w2,⟨by simpa using w3,e3⟩,⟨by simpa using w4,e4⟩⟩⟩
def M.Database.sz (x:M.Database):Nat:=x.Name.size+((x.Stores.length+aG M.aE.sz x.Stores)+((x.Unique.length+aG M.aD.sz x.Unique)))
theorem M.Database.lD (x:M.Database) (hx:M.Database.ok x):Sz (rF x) (M.Database.sz x):=by
 intro l a b
 unfold rF M.Database.sz
 exact (Sz.aB5 hx.Name (Sz.sG (M.aEN.lD _ hx.Stores) (Sz.call (M.aA9.lD _ hx.Unique)))) l a b
theorem M.Database.kH (x:M.Database) (hx:M.Database.ok x) (hs:M.Database.sz x≤1048576):pT x=some x:=by
 unfold M.Database.sz at hs
 unfold pT
 rw [M.aEN.kH _ hx.Stores (by omega),Option.bind_some,M.aA9.kH _ hx.Unique (by omega),Option.bind_some]
theorem M.Database.kG (x:M.Database) (hx:M.Database.ok x):rK x x=some true:=by
 simp [rK,M.aEN.kG _ hx.Stores,M.aA9.kG _ hx.Unique]
structure M.bD.ok (x:M.bD):Prop where
 Base:M.Database.ok x.Base
 Log:okB x.Log
 Count:inI x.Count
def M.bD.sh:List Shp:=[.str,.int .i64,.sl M.aE.sh,.sl M.aD.sh,.sl [.int .u8],.int .i64]
theorem M.bD.cK (d:List D) (h:mS M.bD.sh d) : ∃x,d=M.bD.en x∧M.bD.ok x:=by
 simp only [M.bD.sh,mS,Has] at h
 obtain ⟨_,_,rfl,⟨a1,rfl,w1⟩,_,_,rfl,⟨a2,rfl,w2⟩,_,_,rfl,⟨_,rfl,w3,q3⟩,_,_,rfl,⟨_,rfl,w4,q4⟩,_,_,rfl,⟨_,rfl,w5,q5⟩,_,_,rfl,⟨a6,rfl,w6⟩,rfl⟩:=h
 obtain ⟨a3,rfl,e3⟩:=bE M.aE.cK q3
 obtain ⟨a4,rfl,e4⟩:=bE M.aD.cK q4
 obtain ⟨a5,rfl,e5⟩:=bE aNo q5
 exact ⟨⟨⟨a1,a2,a3,a4⟩,a5,a6⟩,rfl,⟨⟨w1,wf_i64 w2,⟨by simpa using w3,e3⟩,⟨by simpa using w4,e4⟩⟩,⟨by simpa using w5,e5⟩,wf_i64 w6⟩⟩
def M.bD.sz (x:M.bD):Nat:=M.Database.sz x.Base+(x.Log.length)
theorem M.bD.lD (x:M.bD) (hx:M.bD.ok x):Sz (aAP x) (M.bD.sz x):=by
 intro l a b
 unfold aAP M.bD.sz
 exact (Sz.sG (M.Database.lD _ hx.Base) (Sz.call (M.aCe.lD _ hx.Log))) l a b
theorem M.bD.kH (x:M.bD) (hx:M.bD.ok x) (hs:M.bD.sz x≤1048576):aA1 x=some x:=by
 unfold M.bD.sz at hs
 unfold aA1
 rw [M.Database.kH _ hx.Base (by omega),Option.bind_some,M.aCe.kH _ hx.Log (by omega),Option.bind_some]
theorem M.bD.kG (x:M.bD) (hx:M.bD.ok x):aAr x x=some true:=by
 simp [aAr,M.Database.kG _ hx.Base,M.aCe.kG _ hx.Log]
structure M.aV.ok (x:M.aV):Prop where
 Device:inI x.Device
 Seq:inI x.Seq
 Key:M.Key.ok x.Key
 Field:x.Field.size≤maxLen
 N:inI x.N
def M.aV.sh:List Shp:=[.int .i64,.int .i64,.int .i64,.int .i64,.str,.str,.int .i64]
theorem M.aV.cK (d:List D) (h:mS M.aV.sh d) : ∃x,d=M.aV.en x∧M.aV.ok x:=by
 simp only [M.aV.sh,mS,Has] at h
 obtain ⟨_,_,rfl,⟨a1,rfl,w1⟩,_,_,rfl,⟨a2,rfl,w2⟩,_,_,rfl,⟨a3,rfl,w3⟩,_,_,rfl,⟨a4,rfl,w4⟩,_,_,rfl,⟨a5,rfl,w5⟩,_,_,rfl,⟨a6,rfl,w6⟩,_,_,rfl,⟨a7,rfl,w7⟩,rfl⟩:=h
 exact ⟨⟨a1,a2,⟨a3,a4,a5⟩,a6,a7⟩,rfl,⟨wf_i64 w1,wf_i64 w2,⟨wf_i64 w3,wf_i64 w4,w5⟩,w6,wf_i64 w7⟩⟩
def M.aV.sz (x:M.aV):Nat:=M.Key.sz x.Key+(x.Field.size)
theorem M.aV.lD (x:M.aV) (hx:M.aV.ok x):Sz (zE x) (M.aV.sz x):=by
 intro l a b
 unfold zE M.aV.sz
 exact (Sz.sG (M.Key.lD _ hx.Key) (Sz.str hx.Field)) l a b
theorem M.aV.kH (x:M.aV) (hx:M.aV.ok x) (hs:M.aV.sz x≤1048576):yV x=some x:=by
 unfold M.aV.sz at hs
 unfold yV
 rw [M.Key.kH _ hx.Key (by omega),Option.bind_some]
theorem M.aV.kG (x:M.aV) (hx:M.aV.ok x):yG x x=some true:=by
 simp [yG,M.Key.kG _ hx.Key]
theorem M.aB7.lD (xs:List M.aV) (hx:(xs.length≤maxLen ∧ ∀y∈xs,M.aV.ok y)):Sz (qT xs) ((xs.length+aG M.aV.sz xs)):=by
 intro l a b
 unfold qT
 exact (Sz.aEr hx.1 (fun x h=>M.aV.lD x (hx.2 x h)) (fun _ _ _=>rfl)) l a b
theorem M.aB7.kH (xs:List M.aV) (hx:(xs.length≤maxLen ∧ ∀y∈xs,M.aV.ok y)) (hs:(xs.length+aG M.aV.sz xs)≤1048576):qX xs=some xs:=by
 have hm:=le_max hx.1
 unfold qX
 rw [aAt (by omega) (by omega),Option.bind_some]
 refine aAI hx.1 (fun n k r hk hr => ?_) (fun n r => ?_) fuel 0 _ (by unfold fuel;omega) (by omega) (by simp) (by simp)
 ·simp only [kV]
  rw [if_pos (bF hk),aQ hk,Option.bind_some,M.aV.kH _ (hx.2 _ (List.getElem_mem hk)) (by have:=cH (f:=M.aV.sz) (List.getElem_mem hk);omega),Option.bind_some,aQ (by omega),Option.bind_some,bH (by omega),Int.toNat_natCast]
 ·simp only [kV]
  rw [if_neg (by rw [aT];simp)]
theorem M.aB7.kG (xs:List M.aV) (hx:(xs.length≤maxLen ∧ ∀y∈xs,M.aV.ok y)):rM xs xs=some true:=by
 have hm:=le_max hx.1
 unfold rM
 rw [if_neg (by simp)]
 refine aAC hx.1 (fun n k hk => ?_) (fun n => ?_) fuel 0 (by unfold fuel;omega) (by omega)
 ·simp only [kR]
  rw [if_pos (bF hk),aQ hk]
  simp [bH (show k<9223372036854775807 by omega),M.aV.kG _ (hx.2 _ (List.getElem_mem hk))]
 ·simp only [kR]
  rw [if_neg (by rw [aT];simp)]
structure M.aN.ok (x:M.aN):Prop where
 Device:inI x.Device
 Next:inI x.Next
 Writes:(x.Writes.length≤maxLen ∧ ∀y∈x.Writes,M.aV.ok y)
def M.aN.sh:List Shp:=[.int .i64,.int .i64,.sl M.aV.sh]
theorem M.aN.cK (d:List D) (h:mS M.aN.sh d) : ∃x,d=M.aN.en x∧M.aN.ok x:=by
 simp only [M.aN.sh,mS,Has] at h
 obtain ⟨_,_,rfl,⟨a1,rfl,w1⟩,_,_,rfl,⟨a2,rfl,w2⟩,_,_,rfl,⟨_,rfl,w3,q3⟩,rfl⟩:=h
 obtain ⟨a3,rfl,e3⟩:=bE M.aV.cK q3
 exact ⟨⟨a1,a2,a3⟩,rfl,⟨wf_i64 w1,wf_i64 w2,⟨by simpa using w3,e3⟩⟩⟩
def M.aN.sz (x:M.aN):Nat:=(x.Writes.length+aG M.aV.sz x.Writes)
theorem M.aN.lD (x:M.aN) (hx:M.aN.ok x):Sz (wG x) (M.aN.sz x):=by
 intro l a b
 unfold wG M.aN.sz
 exact (Sz.call (M.aB7.lD _ hx.Writes)) l a b
theorem M.aN.kH (x:M.aN) (hx:M.aN.ok x) (hs:M.aN.sz x≤1048576):vV x=some x:=by
 unfold M.aN.sz at hs
 unfold vV
 rw [M.aB7.kH _ hx.Writes (by omega),Option.bind_some]
theorem M.aN.kG (x:M.aN) (hx:M.aN.ok x):wY x x=some true:=by
 simp [wY,M.aB7.kG _ hx.Writes]
structure M.Sync.ok (x:M.Sync):Prop where
 aN:M.aN.ok x.aN
 Tries:inI x.Tries
 WaitUntil:inI x.WaitUntil
def M.Sync.sh:List Shp:=[.int .i64,.int .i64,.sl M.aV.sh,.int .i64,.int .i64]
theorem M.Sync.cK (d:List D) (h:mS M.Sync.sh d) : ∃x,d=M.Sync.en x∧M.Sync.ok x:=by
 simp only [M.Sync.sh,mS,Has] at h
 obtain ⟨_,_,rfl,⟨a1,rfl,w1⟩,_,_,rfl,⟨a2,rfl,w2⟩,_,_,rfl,⟨_,rfl,w3,q3⟩,_,_,rfl,⟨a4,rfl,w4⟩,_,_,rfl,⟨a5,rfl,w5⟩,rfl⟩:=h
 obtain ⟨a3,rfl,e3⟩:=bE M.aV.cK q3
 exact ⟨⟨⟨a1,a2,a3⟩,a4,a5⟩,rfl,⟨⟨wf_i64 w1,wf_i64 w2,⟨by simpa using w3,e3⟩⟩,wf_i64 w4,wf_i64 w5⟩⟩
def M.Sync.sz (x:M.Sync):Nat:=M.aN.sz x.aN
theorem M.Sync.lD (x:M.Sync) (hx:M.Sync.ok x):Sz (aA4 x) (M.Sync.sz x):=by
 intro l a b
 unfold aA4 M.Sync.sz
 exact (Sz.call (M.aN.lD _ hx.aN)) l a b
theorem M.Sync.kH (x:M.Sync) (hx:M.Sync.ok x) (hs:M.Sync.sz x≤1048576):aAu x=some x:=by
 unfold M.Sync.sz at hs
 unfold aAu
 rw [M.aN.kH _ hx.aN (by omega),Option.bind_some]
theorem M.Sync.kG (x:M.Sync) (hx:M.Sync.ok x):aAa x x=some true:=by
 simp [aAa,M.aN.kG _ hx.aN]
structure M.aC.ok (x:M.aC):Prop where
 Base:M.aE.ok x.Base
 Seen:inI x.Seen
 Sync:M.Sync.ok x.Sync
def M.aC.sh:List Shp:=[.str,.sl M.Item.sh,.int .i64,.int .i64,.int .i64,.int .i64,.sl M.aV.sh,.int .i64,.int .i64]
theorem M.aC.cK (d:List D) (h:mS M.aC.sh d) : ∃x,d=M.aC.en x∧M.aC.ok x:=by
 simp only [M.aC.sh,mS,Has] at h
 obtain ⟨_,_,rfl,⟨a1,rfl,w1⟩,_,_,rfl,⟨_,rfl,w2,q2⟩,_,_,rfl,⟨a3,rfl,w3⟩,_,_,rfl,⟨a4,rfl,w4⟩,_,_,rfl,⟨a5,rfl,w5⟩,_,_,rfl,⟨a6,rfl,w6⟩,_,_,rfl,⟨_,rfl,w7,q7⟩,_,_,rfl,⟨a8,rfl,w8⟩,_,_,rfl,⟨a9,rfl,w9⟩,rfl⟩:=h
 obtain ⟨a2,rfl,e2⟩:=bE M.Item.cK q2
 obtain ⟨a7,rfl,e7⟩:=bE M.aV.cK q7
 exact ⟨⟨⟨a1,a2,a3⟩,a4,⟨⟨a5,a6,a7⟩,a8,a9⟩⟩,rfl,⟨⟨w1,⟨by simpa using w2,e2⟩,wf_i64 w3⟩,wf_i64 w4,⟨⟨wf_i64 w5,wf_i64 w6,⟨by simpa using w7,e7⟩⟩,wf_i64 w8,wf_i64 w9⟩⟩⟩
def M.aC.sz (x:M.aC):Nat:=M.aE.sz x.Base+(M.Sync.sz x.Sync)
theorem M.aC.lD (x:M.aC) (hx:M.aC.ok x):Sz (uF x) (M.aC.sz x):=by
 intro l a b
 unfold uF M.aC.sz
 exact (Sz.sG (M.aE.lD _ hx.Base) (Sz.call (M.Sync.lD _ hx.Sync))) l a b
theorem M.aC.kH (x:M.aC) (hx:M.aC.ok x) (hs:M.aC.sz x≤1048576):tV x=some x:=by
 unfold M.aC.sz at hs
 unfold tV
 rw [M.aE.kH _ hx.Base (by omega),Option.bind_some,M.Sync.kH _ hx.Sync (by omega),Option.bind_some]
theorem M.aC.kG (x:M.aC) (hx:M.aC.ok x):tR x x=some true:=by
 simp [tR,M.aE.kG _ hx.Base,M.Sync.kG _ hx.Sync]
structure M.aA.ok (x:M.aA):Prop where
 Site:x.Site.size≤maxLen
 Top:x.Top.size≤maxLen
 Registration:M.Registration.ok x.Registration
 Caches:M.aU.ok x.Caches
 bD:M.bD.ok x.bD
 aC:M.aC.ok x.aC
 LastUsed:inI x.LastUsed
def M.aA.sh:List Shp:=[.str,.str,.str,.int .i64,.int .i64,.int .i64,.sl M.Cache.sh,.str,.int .i64,.sl M.aE.sh,.sl M.aD.sh,.sl [.int .u8],.int .i64,.str,.sl M.Item.sh,.int .i64,.int .i64,.int .i64,.int .i64,.sl M.aV.sh,.int .i64,.int .i64,.int .i64,.bool]
theorem M.aA.cK (d:List D) (h:mS M.aA.sh d) : ∃x,d=M.aA.en x∧M.aA.ok x:=by
 simp only [M.aA.sh,mS,Has] at h
 obtain ⟨_,_,rfl,⟨a1,rfl,w1⟩,_,_,rfl,⟨a2,rfl,w2⟩,_,_,rfl,⟨a3,rfl,w3⟩,_,_,rfl,⟨a4,rfl,w4⟩,_,_,rfl,⟨a5,rfl,w5⟩,_,_,rfl,⟨a6,rfl,w6⟩,_,_,rfl,⟨_,rfl,w7,q7⟩,_,_,rfl,⟨a8,rfl,w8⟩,_,_,rfl,⟨a9,rfl,w9⟩,_,_,rfl,⟨_,rfl,w10,q10⟩,_,_,rfl,⟨_,rfl,w11,q11⟩,_,_,rfl,⟨_,rfl,w12,q12⟩,_,_,rfl,⟨a13,rfl,w13⟩,_,_,rfl,⟨a14,rfl,w14⟩,_,_,rfl,⟨_,rfl,w15,q15⟩,_,_,rfl,⟨a16,rfl,w16⟩,_,_,rfl,⟨a17,rfl,w17⟩,_,_,rfl,⟨a18,rfl,w18⟩,_,_,rfl,⟨a19,rfl,w19⟩,_,_,rfl,⟨_,rfl,w20,q20⟩,_,_,rfl,⟨a21,rfl,w21⟩,_,_,rfl,⟨a22,rfl,w22⟩,_,_,rfl,⟨a23,rfl,w23⟩,_,_,rfl,⟨a24,rfl⟩,rfl⟩:=h
 obtain ⟨a7,rfl,e7⟩:=bE M.Cache.cK q7
 obtain ⟨a10,rfl,e10⟩:=bE M.aE.cK q10
 obtain ⟨a11,rfl,e11⟩:=bE M.aD.cK q11
 obtain ⟨a12,rfl,e12⟩:=bE aNo q12
 obtain ⟨a15,rfl,e15⟩:=bE M.Item.cK q15
 obtain ⟨a20,rfl,e20⟩:=bE M.aV.cK q20
 exact ⟨⟨a1,a2,⟨a3,a4,a5,a6⟩,⟨a7⟩,⟨⟨a8,a9,a10,a11⟩,a12,a13⟩,⟨⟨a14,a15,a16⟩,a17,⟨⟨a18,a19,a20⟩,a21,a22⟩⟩,a23,a24⟩,rfl,⟨w1,w2,⟨w3,wf_i64 w4,wf_i64 w5,wf_i64 w6⟩,⟨⟨by simpa using w7,e7⟩⟩,⟨⟨w8,wf_i64 w9,⟨by simpa using w10,e10⟩,⟨by simpa using w11,e11⟩⟩,⟨by simpa using w12,e12⟩,wf_i64 w13⟩,⟨⟨w14,⟨by simpa using w15,e15⟩,wf_i64 w16⟩,wf_i64 w17,⟨⟨wf_i64 w18,wf_i64 w19,⟨by simpa using w20,e20⟩⟩,wf_i64 w21,wf_i64 w22⟩⟩,wf_i64 w23⟩⟩
def M.aA.sz (x:M.aA):Nat:=x.Site.size+(x.Top.size+(M.Registration.sz x.Registration+(M.aU.sz x.Caches+(M.bD.sz x.bD+(M.aC.sz x.aC)))))
theorem M.aA.lD (x:M.aA) (hx:M.aA.ok x):Sz (xC x) (M.aA.sz x):=by
 intro l a b
 unfold xC M.aA.sz
 exact (Sz.aB5 hx.Site (Sz.aB5 hx.Top (Sz.sG (M.Registration.lD _ hx.Registration) (Sz.sG (M.aU.lD _ hx.Caches) (Sz.sG (M.bD.lD _ hx.bD) (Sz.call (M.aC.lD _ hx.aC))))))) l a b
theorem M.aA.kH (x:M.aA) (hx:M.aA.ok x) (hs:M.aA.sz x≤1048576):wU x=some x:=by
 unfold M.aA.sz at hs
 unfold wU
 rw [M.Registration.kH _ hx.Registration (by omega),Option.bind_some,M.aU.kH _ hx.Caches (by omega),Option.bind_some,M.bD.kH _ hx.bD (by omega),Option.bind_some,M.aC.kH _ hx.aC (by omega),Option.bind_some]
theorem M.aA.kG (x:M.aA) (hx:M.aA.ok x):wC x x=some true:=by
 simp [wC,M.Registration.kG _ hx.Registration,M.aU.kG _ hx.Caches,M.bD.kG _ hx.bD,M.aC.kG _ hx.aC]
theorem M.aCj.lD (xs:List M.aA) (hx:(xs.length≤maxLen ∧ ∀y∈xs,M.aA.ok y)):Sz (tE xs) ((xs.length+aG M.aA.sz xs)):=by
 intro l a b
 unfold tE
 exact (Sz.aEr hx.1 (fun x h=>M.aA.lD x (hx.2 x h)) (fun _ _ _=>rfl)) l a b
theorem M.aCj.kH (xs:List M.aA) (hx:(xs.length≤maxLen ∧ ∀y∈xs,M.aA.ok y)) (hs:(xs.length+aG M.aA.sz xs)≤1048576):uJ xs=some xs:=by
 have hm:=le_max hx.1
 unfold uJ
 rw [aAt (by omega) (by omega),Option.bind_some]
 refine aAI hx.1 (fun n k r hk hr => ?_) (fun n r => ?_) fuel 0 _ (by unfold fuel;omega) (by omega) (by simp) (by simp)
 ·simp only [jR]
  rw [if_pos (bF hk),aQ hk,Option.bind_some,M.aA.kH _ (hx.2 _ (List.getElem_mem hk)) (by have:=cH (f:=M.aA.sz) (List.getElem_mem hk);omega),Option.bind_some,aQ (by omega),Option.bind_some,bH (by omega),Int.toNat_natCast]
 ·simp only [jR]
  rw [if_neg (by rw [aT];simp)]
theorem M.aCj.kG (xs:List M.aA) (hx:(xs.length≤maxLen ∧ ∀y∈xs,M.aA.ok y)):uC xs xs=some true:=by
 have hm:=le_max hx.1
 unfold uC
 rw [if_neg (by simp)]
 refine aAC hx.1 (fun n k hk => ?_) (fun n => ?_) fuel 0 (by unfold fuel;omega) (by omega)
 ·simp only [jE]
  rw [if_pos (bF hk),aQ hk]
  simp [bH (show k<9223372036854775807 by omega),M.aA.kG _ (hx.2 _ (List.getElem_mem hk))]
 ·simp only [jE]
  rw [if_neg (by rw [aT];simp)]
structure M.aF.ok (x:M.aF):Prop where
 Buckets:(x.Buckets.length≤maxLen ∧ ∀y∈x.Buckets,M.aA.ok y)
def M.aF.sh:List Shp:=[.sl M.aA.sh]
theorem M.aF.cK (d:List D) (h:mS M.aF.sh d) : ∃x,d=M.aF.en x∧M.aF.ok x:=by
 simp only [M.aF.sh,mS,Has] at h
 obtain ⟨_,_,rfl,⟨_,rfl,w1,q1⟩,rfl⟩:=h
 obtain ⟨a1,rfl,e1⟩:=bE M.aA.cK q1
 exact ⟨⟨a1⟩,rfl,⟨⟨by simpa using w1,e1⟩⟩⟩
def M.aF.sz (x:M.aF):Nat:=(x.Buckets.length+aG M.aA.sz x.Buckets)
theorem M.aF.lD (x:M.aF) (hx:M.aF.ok x):Sz (sU x) (M.aF.sz x):=by
 intro l a b
 unfold sU M.aF.sz
 exact (Sz.call (M.aCj.lD _ hx.Buckets)) l a b
theorem M.aF.kH (x:M.aF) (hx:M.aF.ok x) (hs:M.aF.sz x≤1048576):tL x=some x:=by
 unfold M.aF.sz at hs
 unfold tL
 rw [M.aCj.kH _ hx.Buckets (by omega),Option.bind_some]
theorem M.aF.kG (x:M.aF) (hx:M.aF.ok x):uB x x=some true:=by
 simp [uB,M.aCj.kG _ hx.Buckets]
structure M.aM.ok (x:M.aM):Prop where
 Path:x.Path.size≤maxLen
 Version:inI x.Version
def M.aM.sh:List Shp:=[.str,.int .i64]
theorem M.aM.cK (d:List D) (h:mS M.aM.sh d) : ∃x,d=M.aM.en x∧M.aM.ok x:=by
 simp only [M.aM.sh,mS,Has] at h
 obtain ⟨_,_,rfl,⟨a1,rfl,w1⟩,_,_,rfl,⟨a2,rfl,w2⟩,rfl⟩:=h
 exact ⟨⟨a1,a2⟩,rfl,⟨w1,wf_i64 w2⟩⟩
def M.aM.sz (x:M.aM):Nat:=x.Path.size
theorem M.aM.lD (x:M.aM) (hx:M.aM.ok x):Sz (vY x) (M.aM.sz x):=by
 intro l a b
 unfold vY M.aM.sz
 exact (Sz.str hx.Path) l a b
theorem M.aM.kH (x:M.aM) (hx:M.aM.ok x) (hs:M.aM.sz x≤1048576):vM x=some x:=by
 unfold M.aM.sz at hs
 unfold vM
 rfl
theorem M.aM.kG (x:M.aM) (hx:M.aM.ok x):vN x x=some true:=by
 simp [vN]
theorem M.aBp.lD (xs:List M.aM) (hx:(xs.length≤maxLen ∧ ∀y∈xs,M.aM.ok y)):Sz (tF xs) ((xs.length+aG M.aM.sz xs)):=by
 intro l a b
 unfold tF
 exact (Sz.aEr hx.1 (fun x h=>M.aM.lD x (hx.2 x h)) (fun _ _ _=>rfl)) l a b
theorem M.aBp.kH (xs:List M.aM) (hx:(xs.length≤maxLen ∧ ∀y∈xs,M.aM.ok y)) (hs:(xs.length+aG M.aM.sz xs)≤1048576):tG xs=some xs:=by
 have hm:=le_max hx.1
 unfold tG
 rw [aAt (by omega) (by omega),Option.bind_some]
 refine aAI hx.1 (fun n k r hk hr => ?_) (fun n r => ?_) fuel 0 _ (by unfold fuel;omega) (by omega) (by simp) (by simp)
 ·simp only [jQ]
  rw [if_pos (bF hk),aQ hk,Option.bind_some,M.aM.kH _ (hx.2 _ (List.getElem_mem hk)) (by have:=cH (f:=M.aM.sz) (List.getElem_mem hk);omega),Option.bind_some,aQ (by omega),Option.bind_some,bH (by omega),Int.toNat_natCast]
 ·simp only [jQ]
  rw [if_neg (by rw [aT];simp)]
theorem M.aBp.kG (xs:List M.aM) (hx:(xs.length≤maxLen ∧ ∀y∈xs,M.aM.ok y)):uE xs xs=some true:=by
 have hm:=le_max hx.1
 unfold uE
 rw [if_neg (by simp)]
 refine aAC hx.1 (fun n k hk => ?_) (fun n => ?_) fuel 0 (by unfold fuel;omega) (by omega)
 ·simp only [jP]
  rw [if_pos (bF hk),aQ hk]
  simp [bH (show k<9223372036854775807 by omega),M.aM.kG _ (hx.2 _ (List.getElem_mem hk))]
 ·simp only [jP]
  rw [if_neg (by rw [aT];simp)]
structure M.Instr.ok (x:M.Instr):Prop where
 Kind:inI x.Kind
 R:inI x.R
 N:inI x.N
 Text:x.Text.size≤maxLen
def M.Instr.sh:List Shp:=[.int .i64,.int .i64,.int .i64,.str]
theorem M.Instr.cK (d:List D) (h:mS M.Instr.sh d) : ∃x,d=M.Instr.en x∧M.Instr.ok x:=by
 simp only [M.Instr.sh,mS,Has] at h
 obtain ⟨_,_,rfl,⟨a1,rfl,w1⟩,_,_,rfl,⟨a2,rfl,w2⟩,_,_,rfl,⟨a3,rfl,w3⟩,_,_,rfl,⟨a4,rfl,w4⟩,rfl⟩:=h
 exact ⟨⟨a1,a2,a3,a4⟩,rfl,⟨wf_i64 w1,wf_i64 w2,wf_i64 w3,w4⟩⟩
def M.Instr.sz (x:M.Instr):Nat:=x.Text.size
theorem M.Instr.lD (x:M.Instr) (hx:M.Instr.ok x):Sz (yD x) (M.Instr.sz x):=by
 intro l a b
 unfold yD M.Instr.sz
 exact (Sz.str hx.Text) l a b
theorem M.Instr.kH (x:M.Instr) (hx:M.Instr.ok x) (hs:M.Instr.sz x≤1048576):zK x=some x:=by
 unfold M.Instr.sz at hs
 unfold zK
 rfl
theorem M.Instr.kG (x:M.Instr) (hx:M.Instr.ok x):yC x x=some true:=by
 simp [yC]
theorem M.aDJ.lD (xs:List M.Instr) (hx:(xs.length≤maxLen ∧ ∀y∈xs,M.Instr.ok y)):Sz (wT xs) ((xs.length+aG M.Instr.sz xs)):=by
 intro l a b
 unfold wT
 exact (Sz.aEr hx.1 (fun x h=>M.Instr.lD x (hx.2 x h)) (fun _ _ _=>rfl)) l a b
theorem M.aDJ.kH (xs:List M.Instr) (hx:(xs.length≤maxLen ∧ ∀y∈xs,M.Instr.ok y)) (hs:(xs.length+aG M.Instr.sz xs)≤1048576):xE xs=some xs:=by
 have hm:=le_max hx.1
 unfold xE
 rw [aAt (by omega) (by omega),Option.bind_some]
 refine aAI hx.1 (fun n k r hk hr => ?_) (fun n r => ?_) fuel 0 _ (by unfold fuel;omega) (by omega) (by simp) (by simp)
 ·simp only [kI]
  rw [if_pos (bF hk),aQ hk,Option.bind_some,M.Instr.kH _ (hx.2 _ (List.getElem_mem hk)) (by have:=cH (f:=M.Instr.sz) (List.getElem_mem hk);omega),Option.bind_some,aQ (by omega),Option.bind_some,bH (by omega),Int.toNat_natCast]
 ·simp only [kI]
  rw [if_neg (by rw [aT];simp)]
theorem M.aDJ.kG (xs:List M.Instr) (hx:(xs.length≤maxLen ∧ ∀y∈xs,M.Instr.ok y)):wQ xs xs=some true:=by
 have hm:=le_max hx.1
 unfold wQ
 rw [if_neg (by simp)]
 refine aAC hx.1 (fun n k hk => ?_) (fun n => ?_) fuel 0 (by unfold fuel;omega) (by omega)
 ·simp only [kM]
  rw [if_pos (bF hk),aQ hk]
  simp [bH (show k<9223372036854775807 by omega),M.Instr.kG _ (hx.2 _ (List.getElem_mem hk))]
 ·simp only [kM]
  rw [if_neg (by rw [aT];simp)]
theorem M.aJz.lD (xs:List Int) (hx:okI xs):Sz (aAv xs) (xs.length):=by
 intro l a b
 unfold aAv
 exact (Sz.str hx.1) l a b
theorem M.aJz.kH (xs:List Int) (hx:okI xs) (hs:xs.length≤1048576):aAd xs=some xs:=by
 have hm:=le_max hx.1
 unfold aAd
 rw [aAt (by omega) (by omega),Option.bind_some]
 refine aAI hx.1 (fun n k r hk hr => ?_) (fun n r => ?_) fuel 0 _ (by unfold fuel;omega) (by omega) (by simp) (by simp)
 ·simp only [oC]
  rw [if_pos (bF hk),aQ hk,Option.bind_some,aQ (by omega),Option.bind_some,bH (by omega),Int.toNat_natCast]
 ·simp only [oC]
  rw [if_neg (by rw [aT];simp)]
theorem M.aJz.kG (xs:List Int) (hx:okI xs):aAs xs xs=some true:=by
 have hm:=le_max hx.1
 unfold aAs
 rw [if_neg (by simp)]
 refine aAC hx.1 (fun n k hk => ?_) (fun n => ?_) fuel 0 (by unfold fuel;omega) (by omega)
 ·simp only [nX]
  rw [if_pos (bF hk),aQ hk]
  simp [bH (show k<9223372036854775807 by omega)]
 ·simp only [nX]
  rw [if_neg (by rw [aT];simp)]
structure M.Machine.ok (x:M.Machine):Prop where
 Script:(x.Script.length≤maxLen ∧ ∀y∈x.Script,M.Instr.ok y)
 Pc:inI x.Pc
 Regs:okI x.Regs
 Steps:inI x.Steps
def M.Machine.sh:List Shp:=[.sl M.Instr.sh,.int .i64,.sl [.int .i64],.int .i64,.bool,.bool]
theorem M.Machine.cK (d:List D) (h:mS M.Machine.sh d) : ∃x,d=M.Machine.en x∧M.Machine.ok x:=by
 simp only [M.Machine.sh,mS,Has] at h
 obtain ⟨_,_,rfl,⟨_,rfl,w1,q1⟩,_,_,rfl,⟨a2,rfl,w2⟩,_,_,rfl,⟨_,rfl,w3,q3⟩,_,_,rfl,⟨a4,rfl,w4⟩,_,_,rfl,⟨a5,rfl⟩,_,_,rfl,⟨a6,rfl⟩,rfl⟩:=h
 obtain ⟨a1,rfl,e1⟩:=bE M.Instr.cK q1
 obtain ⟨a3,rfl,e3⟩:=bE aNP q3
 exact ⟨⟨a1,a2,a3,a4,a5,a6⟩,rfl,⟨⟨by simpa using w1,e1⟩,wf_i64 w2,⟨by simpa using w3,e3⟩,wf_i64 w4⟩⟩
def M.Machine.sz (x:M.Machine):Nat:=(x.Script.length+aG M.Instr.sz x.Script)+(x.Regs.length)
theorem M.Machine.lD (x:M.Machine) (hx:M.Machine.ok x):Sz (uH x) (M.Machine.sz x):=by
 intro l a b
 unfold uH M.Machine.sz
 exact (Sz.sG (M.aDJ.lD _ hx.Script) (Sz.call (M.aJz.lD _ hx.Regs))) l a b
theorem M.Machine.kH (x:M.Machine) (hx:M.Machine.ok x) (hs:M.Machine.sz x≤1048576):tC x=some x:=by
 unfold M.Machine.sz at hs
 unfold tC
 rw [M.aDJ.kH _ hx.Script (by omega),Option.bind_some,M.aJz.kH _ hx.Regs (by omega),Option.bind_some]
theorem M.Machine.kG (x:M.Machine) (hx:M.Machine.ok x):sN x x=some true:=by
 simp [sN,M.aDJ.kG _ hx.Script,M.aJz.kG _ hx.Regs]
structure M.bJ.ok (x:M.bJ):Prop where
 Id:inI x.Id
 Site:x.Site.size≤maxLen
 Top:x.Top.size≤maxLen
 Version:inI x.Version
 aM:(x.aM.length≤maxLen ∧ ∀y∈x.aM,M.aM.ok y)
 Machine:M.Machine.ok x.Machine
def M.bJ.sh:List Shp:=[.int .i64,.str,.str,.int .i64,.sl M.aM.sh,.sl M.Instr.sh,.int .i64,.sl [.int .i64],.int .i64,.bool,.bool]
theorem M.bJ.cK (d:List D) (h:mS M.bJ.sh d) : ∃x,d=M.bJ.en x∧M.bJ.ok x:=by
 simp only [M.bJ.sh,mS,Has] at h
 obtain ⟨_,_,rfl,⟨a1,rfl,w1⟩,_,_,rfl,⟨a2,rfl,w2⟩,_,_,rfl,⟨a3,rfl,w3⟩,_,_,rfl,⟨a4,rfl,w4⟩,_,_,rfl,⟨_,rfl,w5,q5⟩,_,_,rfl,⟨_,rfl,w6,q6⟩,_,_,rfl,⟨a7,rfl,w7⟩,_,_,rfl,⟨_,rfl,w8,q8⟩,_,_,rfl,⟨a9,rfl,w9⟩,_,_,rfl,⟨a10,rfl⟩,_,_,rfl,⟨a11,rfl⟩,rfl⟩:=h
 obtain ⟨a5,rfl,e5⟩:=bE M.aM.cK q5
 obtain ⟨a6,rfl,e6⟩:=bE M.Instr.cK q6
 obtain ⟨a8,rfl,e8⟩:=bE aNP q8
 exact ⟨⟨a1,a2,a3,a4,a5,⟨a6,a7,a8,a9,a10,a11⟩⟩,rfl,⟨wf_i64 w1,w2,w3,wf_i64 w4,⟨by simpa using w5,e5⟩,⟨⟨by simpa using w6,e6⟩,wf_i64 w7,⟨by simpa using w8,e8⟩,wf_i64 w9⟩⟩⟩
def M.bJ.sz (x:M.bJ):Nat:=x.Site.size+(x.Top.size+((x.aM.length+aG M.aM.sz x.aM)+(M.Machine.sz x.Machine)))
theorem M.bJ.lD (x:M.bJ) (hx:M.bJ.ok x):Sz (xS x) (M.bJ.sz x):=by
 intro l a b
 unfold xS M.bJ.sz
 exact (Sz.aB5 hx.Site (Sz.aB5 hx.Top (Sz.sG (M.aBp.lD _ hx.aM) (Sz.call (M.Machine.lD _ hx.Machine))))) l a b
theorem M.bJ.kH (x:M.bJ) (hx:M.bJ.ok x) (hs:M.bJ.sz x≤1048576):lK x=some x:=by
 unfold M.bJ.sz at hs
 unfold lK
 rw [M.aBp.kH _ hx.aM (by omega),Option.bind_some,M.Machine.kH _ hx.Machine (by omega),Option.bind_some]
theorem M.bJ.kG (x:M.bJ) (hx:M.bJ.ok x):xM x x=some true:=by
 simp [xM,M.aBp.kG _ hx.aM,M.Machine.kG _ hx.Machine]
theorem M.aIF.lD (xs:List M.bJ) (hx:(xs.length≤maxLen ∧ ∀y∈xs,M.bJ.ok y)):Sz (yR xs) ((xs.length+aG M.bJ.sz xs)):=by
 intro l a b
 unfold yR
 exact (Sz.aEr hx.1 (fun x h=>M.bJ.lD x (hx.2 x h)) (fun _ _ _=>rfl)) l a b
theorem M.aIF.kH (xs:List M.bJ) (hx:(xs.length≤maxLen ∧ ∀y∈xs,M.bJ.ok y)) (hs:(xs.length+aG M.bJ.sz xs)≤1048576):yS xs=some xs:=by
 have hm:=le_max hx.1
 unfold yS
 rw [aAt (by omega) (by omega),Option.bind_some]
 refine aAI hx.1 (fun n k r hk hr => ?_) (fun n r => ?_) fuel 0 _ (by unfold fuel;omega) (by omega) (by simp) (by simp)
 ·simp only [mG]
  rw [if_pos (bF hk),aQ hk,Option.bind_some,M.bJ.kH _ (hx.2 _ (List.getElem_mem hk)) (by have:=cH (f:=M.bJ.sz) (List.getElem_mem hk);omega),Option.bind_some,aQ (by omega),Option.bind_some,bH (by omega),Int.toNat_natCast]
 ·simp only [mG]
  rw [if_neg (by rw [aT];simp)]
theorem M.aIF.kG (xs:List M.bJ) (hx:(xs.length≤maxLen ∧ ∀y∈xs,M.bJ.ok y)):yW xs xs=some true:=by
 have hm:=le_max hx.1
 unfold yW
 rw [if_neg (by simp)]
 refine aAC hx.1 (fun n k hk => ?_) (fun n => ?_) fuel 0 (by unfold fuel;omega) (by omega)
 ·simp only [mI]
  rw [if_pos (bF hk),aQ hk]
  simp [bH (show k<9223372036854775807 by omega),M.bJ.kG _ (hx.2 _ (List.getElem_mem hk))]
 ·simp only [mI]
  rw [if_neg (by rw [aT];simp)]
structure M.cT.ok (x:M.cT):Prop where
 Name:x.Name.size≤maxLen
 bJ:inI x.bJ
def M.cT.sh:List Shp:=[.str,.int .i64,.bool,.bool]
theorem M.cT.cK (d:List D) (h:mS M.cT.sh d) : ∃x,d=M.cT.en x∧M.cT.ok x:=by
 simp only [M.cT.sh,mS,Has] at h
 obtain ⟨_,_,rfl,⟨a1,rfl,w1⟩,_,_,rfl,⟨a2,rfl,w2⟩,_,_,rfl,⟨a3,rfl⟩,_,_,rfl,⟨a4,rfl⟩,rfl⟩:=h
 exact ⟨⟨a1,a2,a3,a4⟩,rfl,⟨w1,wf_i64 w2⟩⟩
def M.cT.sz (x:M.cT):Nat:=x.Name.size
theorem M.cT.lD (x:M.cT) (hx:M.cT.ok x):Sz (aA7 x) (M.cT.sz x):=by
 intro l a b
 unfold aA7 M.cT.sz
 exact (Sz.str hx.Name) l a b
theorem M.cT.kH (x:M.cT) (hx:M.cT.ok x) (hs:M.cT.sz x≤1048576):aAg x=some x:=by
 unfold M.cT.sz at hs
 unfold aAg
 rfl
theorem M.cT.kG (x:M.cT) (hx:M.cT.ok x):aAy x x=some true:=by
 simp [aAy]
theorem M.aIK.lD (xs:List M.cT) (hx:(xs.length≤maxLen ∧ ∀y∈xs,M.cT.ok y)):Sz (yM xs) ((xs.length+aG M.cT.sz xs)):=by
 intro l a b
 unfold yM
 exact (Sz.aEr hx.1 (fun x h=>M.cT.lD x (hx.2 x h)) (fun _ _ _=>rfl)) l a b
theorem M.aIK.kH (xs:List M.cT) (hx:(xs.length≤maxLen ∧ ∀y∈xs,M.cT.ok y)) (hs:(xs.length+aG M.cT.sz xs)≤1048576):yL xs=some xs:=by
 have hm:=le_max hx.1
 unfold yL
 rw [aAt (by omega) (by omega),Option.bind_some]
 refine aAI hx.1 (fun n k r hk hr => ?_) (fun n r => ?_) fuel 0 _ (by unfold fuel;omega) (by omega) (by simp) (by simp)
 ·simp only [lW]
  rw [if_pos (bF hk),aQ hk,Option.bind_some,M.cT.kH _ (hx.2 _ (List.getElem_mem hk)) (by have:=cH (f:=M.cT.sz) (List.getElem_mem hk);omega),Option.bind_some,aQ (by omega),Option.bind_some,bH (by omega),Int.toNat_natCast]
 ·simp only [lW]
  rw [if_neg (by rw [aT];simp)]
theorem M.aIK.kG (xs:List M.cT) (hx:(xs.length≤maxLen ∧ ∀y∈xs,M.cT.ok y)):yI xs xs=some true:=by
 have hm:=le_max hx.1
 unfold yI
 rw [if_neg (by simp)]
 refine aAC hx.1 (fun n k hk => ?_) (fun n => ?_) fuel 0 (by unfold fuel;omega) (by omega)
 ·simp only [mK]
  rw [if_pos (bF hk),aQ hk]
  simp [bH (show k<9223372036854775807 by omega),M.cT.kG _ (hx.2 _ (List.getElem_mem hk))]
 ·simp only [mK]
  rw [if_neg (by rw [aT];simp)]
structure M.aW.ok (x:M.aW):Prop where
 Locks:(x.Locks.length≤maxLen ∧ ∀y∈x.Locks,M.cT.ok y)
def M.aW.sh:List Shp:=[.sl M.cT.sh]
theorem M.aW.cK (d:List D) (h:mS M.aW.sh d) : ∃x,d=M.aW.en x∧M.aW.ok x:=by
 simp only [M.aW.sh,mS,Has] at h
 obtain ⟨_,_,rfl,⟨_,rfl,w1,q1⟩,rfl⟩:=h
 obtain ⟨a1,rfl,e1⟩:=bE M.cT.cK q1
 exact ⟨⟨a1⟩,rfl,⟨⟨by simpa using w1,e1⟩⟩⟩
def M.aW.sz (x:M.aW):Nat:=(x.Locks.length+aG M.cT.sz x.Locks)
theorem M.aW.lD (x:M.aW) (hx:M.aW.ok x):Sz (oR x) (M.aW.sz x):=by
 intro l a b
 unfold oR M.aW.sz
 exact (Sz.call (M.aIK.lD _ hx.Locks)) l a b
theorem M.aW.kH (x:M.aW) (hx:M.aW.ok x) (hs:M.aW.sz x≤1048576):oS x=some x:=by
 unfold M.aW.sz at hs
 unfold oS
 rw [M.aIK.kH _ hx.Locks (by omega),Option.bind_some]
theorem M.aW.kG (x:M.aW) (hx:M.aW.ok x):oY x x=some true:=by
 simp [oY,M.aIK.kG _ hx.Locks]
structure M.eO.ok (x:M.eO):Prop where
 To:inI x.To
 From:inI x.From
 N:inI x.N
def M.eO.sh:List Shp:=[.int .i64,.int .i64,.int .i64]
theorem M.eO.cK (d:List D) (h:mS M.eO.sh d) : ∃x,d=M.eO.en x∧M.eO.ok x:=by
 simp only [M.eO.sh,mS,Has] at h
 obtain ⟨_,_,rfl,⟨a1,rfl,w1⟩,_,_,rfl,⟨a2,rfl,w2⟩,_,_,rfl,⟨a3,rfl,w3⟩,rfl⟩:=h
 exact ⟨⟨a1,a2,a3⟩,rfl,⟨wf_i64 w1,wf_i64 w2,wf_i64 w3⟩⟩
theorem M.eO.kH (x:M.eO) (hx:M.eO.ok x):aAn x=some x:=by
 unfold aAn
 rfl
theorem M.eO.kG (x:M.eO) (hx:M.eO.ok x):aA2 x x=some true:=by
 simp [aA2]
theorem M.aIj.lD (xs:List M.eO) (hx:(xs.length≤maxLen ∧ ∀y∈xs,M.eO.ok y)):Sz (yY xs) (xs.length):=by
 intro l a b
 unfold yY
 exact (Sz.str hx.1) l a b
theorem M.aIj.kH (xs:List M.eO) (hx:(xs.length≤maxLen ∧ ∀y∈xs,M.eO.ok y)) (hs:xs.length≤1048576):yF xs=some xs:=by
 have hm:=le_max hx.1
 unfold yF
 rw [aAt (by omega) (by omega),Option.bind_some]
 refine aAI hx.1 (fun n k r hk hr => ?_) (fun n r => ?_) fuel 0 _ (by unfold fuel;omega) (by omega) (by simp) (by simp)
 ·simp only [lZ]
  rw [if_pos (bF hk),aQ hk,Option.bind_some,M.eO.kH _ (hx.2 _ (List.getElem_mem hk)),Option.bind_some,aQ (by omega),Option.bind_some,bH (by omega),Int.toNat_natCast]
 ·simp only [lZ]
  rw [if_neg (by rw [aT];simp)]
theorem M.aIj.kG (xs:List M.eO) (hx:(xs.length≤maxLen ∧ ∀y∈xs,M.eO.ok y)):zF xs xs=some true:=by
 have hm:=le_max hx.1
 unfold zF
 rw [if_neg (by simp)]
 refine aAC hx.1 (fun n k hk => ?_) (fun n => ?_) fuel 0 (by unfold fuel;omega) (by omega)
 ·simp only [mP]
  rw [if_pos (bF hk),aQ hk]
  simp [bH (show k<9223372036854775807 by omega),M.eO.kG _ (hx.2 _ (List.getElem_mem hk))]
 ·simp only [mP]
  rw [if_neg (by rw [aT];simp)]
structure M.Channel.ok (x:M.Channel):Prop where
 Mails:(x.Mails.length≤maxLen ∧ ∀y∈x.Mails,M.eO.ok y)
def M.Channel.sh:List Shp:=[.sl M.eO.sh]
theorem M.Channel.cK (d:List D) (h:mS M.Channel.sh d) : ∃x,d=M.Channel.en x∧M.Channel.ok x:=by
 simp only [M.Channel.sh,mS,Has] at h
 obtain ⟨_,_,rfl,⟨_,rfl,w1,q1⟩,rfl⟩:=h
 obtain ⟨a1,rfl,e1⟩:=bE M.eO.cK q1
 exact ⟨⟨a1⟩,rfl,⟨⟨by simpa using w1,e1⟩⟩⟩
def M.Channel.sz (x:M.Channel):Nat:=x.Mails.length
theorem M.Channel.lD (x:M.Channel) (hx:M.Channel.ok x):Sz (uD x) (M.Channel.sz x):=by
 intro l a b
 unfold uD M.Channel.sz
 exact (Sz.call (M.aIj.lD _ hx.Mails)) l a b
theorem M.Channel.kH (x:M.Channel) (hx:M.Channel.ok x) (hs:M.Channel.sz x≤1048576):sW x=some x:=by
 unfold M.Channel.sz at hs
 unfold sW
 rw [M.aIj.kH _ hx.Mails (by omega),Option.bind_some]
theorem M.Channel.kG (x:M.Channel) (hx:M.Channel.ok x):tN x x=some true:=by
 simp [tN,M.aIj.kG _ hx.Mails]
theorem M.aAR.lD (xs:List ByteArray) (hx:okS xs):Sz (sL xs) ((xs.length+aG ByteArray.size xs)):=by
 intro l a b
 unfold sL
 exact (Sz.strs hx (fun _ _ _=>rfl)) l a b
theorem M.aAR.kH (xs:List ByteArray) (hx:okS xs) (hs:(xs.length+aG ByteArray.size xs)≤1048576):uG xs=some xs:=by
 have hm:=le_max hx.1
 unfold uG
 rw [aAt (by omega) (by omega),Option.bind_some]
 refine aAI hx.1 (fun n k r hk hr => ?_) (fun n r => ?_) fuel 0 _ (by unfold fuel;omega) (by omega) (by simp) (by simp)
 ·simp only [jI]
  rw [if_pos (bF hk),aQ hk,Option.bind_some,aQ (by omega),Option.bind_some,bH (by omega),Int.toNat_natCast]
 ·simp only [jI]
  rw [if_neg (by rw [aT];simp)]
theorem M.aAR.kG (xs:List ByteArray) (hx:okS xs):tZ xs xs=some true:=by
 have hm:=le_max hx.1
 unfold tZ
 rw [if_neg (by simp)]
 refine aAC hx.1 (fun n k hk => ?_) (fun n => ?_) fuel 0 (by unfold fuel;omega) (by omega)
 ·simp only [jK]
  rw [if_pos (bF hk),aQ hk]
  simp [bH (show k<9223372036854775807 by omega)]
 ·simp only [jK]
  rw [if_neg (by rw [aT];simp)]
structure M.Site.ok (x:M.Site):Prop where
 Name:x.Name.size≤maxLen
 Version:inI x.Version
 Files:okS x.Files
def M.Site.sh:List Shp:=[.str,.int .i64,.sl [.str],.bool]
theorem M.Site.cK (d:List D) (h:mS M.Site.sh d) : ∃x,d=M.Site.en x∧M.Site.ok x:=by
 simp only [M.Site.sh,mS,Has] at h
 obtain ⟨_,_,rfl,⟨a1,rfl,w1⟩,_,_,rfl,⟨a2,rfl,w2⟩,_,_,rfl,⟨_,rfl,w3,q3⟩,_,_,rfl,⟨a4,rfl⟩,rfl⟩:=h
 obtain ⟨a3,rfl,e3⟩:=bE aP8 q3
 exact ⟨⟨a1,a2,a3,a4⟩,rfl,⟨w1,wf_i64 w2,⟨by simpa using w3,e3⟩⟩⟩
def M.Site.sz (x:M.Site):Nat:=x.Name.size+((x.Files.length+aG ByteArray.size x.Files))
theorem M.Site.lD (x:M.Site) (hx:M.Site.ok x):Sz (aAW x) (M.Site.sz x):=by
 intro l a b
 unfold aAW M.Site.sz
 exact (Sz.aB5 hx.Name (Sz.call (M.aAR.lD _ hx.Files))) l a b
theorem M.Site.kH (x:M.Site) (hx:M.Site.ok x) (hs:M.Site.sz x≤1048576):aAk x=some x:=by
 unfold M.Site.sz at hs
 unfold aAk
 rw [M.aAR.kH _ hx.Files (by omega),Option.bind_some]
theorem M.Site.kG (x:M.Site) (hx:M.Site.ok x):aAS x x=some true:=by
 simp [aAS,M.aAR.kG _ hx.Files]
theorem M.aIC.lD (xs:List M.Site) (hx:(xs.length≤maxLen ∧ ∀y∈xs,M.Site.ok y)):Sz (zS xs) ((xs.length+aG M.Site.sz xs)):=by
 intro l a b
 unfold zS
 exact (Sz.aEr hx.1 (fun x h=>M.Site.lD x (hx.2 x h)) (fun _ _ _=>rfl)) l a b
theorem M.aIC.kH (xs:List M.Site) (hx:(xs.length≤maxLen ∧ ∀y∈xs,M.Site.ok y)) (hs:(xs.length+aG M.Site.sz xs)≤1048576):yZ xs=some xs:=by
 have hm:=le_max hx.1
 unfold yZ
 rw [aAt (by omega) (by omega),Option.bind_some]
 refine aAI hx.1 (fun n k r hk hr => ?_) (fun n r => ?_) fuel 0 _ (by unfold fuel;omega) (by omega) (by simp) (by simp)
 ·simp only [mH]
  rw [if_pos (bF hk),aQ hk,Option.bind_some,M.Site.kH _ (hx.2 _ (List.getElem_mem hk)) (by have:=cH (f:=M.Site.sz) (List.getElem_mem hk);omega),Option.bind_some,aQ (by omega),Option.bind_some,bH (by omega),Int.toNat_natCast]
 ·simp only [mH]
  rw [if_neg (by rw [aT];simp)]
theorem M.aIC.kG (xs:List M.Site) (hx:(xs.length≤maxLen ∧ ∀y∈xs,M.Site.ok y)):zU xs xs=some true:=by
 have hm:=le_max hx.1
 unfold zU
 rw [if_neg (by simp)]
 refine aAC hx.1 (fun n k hk => ?_) (fun n => ?_) fuel 0 (by unfold fuel;omega) (by omega)
 ·simp only [mE]
  rw [if_pos (bF hk),aQ hk]
  simp [bH (show k<9223372036854775807 by omega),M.Site.kG _ (hx.2 _ (List.getElem_mem hk))]
 ·simp only [mE]
  rw [if_neg (by rw [aT];simp)]
structure M.aO.ok (x:M.aO):Prop where
 Device:inI x.Device
 Seq:inI x.Seq
def M.aO.sh:List Shp:=[.int .i64,.int .i64]
theorem M.aO.cK (d:List D) (h:mS M.aO.sh d) : ∃x,d=M.aO.en x∧M.aO.ok x:=by
 simp only [M.aO.sh,mS,Has] at h
 obtain ⟨_,_,rfl,⟨a1,rfl,w1⟩,_,_,rfl,⟨a2,rfl,w2⟩,rfl⟩:=h
 exact ⟨⟨a1,a2⟩,rfl,⟨wf_i64 w1,wf_i64 w2⟩⟩
theorem M.aO.kH (x:M.aO) (hx:M.aO.ok x):uA x=some x:=by
 unfold uA
 rfl
theorem M.aO.kG (x:M.aO) (hx:M.aO.ok x):sY x x=some true:=by
 simp [sY]
theorem M.aBi.lD (xs:List M.aO) (hx:(xs.length≤maxLen ∧ ∀y∈xs,M.aO.ok y)):Sz (qQ xs) (xs.length):=by
 intro l a b
 unfold qQ
 exact (Sz.str hx.1) l a b
theorem M.aBi.kH (xs:List M.aO) (hx:(xs.length≤maxLen ∧ ∀y∈xs,M.aO.ok y)) (hs:xs.length≤1048576):rA xs=some xs:=by
 have hm:=le_max hx.1
 unfold rA
 rw [aAt (by omega) (by omega),Option.bind_some]
 refine aAI hx.1 (fun n k r hk hr => ?_) (fun n r => ?_) fuel 0 _ (by unfold fuel;omega) (by omega) (by simp) (by simp)
 ·simp only [iU]
  rw [if_pos (bF hk),aQ hk,Option.bind_some,M.aO.kH _ (hx.2 _ (List.getElem_mem hk)),Option.bind_some,aQ (by omega),Option.bind_some,bH (by omega),Int.toNat_natCast]
 ·simp only [iU]
  rw [if_neg (by rw [aT];simp)]
theorem M.aBi.kG (xs:List M.aO) (hx:(xs.length≤maxLen ∧ ∀y∈xs,M.aO.ok y)):qG xs xs=some true:=by
 have hm:=le_max hx.1
 unfold qG
 rw [if_neg (by simp)]
 refine aAC hx.1 (fun n k hk => ?_) (fun n => ?_) fuel 0 (by unfold fuel;omega) (by omega)
 ·simp only [iT]
  rw [if_pos (bF hk),aQ hk]
  simp [bH (show k<9223372036854775807 by omega),M.aO.kG _ (hx.2 _ (List.getElem_mem hk))]
 ·simp only [iT]
  rw [if_neg (by rw [aT];simp)]
structure M.Server.ok (x:M.Server):Prop where
 aE:M.aE.ok x.aE
 aO:(x.aO.length≤maxLen ∧ ∀y∈x.aO,M.aO.ok y)
 Changes:(x.Changes.length≤maxLen ∧ ∀y∈x.Changes,M.aV.ok y)
def M.Server.sh:List Shp:=[.str,.sl M.Item.sh,.int .i64,.sl M.aO.sh,.sl M.aV.sh]
theorem M.Server.cK (d:List D) (h:mS M.Server.sh d) : ∃x,d=M.Server.en x∧M.Server.ok x:=by
 simp only [M.Server.sh,mS,Has] at h
 obtain ⟨_,_,rfl,⟨a1,rfl,w1⟩,_,_,rfl,⟨_,rfl,w2,q2⟩,_,_,rfl,⟨a3,rfl,w3⟩,_,_,rfl,⟨_,rfl,w4,q4⟩,_,_,rfl,⟨_,rfl,w5,q5⟩,rfl⟩:=h
 obtain ⟨a2,rfl,e2⟩:=bE M.Item.cK q2
 obtain ⟨a4,rfl,e4⟩:=bE M.aO.cK q4
 obtain ⟨a5,rfl,e5⟩:=bE M.aV.cK q5
 exact ⟨⟨⟨a1,a2,a3⟩,a4,a5⟩,rfl,⟨⟨w1,⟨by simpa using w2,e2⟩,wf_i64 w3⟩,⟨by simpa using w4,e4⟩,⟨by simpa using w5,e5⟩⟩⟩
def M.Server.sz (x:M.Server):Nat:=M.aE.sz x.aE+(x.aO.length+((x.Changes.length+aG M.aV.sz x.Changes)))
theorem M.Server.lD (x:M.Server) (hx:M.Server.ok x):Sz (vQ x) (M.Server.sz x):=by
 intro l a b
 unfold vQ M.Server.sz
 exact (Sz.sG (M.aE.lD _ hx.aE) (Sz.sG (M.aBi.lD _ hx.aO) (Sz.call (M.aB7.lD _ hx.Changes)))) l a b
theorem M.Server.kH (x:M.Server) (hx:M.Server.ok x) (hs:M.Server.sz x≤1048576):xB x=some x:=by
 unfold M.Server.sz at hs
 unfold xB
 rw [M.aE.kH _ hx.aE (by omega),Option.bind_some,M.aBi.kH _ hx.aO (by omega),Option.bind_some,M.aB7.kH _ hx.Changes (by omega),Option.bind_some]
theorem M.Server.kG (x:M.Server) (hx:M.Server.ok x):wD x x=some true:=by
 simp [wD,M.aE.kG _ hx.aE,M.aBi.kG _ hx.aO,M.aB7.kG _ hx.Changes]
theorem M.aCk.lD (xs:List M.Server) (hx:(xs.length≤maxLen ∧ ∀y∈xs,M.Server.ok y)):Sz (uK xs) ((xs.length+aG M.Server.sz xs)):=by
 intro l a b
 unfold uK
 exact (Sz.aEr hx.1 (fun x h=>M.Server.lD x (hx.2 x h)) (fun _ _ _=>rfl)) l a b
theorem M.aCk.kH (xs:List M.Server) (hx:(xs.length≤maxLen ∧ ∀y∈xs,M.Server.ok y)) (hs:(xs.length+aG M.Server.sz xs)≤1048576):tH xs=some xs:=by
 have hm:=le_max hx.1
 unfold tH
 rw [aAt (by omega) (by omega),Option.bind_some]
 refine aAI hx.1 (fun n k r hk hr => ?_) (fun n r => ?_) fuel 0 _ (by unfold fuel;omega) (by omega) (by simp) (by simp)
 ·simp only [jM]
  rw [if_pos (bF hk),aQ hk,Option.bind_some,M.Server.kH _ (hx.2 _ (List.getElem_mem hk)) (by have:=cH (f:=M.Server.sz) (List.getElem_mem hk);omega),Option.bind_some,aQ (by omega),Option.bind_some,bH (by omega),Int.toNat_natCast]
 ·simp only [jM]
  rw [if_neg (by rw [aT];simp)]
theorem M.aCk.kG (xs:List M.Server) (hx:(xs.length≤maxLen ∧ ∀y∈xs,M.Server.ok y)):tX xs xs=some true:=by
 have hm:=le_max hx.1
 unfold tX
 rw [if_neg (by simp)]
 refine aAC hx.1 (fun n k hk => ?_) (fun n => ?_) fuel 0 (by unfold fuel;omega) (by omega)
 ·simp only [jJ]
  rw [if_pos (bF hk),aQ hk]
  simp [bH (show k<9223372036854775807 by omega),M.Server.kG _ (hx.2 _ (List.getElem_mem hk))]
 ·simp only [jJ]
  rw [if_neg (by rw [aT];simp)]
structure M.World.ok (x:M.World):Prop where
 Now:inI x.Now
 Device:inI x.Device
 aF:M.aF.ok x.aF
 Pages:(x.Pages.length≤maxLen ∧ ∀y∈x.Pages,M.bJ.ok y)
 NextPage:inI x.NextPage
 Locks:M.aW.ok x.Locks
 Channel:M.Channel.ok x.Channel
 Sites:(x.Sites.length≤maxLen ∧ ∀y∈x.Sites,M.Site.ok y)
 Servers:(x.Servers.length≤maxLen ∧ ∀y∈x.Servers,M.Server.ok y)
def M.World.sh:List Shp:=[.int .i64,.bool,.int .i64,.sl M.aA.sh,.sl M.bJ.sh,.int .i64,.sl M.cT.sh,.sl M.eO.sh,.sl M.Site.sh,.sl M.Server.sh]
theorem M.World.cK (d:List D) (h:mS M.World.sh d) : ∃x,d=M.World.en x∧M.World.ok x:=by
 simp only [M.World.sh,mS,Has] at h
 obtain ⟨_,_,rfl,⟨a1,rfl,w1⟩,_,_,rfl,⟨a2,rfl⟩,_,_,rfl,⟨a3,rfl,w3⟩,_,_,rfl,⟨_,rfl,w4,q4⟩,_,_,rfl,⟨_,rfl,w5,q5⟩,_,_,rfl,⟨a6,rfl,w6⟩,_,_,rfl,⟨_,rfl,w7,q7⟩,_,_,rfl,⟨_,rfl,w8,q8⟩,_,_,rfl,⟨_,rfl,w9,q9⟩,_,_,rfl,⟨_,rfl,w10,q10⟩,rfl⟩:=h
 obtain ⟨a4,rfl,e4⟩:=bE M.aA.cK q4
 obtain ⟨a5,rfl,e5⟩:=bE M.bJ.cK q5
 obtain ⟨a7,rfl,e7⟩:=bE M.cT.cK q7
 obtain ⟨a8,rfl,e8⟩:=bE M.eO.cK q8
 obtain ⟨a9,rfl,e9⟩:=bE M.Site.cK q9
 obtain ⟨a10,rfl,e10⟩:=bE M.Server.cK q10
 exact ⟨⟨a1,a2,a3,⟨a4⟩,a5,a6,⟨a7⟩,⟨a8⟩,a9,a10⟩,rfl,⟨wf_i64 w1,wf_i64 w3,⟨⟨by simpa using w4,e4⟩⟩,⟨by simpa using w5,e5⟩,wf_i64 w6,⟨⟨by simpa using w7,e7⟩⟩,⟨⟨by simpa using w8,e8⟩⟩,⟨by simpa using w9,e9⟩,⟨by simpa using w10,e10⟩⟩⟩
def M.World.sz (x:M.World):Nat:=M.aF.sz x.aF+((x.Pages.length+aG M.bJ.sz x.Pages)+(M.aW.sz x.Locks+(M.Channel.sz x.Channel+((x.Sites.length+aG M.Site.sz x.Sites)+((x.Servers.length+aG M.Server.sz x.Servers))))))
theorem M.World.lD (x:M.World) (hx:M.World.ok x):Sz (yT x) (M.World.sz x):=by
 intro l a b
 unfold yT M.World.sz
 exact (Sz.sG (M.aF.lD _ hx.aF) (Sz.sG (M.aIF.lD _ hx.Pages) (Sz.sG (M.aW.lD _ hx.Locks) (Sz.sG (M.Channel.lD _ hx.Channel) (Sz.sG (M.aIC.lD _ hx.Sites) (Sz.call (M.aCk.lD _ hx.Servers))))))) l a b
theorem M.World.kH (x:M.World) (hx:M.World.ok x) (hs:M.World.sz x≤1048576):lV x=some x:=by
 unfold M.World.sz at hs
 unfold lV
 rw [M.aF.kH _ hx.aF (by omega),Option.bind_some,M.aIF.kH _ hx.Pages (by omega),Option.bind_some,M.aW.kH _ hx.Locks (by omega),Option.bind_some,M.Channel.kH _ hx.Channel (by omega),Option.bind_some,M.aIC.kH _ hx.Sites (by omega),Option.bind_some,M.aCk.kH _ hx.Servers (by omega),Option.bind_some]
theorem M.World.kG (x:M.World) (hx:M.World.ok x):lS x x=some true:=by
 simp [lS,M.aF.kG _ hx.aF,M.aIF.kG _ hx.Pages,M.aW.kG _ hx.Locks,M.Channel.kG _ hx.Channel,M.aIC.kG _ hx.Sites,M.aCk.kG _ hx.Servers]
end Go.Proofs.YtnhpbpnhmapeeaaGreat.gen
