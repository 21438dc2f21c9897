/-
  Helper text. No conditions.
-/
import Derived.Test.YtnhpbpnhmapeeaaGreatActivateWorkerMod
namespace Go.Proofs.YtnhpbpnhmapeeaaGreat.gen
open Go Go.Sh
set_option linter.unusedVariables false
set_option linter.unusedSimpArgs false
structure M.Registration.ok (x:M.Registration):Prop where
 Site:x.Site.size≤maxLen
 Installing:inI x.Installing
 Waiting:inI x.Waiting
 Active:inI x.Active
def M.Registration.sh:List Shp:=[.str,.int .i64,.int .i64,.int .i64]
theorem M.Registration.cT (d:List D) (h:mT M.Registration.sh d) : ∃x,d=M.Registration.en x∧M.Registration.ok x:=by
 simp only [M.Registration.sh,mT,Has] at h
 obtain ⟨_,_,rfl,⟨a1,rfl,w1⟩,_,_,rfl,⟨a2,rfl,w2⟩,_,_,rfl,⟨a3,rfl,w3⟩,_,_,rfl,⟨a4,rfl,w4⟩,rfl⟩:=h
 exact ⟨⟨a1,a2,a3,a4⟩,rfl,⟨w1,wf_i64 w2,wf_i64 w3,wf_i64 w4⟩⟩
def M.Registration.sz (x:M.Registration):Nat:=x.Site.size
theorem M.Registration.lU (x:M.Registration) (hx:M.Registration.ok x):Sz (kE x) (M.Registration.sz x):=by
 intro l a b
 unfold kE M.Registration.sz
 exact (Sz.str hx.Site) l a b
theorem M.Registration.kS (x:M.Registration) (hx:M.Registration.ok x) (hs:M.Registration.sz x≤1048576):kM x=some x:=by
 unfold M.Registration.sz at hs
 unfold kM
 rfl
theorem M.Registration.kO (x:M.Registration) (hx:M.Registration.ok x):kN x x=some true:=by
 simp [kN]
theorem M.aCg.lU (xs:List Int) (hx:okB xs):Sz (uX xs) (xs.length):=by
 intro l a b
 unfold uX
 exact (Sz.str hx.1) l a b
theorem M.aCg.kS (xs:List Int) (hx:okB xs) (hs:xs.length≤1048576):vD xs=some xs:=by
 have hm:=le_max hx.1
 unfold vD
 rw [aA4 (by omega) (by omega),Option.bind_some]
 refine aAR hx.1 (fun n k r hk hr => ?_) (fun n r => ?_) fuel 0 _ (by unfold fuel;omega) (by omega) (by simp) (by simp)
 ·simp only [mM]
  rw [if_pos (aZ hk),aO hk,Option.bind_some,aO (by omega),Option.bind_some,bD (by omega),Int.toNat_natCast]
 ·simp only [mM]
  rw [if_neg (by rw [aP];simp)]
theorem M.aCg.kO (xs:List Int) (hx:okB xs):vF xs xs=some true:=by
 have hm:=le_max hx.1
 unfold vF
 rw [if_neg (by simp)]
 refine aAM hx.1 (fun n k hk => ?_) (fun n => ?_) fuel 0 (by unfold fuel;omega) (by omega)
 ·simp only [mG]
  rw [if_pos (aZ hk),aO hk]
  simp [bD (show k<9223372036854775807 by omega)]
 ·simp only [mG]
  rw [if_neg (by rw [aP];simp)]
structure M.Response.ok (x:M.Response):Prop where
 Type_:inI x.Type_
 Status:inI x.Status
 Version:inI x.Version
 Body:okB x.Body
def M.Response.sh:List Shp:=[.int .i64,.int .i64,.int .i64,.sl [.int .u8],.bool]
theorem M.Response.cT (d:List D) (h:mT M.Response.sh d) : ∃x,d=M.Response.en x∧M.Response.ok x:=by
 simp only [M.Response.sh,mT,Has] at h
 obtain ⟨_,_,rfl,⟨a1,rfl,w1⟩,_,_,rfl,⟨a2,rfl,w2⟩,_,_,rfl,⟨a3,rfl,w3⟩,_,_,rfl,⟨_,rfl,w4,q4⟩,_,_,rfl,⟨a5,rfl⟩,rfl⟩:=h
 obtain ⟨a4,rfl,e4⟩:=bE aN3 q4
 exact ⟨⟨a1,a2,a3,a4,a5⟩,rfl,⟨wf_i64 w1,wf_i64 w2,wf_i64 w3,⟨by simpa using w4,e4⟩⟩⟩
def M.Response.sz (x:M.Response):Nat:=x.Body.length
theorem M.Response.lU (x:M.Response) (hx:M.Response.ok x):Sz (qV x) (M.Response.sz x):=by
 intro l a b
 unfold qV M.Response.sz
 exact (Sz.call (M.aCg.lU _ hx.Body)) l a b
theorem M.Response.kS (x:M.Response) (hx:M.Response.ok x) (hs:M.Response.sz x≤1048576):qM x=some x:=by
 unfold M.Response.sz at hs
 unfold qM
 rw [M.aCg.kS _ hx.Body (by omega),Option.bind_some]
theorem M.Response.kO (x:M.Response) (hx:M.Response.ok x):rD x x=some true:=by
 simp [rD,M.aCg.kO _ hx.Body]
structure M.Cached.ok (x:M.Cached):Prop where
 Site:x.Site.size≤maxLen
 Path:x.Path.size≤maxLen
 Response:M.Response.ok x.Response
def M.Cached.sh:List Shp:=[.str,.str,.int .i64,.int .i64,.int .i64,.sl [.int .u8],.bool]
theorem M.Cached.cT (d:List D) (h:mT M.Cached.sh d) : ∃x,d=M.Cached.en x∧M.Cached.ok x:=by
 simp only [M.Cached.sh,mT,Has] at h
 obtain ⟨_,_,rfl,⟨a1,rfl,w1⟩,_,_,rfl,⟨a2,rfl,w2⟩,_,_,rfl,⟨a3,rfl,w3⟩,_,_,rfl,⟨a4,rfl,w4⟩,_,_,rfl,⟨a5,rfl,w5⟩,_,_,rfl,⟨_,rfl,w6,q6⟩,_,_,rfl,⟨a7,rfl⟩,rfl⟩:=h
 obtain ⟨a6,rfl,e6⟩:=bE aN3 q6
 exact ⟨⟨a1,a2,⟨a3,a4,a5,a6,a7⟩⟩,rfl,⟨w1,w2,⟨wf_i64 w3,wf_i64 w4,wf_i64 w5,⟨by simpa using w6,e6⟩⟩⟩⟩
def M.Cached.sz (x:M.Cached):Nat:=x.Site.size+(x.Path.size+(M.Response.sz x.Response))
theorem M.Cached.lU (x:M.Cached) (hx:M.Cached.ok x):Sz (wF x) (M.Cached.sz x):=by
 intro l a b
 unfold wF M.Cached.sz
 exact (Sz.aCE hx.Site (Sz.aCE hx.Path (Sz.call (M.Response.lU _ hx.Response)))) l a b
theorem M.Cached.kS (x:M.Cached) (hx:M.Cached.ok x) (hs:M.Cached.sz x≤1048576):wS x=some x:=by
 unfold M.Cached.sz at hs
 unfold wS
 rw [M.Response.kS _ hx.Response (by omega),Option.bind_some]
theorem M.Cached.kO (x:M.Cached) (hx:M.Cached.ok x):wT x x=some true:=by
 simp [wT,M.Response.kO _ hx.Response]
theorem M.aCi.lU (xs:List M.Cached) (hx:(xs.length≤maxLen ∧ ∀y∈xs,M.Cached.ok y)):Sz (tH xs) ((xs.length+aF M.Cached.sz xs)):=by
 intro l a b
 unfold tH
 exact (Sz.aEv hx.1 (fun x h=>M.Cached.lU x (hx.2 x h)) (fun _ _ _=>rfl)) l a b
theorem M.aCi.kS (xs:List M.Cached) (hx:(xs.length≤maxLen ∧ ∀y∈xs,M.Cached.ok y)) (hs:(xs.length+aF M.Cached.sz xs)≤1048576):uC xs=some xs:=by
 have hm:=le_max hx.1
 unfold uC
 rw [aA4 (by omega) (by omega),Option.bind_some]
 refine aAR hx.1 (fun n k r hk hr => ?_) (fun n r => ?_) fuel 0 _ (by unfold fuel;omega) (by omega) (by simp) (by simp)
 ·simp only [jM]
  rw [if_pos (aZ hk),aO hk,Option.bind_some,M.Cached.kS _ (hx.2 _ (List.getElem_mem hk)) (by have:=cC (f:=M.Cached.sz) (List.getElem_mem hk);omega),Option.bind_some,aO (by omega),Option.bind_some,bD (by omega),Int.toNat_natCast]
 ·simp only [jM]
  rw [if_neg (by rw [aP];simp)]
theorem M.aCi.kO (xs:List M.Cached) (hx:(xs.length≤maxLen ∧ ∀y∈xs,M.Cached.ok y)):tT xs xs=some true:=by
 have hm:=le_max hx.1
 unfold tT
 rw [if_neg (by simp)]
 refine aAM hx.1 (fun n k hk => ?_) (fun n => ?_) fuel 0 (by unfold fuel;omega) (by omega)
 ·simp only [jS]
  rw [if_pos (aZ hk),aO hk]
  simp [bD (show k<9223372036854775807 by omega),M.Cached.kO _ (hx.2 _ (List.getElem_mem hk))]
 ·simp only [jS]
  rw [if_neg (by rw [aP];simp)]
structure M.Cache.ok (x:M.Cache):Prop where
 Version:inI x.Version
 Entries:(x.Entries.length≤maxLen ∧ ∀y∈x.Entries,M.Cached.ok y)
def M.Cache.sh:List Shp:=[.int .i64,.sl M.Cached.sh]
theorem M.Cache.cT (d:List D) (h:mT M.Cache.sh d) : ∃x,d=M.Cache.en x∧M.Cache.ok x:=by
 simp only [M.Cache.sh,mT,Has] at h
 obtain ⟨_,_,rfl,⟨a1,rfl,w1⟩,_,_,rfl,⟨_,rfl,w2,q2⟩,rfl⟩:=h
 obtain ⟨a2,rfl,e2⟩:=bE M.Cached.cT q2
 exact ⟨⟨a1,a2⟩,rfl,⟨wf_i64 w1,⟨by simpa using w2,e2⟩⟩⟩
def M.Cache.sz (x:M.Cache):Nat:=(x.Entries.length+aF M.Cached.sz x.Entries)
theorem M.Cache.lU (x:M.Cache) (hx:M.Cache.ok x):Sz (zS x) (M.Cache.sz x):=by
 intro l a b
 unfold zS M.Cache.sz
 exact (Sz.call (M.aCi.lU _ hx.Entries)) l a b
theorem M.Cache.kS (x:M.Cache) (hx:M.Cache.ok x) (hs:M.Cache.sz x≤1048576):yV x=some x:=by
 unfold M.Cache.sz at hs
 unfold yV
 rw [M.aCi.kS _ hx.Entries (by omega),Option.bind_some]
theorem M.Cache.kO (x:M.Cache) (hx:M.Cache.ok x):zX x x=some true:=by
 simp [zX,M.aCi.kO _ hx.Entries]
theorem M.aEd.lU (xs:List M.Cache) (hx:(xs.length≤maxLen ∧ ∀y∈xs,M.Cache.ok y)):Sz (xP xs) ((xs.length+aF M.Cache.sz xs)):=by
 intro l a b
 unfold xP
 exact (Sz.aEv hx.1 (fun x h=>M.Cache.lU x (hx.2 x h)) (fun _ _ _=>rfl)) l a b
theorem M.aEd.kS (xs:List M.Cache) (hx:(xs.length≤maxLen ∧ ∀y∈xs,M.Cache.ok y)) (hs:(xs.length+aF M.Cache.sz xs)≤1048576):xC xs=some xs:=by
 have hm:=le_max hx.1
 unfold xC
 rw [aA4 (by omega) (by omega),Option.bind_some]
 refine aAR hx.1 (fun n k r hk hr => ?_) (fun n r => ?_) fuel 0 _ (by unfold fuel;omega) (by omega) (by simp) (by simp)
 ·simp only [lC]
  rw [if_pos (aZ hk),aO hk,Option.bind_some,M.Cache.kS _ (hx.2 _ (List.getElem_mem hk)) (by have:=cC (f:=M.Cache.sz) (List.getElem_mem hk);omega),Option.bind_some,aO (by omega),Option.bind_some,bD (by omega),Int.toNat_natCast]
 ·simp only [lC]
  rw [if_neg (by rw [aP];simp)]
theorem M.aEd.kO (xs:List M.Cache) (hx:(xs.length≤maxLen ∧ ∀y∈xs,M.Cache.ok y)):xB xs xs=some true:=by
 have hm:=le_max hx.1
 unfold xB
 rw [if_neg (by simp)]
 refine aAM hx.1 (fun n k hk => ?_) (fun n => ?_) fuel 0 (by unfold fuel;omega) (by omega)
 ·simp only [kX]
  rw [if_pos (aZ hk),aO hk]
  simp [bD (show k<9223372036854775807 by omega),M.Cache.kO _ (hx.2 _ (List.getElem_mem hk))]
 ·simp only [kX]
  rw [if_neg (by rw [aP];simp)]
structure M.aM.ok (x:M.aM):Prop where
 Caches:(x.Caches.length≤maxLen ∧ ∀y∈x.Caches,M.Cache.ok y)
def M.aM.sh:List Shp:=[.sl M.Cache.sh]
theorem M.aM.cT (d:List D) (h:mT M.aM.sh d) : ∃x,d=M.aM.en x∧M.aM.ok x:=by
 simp only [M.aM.sh,mT,Has] at h
 obtain ⟨_,_,rfl,⟨_,rfl,w1,q1⟩,rfl⟩:=h
 obtain ⟨a1,rfl,e1⟩:=bE M.Cache.cT q1
 exact ⟨⟨a1⟩,rfl,⟨⟨by simpa using w1,e1⟩⟩⟩
def M.aM.sz (x:M.aM):Nat:=(x.Caches.length+aF M.Cache.sz x.Caches)
theorem M.aM.lU (x:M.aM) (hx:M.aM.ok x):Sz (rR x) (M.aM.sz x):=by
 intro l a b
 unfold rR M.aM.sz
 exact (Sz.call (M.aEd.lU _ hx.Caches)) l a b
theorem M.aM.kS (x:M.aM) (hx:M.aM.ok x) (hs:M.aM.sz x≤1048576):qR x=some x:=by
 unfold M.aM.sz at hs
 unfold qR
 rw [M.aEd.kS _ hx.Caches (by omega),Option.bind_some]
theorem M.aM.kO (x:M.aM) (hx:M.aM.ok x):qQ x x=some true:=by
 simp [qQ,M.aEd.kO _ hx.Caches]
structure M.Key.ok (x:M.Key):Prop where
 Kind:inI x.Kind
 N:inI x.N
 Text:x.Text.size≤maxLen
def M.Key.sh:List Shp:=[.int .i64,.int .i64,.str]
theorem M.Key.cT (d:List D) (h:mT M.Key.sh d) : ∃x,d=M.Key.en x∧M.Key.ok x:=by
 simp only [M.Key.sh,mT,Has] at h
 obtain ⟨_,_,rfl,⟨a1,rfl,w1⟩,_,_,rfl,⟨a2,rfl,w2⟩,_,_,rfl,⟨a3,rfl,w3⟩,rfl⟩:=h
 exact ⟨⟨a1,a2,a3⟩,rfl,⟨wf_i64 w1,wf_i64 w2,w3⟩⟩
def M.Key.sz (x:M.Key):Nat:=x.Text.size
theorem M.Key.lU (x:M.Key) (hx:M.Key.ok x):Sz (aAS x) (M.Key.sz x):=by
 intro l a b
 unfold aAS M.Key.sz
 exact (Sz.str hx.Text) l a b
theorem M.Key.kS (x:M.Key) (hx:M.Key.ok x) (hs:M.Key.sz x≤1048576):aAP x=some x:=by
 unfold M.Key.sz at hs
 unfold aAP
 rfl
theorem M.Key.kO (x:M.Key) (hx:M.Key.ok x):aAQ x x=some true:=by
 simp [aAQ]
structure M.Field.ok (x:M.Field):Prop where
 Name:x.Name.size≤maxLen
 N:inI x.N
def M.Field.sh:List Shp:=[.str,.int .i64]
theorem M.Field.cT (d:List D) (h:mT M.Field.sh d) : ∃x,d=M.Field.en x∧M.Field.ok x:=by
 simp only [M.Field.sh,mT,Has] at h
 obtain ⟨_,_,rfl,⟨a1,rfl,w1⟩,_,_,rfl,⟨a2,rfl,w2⟩,rfl⟩:=h
 exact ⟨⟨a1,a2⟩,rfl,⟨w1,wf_i64 w2⟩⟩
def M.Field.sz (x:M.Field):Nat:=x.Name.size
theorem M.Field.lU (x:M.Field) (hx:M.Field.ok x):Sz (zH x) (M.Field.sz x):=by
 intro l a b
 unfold zH M.Field.sz
 exact (Sz.str hx.Name) l a b
theorem M.Field.kS (x:M.Field) (hx:M.Field.ok x) (hs:M.Field.sz x≤1048576):zU x=some x:=by
 unfold M.Field.sz at hs
 unfold zU
 rfl
theorem M.Field.kO (x:M.Field) (hx:M.Field.ok x):yN x x=some true:=by
 simp [yN]
theorem M.aE7.lU (xs:List M.Field) (hx:(xs.length≤maxLen ∧ ∀y∈xs,M.Field.ok y)):Sz (wC xs) ((xs.length+aF M.Field.sz xs)):=by
 intro l a b
 unfold wC
 exact (Sz.aEv hx.1 (fun x h=>M.Field.lU x (hx.2 x h)) (fun _ _ _=>rfl)) l a b
theorem M.aE7.kS (xs:List M.Field) (hx:(xs.length≤maxLen ∧ ∀y∈xs,M.Field.ok y)) (hs:(xs.length+aF M.Field.sz xs)≤1048576):xS xs=some xs:=by
 have hm:=le_max hx.1
 unfold xS
 rw [aA4 (by omega) (by omega),Option.bind_some]
 refine aAR hx.1 (fun n k r hk hr => ?_) (fun n r => ?_) fuel 0 _ (by unfold fuel;omega) (by omega) (by simp) (by simp)
 ·simp only [kQ]
  rw [if_pos (aZ hk),aO hk,Option.bind_some,M.Field.kS _ (hx.2 _ (List.getElem_mem hk)) (by have:=cC (f:=M.Field.sz) (List.getElem_mem hk);omega),Option.bind_some,aO (by omega),Option.bind_some,bD (by omega),Int.toNat_natCast]
 ·simp only [kQ]
  rw [if_neg (by rw [aP];simp)]
theorem M.aE7.kO (xs:List M.Field) (hx:(xs.length≤maxLen ∧ ∀y∈xs,M.Field.ok y)):xF xs xs=some true:=by
 have hm:=le_max hx.1
 unfold xF
 rw [if_neg (by simp)]
 refine aAM hx.1 (fun n k hk => ?_) (fun n => ?_) fuel 0 (by unfold fuel;omega) (by omega)
 ·simp only [kT]
  rw [if_pos (aZ hk),aO hk]
  simp [bD (show k<9223372036854775807 by omega),M.Field.kO _ (hx.2 _ (List.getElem_mem hk))]
 ·simp only [kT]
  rw [if_neg (by rw [aP];simp)]
structure M.aU.ok (x:M.aU):Prop where
 Fields:(x.Fields.length≤maxLen ∧ ∀y∈x.Fields,M.Field.ok y)
def M.aU.sh:List Shp:=[.sl M.Field.sh]
theorem M.aU.cT (d:List D) (h:mT M.aU.sh d) : ∃x,d=M.aU.en x∧M.aU.ok x:=by
 simp only [M.aU.sh,mT,Has] at h
 obtain ⟨_,_,rfl,⟨_,rfl,w1,q1⟩,rfl⟩:=h
 obtain ⟨a1,rfl,e1⟩:=bE M.Field.cT q1
 exact ⟨⟨a1⟩,rfl,⟨⟨by simpa using w1,e1⟩⟩⟩
def M.aU.sz (x:M.aU):Nat:=(x.Fields.length+aF M.Field.sz x.Fields)
theorem M.aU.lU (x:M.aU) (hx:M.aU.ok x):Sz (xO x) (M.aU.sz x):=by
 intro l a b
 unfold xO M.aU.sz
 exact (Sz.call (M.aE7.lU _ hx.Fields)) l a b
theorem M.aU.kS (x:M.aU) (hx:M.aU.ok x) (hs:M.aU.sz x≤1048576):wQ x=some x:=by
 unfold M.aU.sz at hs
 unfold wQ
 rw [M.aE7.kS _ hx.Fields (by omega),Option.bind_some]
theorem M.aU.kO (x:M.aU) (hx:M.aU.ok x):xK x x=some true:=by
 simp [xK,M.aE7.kO _ hx.Fields]
structure M.Item.ok (x:M.Item):Prop where
 Key:M.Key.ok x.Key
 aU:M.aU.ok x.aU
def M.Item.sh:List Shp:=[.int .i64,.int .i64,.str,.sl M.Field.sh]
theorem M.Item.cT (d:List D) (h:mT M.Item.sh d) : ∃x,d=M.Item.en x∧M.Item.ok x:=by
 simp only [M.Item.sh,mT,Has] at h
 obtain ⟨_,_,rfl,⟨a1,rfl,w1⟩,_,_,rfl,⟨a2,rfl,w2⟩,_,_,rfl,⟨a3,rfl,w3⟩,_,_,rfl,⟨_,rfl,w4,q4⟩,rfl⟩:=h
 obtain ⟨a4,rfl,e4⟩:=bE M.Field.cT q4
 exact ⟨⟨⟨a1,a2,a3⟩,⟨a4⟩⟩,rfl,⟨⟨wf_i64 w1,wf_i64 w2,w3⟩,⟨⟨by simpa using w4,e4⟩⟩⟩⟩
def M.Item.sz (x:M.Item):Nat:=M.Key.sz x.Key+(M.aU.sz x.aU)
theorem M.Item.lU (x:M.Item) (hx:M.Item.ok x):Sz (aAz x) (M.Item.sz x):=by
 intro l a b
 unfold aAz M.Item.sz
 exact (Sz.sK (M.Key.lU _ hx.Key) (Sz.call (M.aU.lU _ hx.aU))) l a b
theorem M.Item.kS (x:M.Item) (hx:M.Item.ok x) (hs:M.Item.sz x≤1048576):aAX x=some x:=by
 unfold M.Item.sz at hs
 unfold aAX
 rw [M.Key.kS _ hx.Key (by omega),Option.bind_some,M.aU.kS _ hx.aU (by omega),Option.bind_some]
theorem M.Item.kO (x:M.Item) (hx:M.Item.ok x):aAc x x=some true:=by
 simp [aAc,M.Key.kO _ hx.Key,M.aU.kO _ hx.aU]
theorem M.aFN.lU (xs:List M.Item) (hx:(xs.length≤maxLen ∧ ∀y∈xs,M.Item.ok y)):Sz (aAB xs) ((xs.length+aF M.Item.sz xs)):=by
 intro l a b
 unfold aAB
 exact (Sz.aEv hx.1 (fun x h=>M.Item.lU x (hx.2 x h)) (fun _ _ _=>rfl)) l a b
theorem M.aFN.kS (xs:List M.Item) (hx:(xs.length≤maxLen ∧ ∀y∈xs,M.Item.ok y)) (hs:(xs.length+aF M.Item.sz xs)≤1048576):yU xs=some xs:=by
 have hm:=le_max hx.1
 unfold yU
 rw [aA4 (by omega) (by omega),Option.bind_some]
 refine aAR hx.1 (fun n k r hk hr => ?_) (fun n r => ?_) fuel 0 _ (by unfold fuel;omega) (by omega) (by simp) (by simp)
 ·simp only [mO]
  rw [if_pos (aZ hk),aO hk,Option.bind_some,M.Item.kS _ (hx.2 _ (List.getElem_mem hk)) (by have:=cC (f:=M.Item.sz) (List.getElem_mem hk);omega),Option.bind_some,aO (by omega),Option.bind_some,bD (by omega),Int.toNat_natCast]
 ·simp only [mO]
  rw [if_neg (by rw [aP];simp)]
theorem M.aFN.kO (xs:List M.Item) (hx:(xs.length≤maxLen ∧ ∀y∈xs,M.Item.ok y)):aAA xs xs=some true:=by
 have hm:=le_max hx.1
 unfold aAA
 rw [if_neg (by simp)]
 refine aAM hx.1 (fun n k hk => ?_) (fun n => ?_) fuel 0 (by unfold fuel;omega) (by omega)
 ·simp only [mD]
  rw [if_pos (aZ hk),aO hk]
  simp [bD (show k<9223372036854775807 by omega),M.Item.kO _ (hx.2 _ (List.getElem_mem hk))]
 ·simp only [mD]
  rw [if_neg (by rw [aP];simp)]
structure M.aH.ok (x:M.aH):Prop where
 Name:x.Name.size≤maxLen
 Items:(x.Items.length≤maxLen ∧ ∀y∈x.Items,M.Item.ok y)
 Auto:inI x.Auto
def M.aH.sh:List Shp:=[.str,.sl M.Item.sh,.int .i64]
theorem M.aH.cT (d:List D) (h:mT M.aH.sh d) : ∃x,d=M.aH.en x∧M.aH.ok x:=by
 simp only [M.aH.sh,mT,Has] at h
 obtain ⟨_,_,rfl,⟨a1,rfl,w1⟩,_,_,rfl,⟨_,rfl,w2,q2⟩,_,_,rfl,⟨a3,rfl,w3⟩,rfl⟩:=h
 obtain ⟨a2,rfl,e2⟩:=bE M.Item.cT q2
 exact ⟨⟨a1,a2,a3⟩,rfl,⟨w1,⟨by simpa using w2,e2⟩,wf_i64 w3⟩⟩
def M.aH.sz (x:M.aH):Nat:=x.Name.size+((x.Items.length+aF M.Item.sz x.Items))
theorem M.aH.lU (x:M.aH) (hx:M.aH.ok x):Sz (pL x) (M.aH.sz x):=by
 intro l a b
 unfold pL M.aH.sz
 exact (Sz.aCE hx.Name (Sz.call (M.aFN.lU _ hx.Items))) l a b
theorem M.aH.kS (x:M.aH) (hx:M.aH.ok x) (hs:M.aH.sz x≤1048576):pR x=some x:=by
 unfold M.aH.sz at hs
 unfold pR
 rw [M.aFN.kS _ hx.Items (by omega),Option.bind_some]
theorem M.aH.kO (x:M.aH) (hx:M.aH.ok x):pQ x x=some true:=by
 simp [pQ,M.aFN.kO _ hx.Items]
theorem M.aEO.lU (xs:List M.aH) (hx:(xs.length≤maxLen ∧ ∀y∈xs,M.aH.ok y)):Sz (wW xs) ((xs.length+aF M.aH.sz xs)):=by
 intro l a b
 unfold wW
 exact (Sz.aEv hx.1 (fun x h=>M.aH.lU x (hx.2 x h)) (fun _ _ _=>rfl)) l a b
theorem M.aEO.kS (xs:List M.aH) (hx:(xs.length≤maxLen ∧ ∀y∈xs,M.aH.ok y)) (hs:(xs.length+aF M.aH.sz xs)≤1048576):wJ xs=some xs:=by
 have hm:=le_max hx.1
 unfold wJ
 rw [aA4 (by omega) (by omega),Option.bind_some]
 refine aAR hx.1 (fun n k r hk hr => ?_) (fun n r => ?_) fuel 0 _ (by unfold fuel;omega) (by omega) (by simp) (by simp)
 ·simp only [kY]
  rw [if_pos (aZ hk),aO hk,Option.bind_some,M.aH.kS _ (hx.2 _ (List.getElem_mem hk)) (by have:=cC (f:=M.aH.sz) (List.getElem_mem hk);omega),Option.bind_some,aO (by omega),Option.bind_some,bD (by omega),Int.toNat_natCast]
 ·simp only [kY]
  rw [if_neg (by rw [aP];simp)]
theorem M.aEO.kO (xs:List M.aH) (hx:(xs.length≤maxLen ∧ ∀y∈xs,M.aH.ok y)):wB xs xs=some true:=by
 have hm:=le_max hx.1
 unfold wB
 rw [if_neg (by simp)]
 refine aAM hx.1 (fun n k hk => ?_) (fun n => ?_) fuel 0 (by unfold fuel;omega) (by omega)
 ·simp only [kR]
  rw [if_pos (aZ hk),aO hk]
  simp [bD (show k<9223372036854775807 by omega),M.aH.kO _ (hx.2 _ (List.getElem_mem hk))]
 ·simp only [kR]
  rw [if_neg (by rw [aP];simp)]
structure M.aD.ok (x:M.aD):Prop where
 aH:x.aH.size≤maxLen
 Field:x.Field.size≤maxLen
def M.aD.sh:List Shp:=[.str,.str]
theorem M.aD.cT (d:List D) (h:mT M.aD.sh d) : ∃x,d=M.aD.en x∧M.aD.ok x:=by
 simp only [M.aD.sh,mT,Has] at h
 obtain ⟨_,_,rfl,⟨a1,rfl,w1⟩,_,_,rfl,⟨a2,rfl,w2⟩,rfl⟩:=h
 exact ⟨⟨a1,a2⟩,rfl,⟨w1,w2⟩⟩
def M.aD.sz (x:M.aD):Nat:=x.aH.size+(x.Field.size)
theorem M.aD.lU (x:M.aD) (hx:M.aD.ok x):Sz (qD x) (M.aD.sz x):=by
 intro l a b
 unfold qD M.aD.sz
 exact (Sz.aCE hx.aH (Sz.str hx.Field)) l a b
theorem M.aD.kS (x:M.aD) (hx:M.aD.ok x) (hs:M.aD.sz x≤1048576):rN x=some x:=by
 unfold M.aD.sz at hs
 unfold rN
 rfl
theorem M.aD.kO (x:M.aD) (hx:M.aD.ok x):rG x x=some true:=by
 simp [rG]
theorem M.aBL.lU (xs:List M.aD) (hx:(xs.length≤maxLen ∧ ∀y∈xs,M.aD.ok y)):Sz (oL xs) ((xs.length+aF M.aD.sz xs)):=by
 intro l a b
 unfold oL
 exact (Sz.aEv hx.1 (fun x h=>M.aD.lU x (hx.2 x h)) (fun _ _ _=>rfl)) l a b
theorem M.aBL.kS (xs:List M.aD) (hx:(xs.length≤maxLen ∧ ∀y∈xs,M.aD.ok y)) (hs:(xs.length+aF M.aD.sz xs)≤1048576):oZ xs=some xs:=by
 have hm:=le_max hx.1
 unfold oZ
 rw [aA4 (by omega) (by omega),Option.bind_some]
 refine aAR hx.1 (fun n k r hk hr => ?_) (fun n r => ?_) fuel 0 _ (by unfold fuel;omega) (by omega) (by simp) (by simp)
 ·simp only [iJ]
  rw [if_pos (aZ hk),aO hk,Option.bind_some,M.aD.kS _ (hx.2 _ (List.getElem_mem hk)) (by have:=cC (f:=M.aD.sz) (List.getElem_mem hk);omega),Option.bind_some,aO (by omega),Option.bind_some,bD (by omega),Int.toNat_natCast]
 ·simp only [iJ]
  rw [if_neg (by rw [aP];simp)]
theorem M.aBL.kO (xs:List M.aD) (hx:(xs.length≤maxLen ∧ ∀y∈xs,M.aD.ok y)):oP xs xs=some true:=by
 have hm:=le_max hx.1
 unfold oP
 rw [if_neg (by simp)]
 refine aAM hx.1 (fun n k hk => ?_) (fun n => ?_) fuel 0 (by unfold fuel;omega) (by omega)
 ·simp only [iL]
  rw [if_pos (aZ hk),aO hk]
  simp [bD (show k<9223372036854775807 by omega),M.aD.kO _ (hx.2 _ (List.getElem_mem hk))]
 ·simp only [iL]
  rw [if_neg (by rw [aP];simp)]
structure M.Database.ok (x:M.Database):Prop where
 Name:x.Name.size≤maxLen
 Version:inI x.Version
 Stores:(x.Stores.length≤maxLen ∧ ∀y∈x.Stores,M.aH.ok y)
 Unique:(x.Unique.length≤maxLen ∧ ∀y∈x.Unique,M.aD.ok y)
def M.Database.sh:List Shp:=[.str,.int .i64,.sl M.aH.sh,.sl M.aD.sh]
theorem M.Database.cT (d:List D) (h:mT M.Database.sh d) : ∃x,d=M.Database.en x∧M.Database.ok x:=by
 simp only [M.Database.sh,mT,Has] at h
 obtain ⟨_,_,rfl,⟨a1,rfl,w1⟩,_,_,rfl,⟨a2,rfl,w2⟩,_,_,rfl,⟨_,rfl,w3,q3⟩,_,_,rfl,⟨_,rfl,w4,q4⟩,rfl⟩:=h
 obtain ⟨a3,rfl,e3⟩:=bE M.aH.cT q3
 obtain ⟨a4,rfl,e4⟩:=bE M.aD.cT q4
 exact ⟨⟨a1,a2,a3,a4⟩,rfl,⟨w1,wf_i64 w2,⟨by simpa using w3,e3⟩,⟨by simpa using w4,e4⟩⟩⟩
def M.Database.sz (x:M.Database):Nat:=x.Name.size+((x.Stores.length+aF M.aH.sz x.Stores)+((x.Unique.length+aF M.aD.sz x.Unique)))
theorem M.Database.lU (x:M.Database) (hx:M.Database.ok x):Sz (rL x) (M.Database.sz x):=by
 intro l a b
 unfold rL M.Database.sz
 exact (Sz.aCE hx.Name (Sz.sK (M.aEO.lU _ hx.Stores) (Sz.call (M.aBL.lU _ hx.Unique)))) l a b
theorem M.Database.kS (x:M.Database) (hx:M.Database.ok x) (hs:M.Database.sz x≤1048576):pZ x=some x:=by
 unfold M.Database.sz at hs
 unfold pZ
 rw [M.aEO.kS _ hx.Stores (by omega),Option.bind_some,M.aBL.kS _ hx.Unique (by omega),Option.bind_some]
theorem M.Database.kO (x:M.Database) (hx:M.Database.ok x):rO x x=some true:=by
 simp [rO,M.aEO.kO _ hx.Stores,M.aBL.kO _ hx.Unique]
structure M.bB.ok (x:M.bB):Prop where
 Base:M.Database.ok x.Base
 Log:okB x.Log
 Count:inI x.Count
def M.bB.sh:List Shp:=[.str,.int .i64,.sl M.aH.sh,.sl M.aD.sh,.sl [.int .u8],.int .i64]
theorem M.bB.cT (d:List D) (h:mT M.bB.sh d) : ∃x,d=M.bB.en x∧M.bB.ok x:=by
 simp only [M.bB.sh,mT,Has] at h
 obtain ⟨_,_,rfl,⟨a1,rfl,w1⟩,_,_,rfl,⟨a2,rfl,w2⟩,_,_,rfl,⟨_,rfl,w3,q3⟩,_,_,rfl,⟨_,rfl,w4,q4⟩,_,_,rfl,⟨_,rfl,w5,q5⟩,_,_,rfl,⟨a6,rfl,w6⟩,rfl⟩:=h
 obtain ⟨a3,rfl,e3⟩:=bE M.aH.cT q3
 obtain ⟨a4,rfl,e4⟩:=bE M.aD.cT q4
 obtain ⟨a5,rfl,e5⟩:=bE aN3 q5
 exact ⟨⟨⟨a1,a2,a3,a4⟩,a5,a6⟩,rfl,⟨⟨w1,wf_i64 w2,⟨by simpa using w3,e3⟩,⟨by simpa using w4,e4⟩⟩,⟨by simpa using w5,e5⟩,wf_i64 w6⟩⟩
def M.bB.sz (x:M.bB):Nat:=M.Database.sz x.Base+(x.Log.length)
theorem M.bB.lU (x:M.bB) (hx:M.bB.ok x):Sz (aAW x) (M.bB.sz x):=by
 intro l a b
 unfold aAW M.bB.sz
 exact (Sz.sK (M.Database.lU _ hx.Base) (Sz.call (M.aCg.lU _ hx.Log))) l a b
theorem M.bB.kS (x:M.bB) (hx:M.bB.ok x) (hs:M.bB.sz x≤1048576):aBC x=some x:=by
 unfold M.bB.sz at hs
 unfold aBC
 rw [M.Database.kS _ hx.Base (by omega),Option.bind_some,M.aCg.kS _ hx.Log (by omega),Option.bind_some]
theorem M.bB.kO (x:M.bB) (hx:M.bB.ok x):aA0 x x=some true:=by
 simp [aA0,M.Database.kO _ hx.Base,M.aCg.kO _ hx.Log]
structure M.aY.ok (x:M.aY):Prop where
 Device:inI x.Device
 Seq:inI x.Seq
 Key:M.Key.ok x.Key
 Field:x.Field.size≤maxLen
 N:inI x.N
def M.aY.sh:List Shp:=[.int .i64,.int .i64,.int .i64,.int .i64,.str,.str,.int .i64]
theorem M.aY.cT (d:List D) (h:mT M.aY.sh d) : ∃x,d=M.aY.en x∧M.aY.ok x:=by
 simp only [M.aY.sh,mT,Has] at h
 obtain ⟨_,_,rfl,⟨a1,rfl,w1⟩,_,_,rfl,⟨a2,rfl,w2⟩,_,_,rfl,⟨a3,rfl,w3⟩,_,_,rfl,⟨a4,rfl,w4⟩,_,_,rfl,⟨a5,rfl,w5⟩,_,_,rfl,⟨a6,rfl,w6⟩,_,_,rfl,⟨a7,rfl,w7⟩,rfl⟩:=h
 exact ⟨⟨a1,a2,⟨a3,a4,a5⟩,a6,a7⟩,rfl,⟨wf_i64 w1,wf_i64 w2,⟨wf_i64 w3,wf_i64 w4,w5⟩,w6,wf_i64 w7⟩⟩
def M.aY.sz (x:M.aY):Nat:=M.Key.sz x.Key+(x.Field.size)
theorem M.aY.lU (x:M.aY) (hx:M.aY.ok x):Sz (zQ x) (M.aY.sz x):=by
 intro l a b
 unfold zQ M.aY.sz
 exact (Sz.sK (M.Key.lU _ hx.Key) (Sz.str hx.Field)) l a b
theorem M.aY.kS (x:M.aY) (hx:M.aY.ok x) (hs:M.aY.sz x≤1048576):zF x=some x:=by
 unfold M.aY.sz at hs
 unfold zF
 rw [M.Key.kS _ hx.Key (by omega),Option.bind_some]
theorem M.aY.kO (x:M.aY) (hx:M.aY.ok x):yP x x=some true:=by
 simp [yP,M.Key.kO _ hx.Key]
theorem M.aCG.lU (xs:List M.aY) (hx:(xs.length≤maxLen ∧ ∀y∈xs,M.aY.ok y)):Sz (qW xs) ((xs.length+aF M.aY.sz xs)):=by
 intro l a b
 unfold qW
 exact (Sz.aEv hx.1 (fun x h=>M.aY.lU x (hx.2 x h)) (fun _ _ _=>rfl)) l a b
theorem M.aCG.kS (xs:List M.aY) (hx:(xs.length≤maxLen ∧ ∀y∈xs,M.aY.ok y)) (hs:(xs.length+aF M.aY.sz xs)≤1048576):rA xs=some xs:=by
 have hm:=le_max hx.1
 unfold rA
 rw [aA4 (by omega) (by omega),Option.bind_some]
 refine aAR hx.1 (fun n k r hk hr => ?_) (fun n r => ?_) fuel 0 _ (by unfold fuel;omega) (by omega) (by simp) (by simp)
 ·simp only [lD]
  rw [if_pos (aZ hk),aO hk,Option.bind_some,M.aY.kS _ (hx.2 _ (List.getElem_mem hk)) (by have:=cC (f:=M.aY.sz) (List.getElem_mem hk);omega),Option.bind_some,aO (by omega),Option.bind_some,bD (by omega),Int.toNat_natCast]
 ·simp only [lD]
  rw [if_neg (by rw [aP];simp)]
theorem M.aCG.kO (xs:List M.aY) (hx:(xs.length≤maxLen ∧ ∀y∈xs,M.aY.ok y)):rQ xs xs=some true:=by
 have hm:=le_max hx.1
 unfold rQ
 rw [if_neg (by simp)]
 refine aAM hx.1 (fun n k hk => ?_) (fun n => ?_) fuel 0 (by unfold fuel;omega) (by omega)
 ·simp only [lB]
  rw [if_pos (aZ hk),aO hk]
  simp [bD (show k<9223372036854775807 by omega),M.aY.kO _ (hx.2 _ (List.getElem_mem hk))]
 ·simp only [lB]
  rw [if_neg (by rw [aP];simp)]
structure M.aV.ok (x:M.aV):Prop where
 Device:inI x.Device
 Next:inI x.Next
 Writes:(x.Writes.length≤maxLen ∧ ∀y∈x.Writes,M.aY.ok y)
def M.aV.sh:List Shp:=[.int .i64,.int .i64,.sl M.aY.sh]
theorem M.aV.cT (d:List D) (h:mT M.aV.sh d) : ∃x,d=M.aV.en x∧M.aV.ok x:=by
 simp only [M.aV.sh,mT,Has] at h
 obtain ⟨_,_,rfl,⟨a1,rfl,w1⟩,_,_,rfl,⟨a2,rfl,w2⟩,_,_,rfl,⟨_,rfl,w3,q3⟩,rfl⟩:=h
 obtain ⟨a3,rfl,e3⟩:=bE M.aY.cT q3
 exact ⟨⟨a1,a2,a3⟩,rfl,⟨wf_i64 w1,wf_i64 w2,⟨by simpa using w3,e3⟩⟩⟩
def M.aV.sz (x:M.aV):Nat:=(x.Writes.length+aF M.aY.sz x.Writes)
theorem M.aV.lU (x:M.aV) (hx:M.aV.ok x):Sz (wP x) (M.aV.sz x):=by
 intro l a b
 unfold wP M.aV.sz
 exact (Sz.call (M.aCG.lU _ hx.Writes)) l a b
theorem M.aV.kS (x:M.aV) (hx:M.aV.ok x) (hs:M.aV.sz x≤1048576):wD x=some x:=by
 unfold M.aV.sz at hs
 unfold wD
 rw [M.aCG.kS _ hx.Writes (by omega),Option.bind_some]
theorem M.aV.kO (x:M.aV) (hx:M.aV.ok x):xN x x=some true:=by
 simp [xN,M.aCG.kO _ hx.Writes]
structure M.Sync.ok (x:M.Sync):Prop where
 aV:M.aV.ok x.aV
 Tries:inI x.Tries
 WaitUntil:inI x.WaitUntil
def M.Sync.sh:List Shp:=[.int .i64,.int .i64,.sl M.aY.sh,.int .i64,.int .i64]
theorem M.Sync.cT (d:List D) (h:mT M.Sync.sh d) : ∃x,d=M.Sync.en x∧M.Sync.ok x:=by
 simp only [M.Sync.sh,mT,Has] at h
 obtain ⟨_,_,rfl,⟨a1,rfl,w1⟩,_,_,rfl,⟨a2,rfl,w2⟩,_,_,rfl,⟨_,rfl,w3,q3⟩,_,_,rfl,⟨a4,rfl,w4⟩,_,_,rfl,⟨a5,rfl,w5⟩,rfl⟩:=h
 obtain ⟨a3,rfl,e3⟩:=bE M.aY.cT q3
 exact ⟨⟨⟨a1,a2,a3⟩,a4,a5⟩,rfl,⟨⟨wf_i64 w1,wf_i64 w2,⟨by simpa using w3,e3⟩⟩,wf_i64 w4,wf_i64 w5⟩⟩
def M.Sync.sz (x:M.Sync):Nat:=M.aV.sz x.aV
theorem M.Sync.lU (x:M.Sync) (hx:M.Sync.ok x):Sz (aBF x) (M.Sync.sz x):=by
 intro l a b
 unfold aBF M.Sync.sz
 exact (Sz.call (M.aV.lU _ hx.aV)) l a b
theorem M.Sync.kS (x:M.Sync) (hx:M.Sync.ok x) (hs:M.Sync.sz x≤1048576):aA5 x=some x:=by
 unfold M.Sync.sz at hs
 unfold aA5
 rw [M.aV.kS _ hx.aV (by omega),Option.bind_some]
theorem M.Sync.kO (x:M.Sync) (hx:M.Sync.ok x):aAg x x=some true:=by
 simp [aAg,M.aV.kO _ hx.aV]
structure M.aE.ok (x:M.aE):Prop where
 Base:M.aH.ok x.Base
 Seen:inI x.Seen
 Sync:M.Sync.ok x.Sync
def M.aE.sh:List Shp:=[.str,.sl M.Item.sh,.int .i64,.int .i64,.int .i64,.int .i64,.sl M.aY.sh,.int .i64,.int .i64]
theorem M.aE.cT (d:List D) (h:mT M.aE.sh d) : ∃x,d=M.aE.en x∧M.aE.ok x:=by
 simp only [M.aE.sh,mT,Has] at h
 obtain ⟨_,_,rfl,⟨a1,rfl,w1⟩,_,_,rfl,⟨_,rfl,w2,q2⟩,_,_,rfl,⟨a3,rfl,w3⟩,_,_,rfl,⟨a4,rfl,w4⟩,_,_,rfl,⟨a5,rfl,w5⟩,_,_,rfl,⟨a6,rfl,w6⟩,_,_,rfl,⟨_,rfl,w7,q7⟩,_,_,rfl,⟨a8,rfl,w8⟩,_,_,rfl,⟨a9,rfl,w9⟩,rfl⟩:=h
 obtain ⟨a2,rfl,e2⟩:=bE M.Item.cT q2
 obtain ⟨a7,rfl,e7⟩:=bE M.aY.cT q7
 exact ⟨⟨⟨a1,a2,a3⟩,a4,⟨⟨a5,a6,a7⟩,a8,a9⟩⟩,rfl,⟨⟨w1,⟨by simpa using w2,e2⟩,wf_i64 w3⟩,wf_i64 w4,⟨⟨wf_i64 w5,wf_i64 w6,⟨by simpa using w7,e7⟩⟩,wf_i64 w8,wf_i64 w9⟩⟩⟩
def M.aE.sz (x:M.aE):Nat:=M.aH.sz x.Base+(M.Sync.sz x.Sync)
theorem M.aE.lU (x:M.aE) (hx:M.aE.ok x):Sz (uN x) (M.aE.sz x):=by
 intro l a b
 unfold uN M.aE.sz
 exact (Sz.sK (M.aH.lU _ hx.Base) (Sz.call (M.Sync.lU _ hx.Sync))) l a b
theorem M.aE.kS (x:M.aE) (hx:M.aE.ok x) (hs:M.aE.sz x≤1048576):uD x=some x:=by
 unfold M.aE.sz at hs
 unfold uD
 rw [M.aH.kS _ hx.Base (by omega),Option.bind_some,M.Sync.kS _ hx.Sync (by omega),Option.bind_some]
theorem M.aE.kO (x:M.aE) (hx:M.aE.ok x):uA x x=some true:=by
 simp [uA,M.aH.kO _ hx.Base,M.Sync.kO _ hx.Sync]
structure M.aA.ok (x:M.aA):Prop where
 Site:x.Site.size≤maxLen
 Top:x.Top.size≤maxLen
 Registration:M.Registration.ok x.Registration
 Caches:M.aM.ok x.Caches
 bB:M.bB.ok x.bB
 aE:M.aE.ok x.aE
 LastUsed:inI x.LastUsed
def M.aA.sh:List Shp:=[.str,.str,.str,.int .i64,.int .i64,.int .i64,.sl M.Cache.sh,.str,.int .i64,.sl M.aH.sh,.sl M.aD.sh,.sl [.int .u8],.int .i64,.str,.sl M.Item.sh,.int .i64,.int .i64,.int .i64,.int .i64,.sl M.aY.sh,.int .i64,.int .i64,.int .i64,.bool]
theorem M.aA.cT (d:List D) (h:mT M.aA.sh d) : ∃x,d=M.aA.en x∧M.aA.ok x:=by
 simp only [M.aA.sh,mT,Has] at h
 obtain ⟨_,_,rfl,⟨a1,rfl,w1⟩,_,_,rfl,⟨a2,rfl,w2⟩,_,_,rfl,⟨a3,rfl,w3⟩,_,_,rfl,⟨a4,rfl,w4⟩,_,_,rfl,⟨a5,rfl,w5⟩,_,_,rfl,⟨a6,rfl,w6⟩,_,_,rfl,⟨_,rfl,w7,q7⟩,_,_,rfl,⟨a8,rfl,w8⟩,_,_,rfl,⟨a9,rfl,w9⟩,_,_,rfl,⟨_,rfl,w10,q10⟩,_,_,rfl,⟨_,rfl,w11,q11⟩,_,_,rfl,⟨_,rfl,w12,q12⟩,_,_,rfl,⟨a13,rfl,w13⟩,_,_,rfl,⟨a14,rfl,w14⟩,_,_,rfl,⟨_,rfl,w15,q15⟩,_,_,rfl,⟨a16,rfl,w16⟩,_,_,rfl,⟨a17,rfl,w17⟩,_,_,rfl,⟨a18,rfl,w18⟩,_,_,rfl,⟨a19,rfl,w19⟩,_,_,rfl,⟨_,rfl,w20,q20⟩,_,_,rfl,⟨a21,rfl,w21⟩,_,_,rfl,⟨a22,rfl,w22⟩,_,_,rfl,⟨a23,rfl,w23⟩,_,_,rfl,⟨a24,rfl⟩,rfl⟩:=h
 obtain ⟨a7,rfl,e7⟩:=bE M.Cache.cT q7
 obtain ⟨a10,rfl,e10⟩:=bE M.aH.cT q10
 obtain ⟨a11,rfl,e11⟩:=bE M.aD.cT q11
 obtain ⟨a12,rfl,e12⟩:=bE aN3 q12
 obtain ⟨a15,rfl,e15⟩:=bE M.Item.cT q15
 obtain ⟨a20,rfl,e20⟩:=bE M.aY.cT q20
 exact ⟨⟨a1,a2,⟨a3,a4,a5,a6⟩,⟨a7⟩,⟨⟨a8,a9,a10,a11⟩,a12,a13⟩,⟨⟨a14,a15,a16⟩,a17,⟨⟨a18,a19,a20⟩,a21,a22⟩⟩,a23,a24⟩,rfl,⟨w1,w2,⟨w3,wf_i64 w4,wf_i64 w5,wf_i64 w6⟩,⟨⟨by simpa using w7,e7⟩⟩,⟨⟨w8,wf_i64 w9,⟨by simpa using w10,e10⟩,⟨by simpa using w11,e11⟩⟩,⟨by simpa using w12,e12⟩,wf_i64 w13⟩,⟨⟨w14,⟨by simpa using w15,e15⟩,wf_i64 w16⟩,wf_i64 w17,⟨⟨wf_i64 w18,wf_i64 w19,⟨by simpa using w20,e20⟩⟩,wf_i64 w21,wf_i64 w22⟩⟩,wf_i64 w23⟩⟩
def M.aA.sz (x:M.aA):Nat:=x.Site.size+(x.Top.size+(M.Registration.sz x.Registration+(M.aM.sz x.Caches+(M.bB.sz x.bB+(M.aE.sz x.aE)))))
theorem M.aA.lU (x:M.aA) (hx:M.aA.ok x):Sz (xR x) (M.aA.sz x):=by
 intro l a b
 unfold xR M.aA.sz
 exact (Sz.aCE hx.Site (Sz.aCE hx.Top (Sz.sK (M.Registration.lU _ hx.Registration) (Sz.sK (M.aM.lU _ hx.Caches) (Sz.sK (M.bB.lU _ hx.bB) (Sz.call (M.aE.lU _ hx.aE))))))) l a b
theorem M.aA.kS (x:M.aA) (hx:M.aA.ok x) (hs:M.aA.sz x≤1048576):xE x=some x:=by
 unfold M.aA.sz at hs
 unfold xE
 rw [M.Registration.kS _ hx.Registration (by omega),Option.bind_some,M.aM.kS _ hx.Caches (by omega),Option.bind_some,M.bB.kS _ hx.bB (by omega),Option.bind_some,M.aE.kS _ hx.aE (by omega),Option.bind_some]
theorem M.aA.kO (x:M.aA) (hx:M.aA.ok x):wK x x=some true:=by
 simp [wK,M.Registration.kO _ hx.Registration,M.aM.kO _ hx.Caches,M.bB.kO _ hx.bB,M.aE.kO _ hx.aE]
theorem M.aCm.lU (xs:List M.aA) (hx:(xs.length≤maxLen ∧ ∀y∈xs,M.aA.ok y)):Sz (tM xs) ((xs.length+aF M.aA.sz xs)):=by
 intro l a b
 unfold tM
 exact (Sz.aEv hx.1 (fun x h=>M.aA.lU x (hx.2 x h)) (fun _ _ _=>rfl)) l a b
theorem M.aCm.kS (xs:List M.aA) (hx:(xs.length≤maxLen ∧ ∀y∈xs,M.aA.ok y)) (hs:(xs.length+aF M.aA.sz xs)≤1048576):uT xs=some xs:=by
 have hm:=le_max hx.1
 unfold uT
 rw [aA4 (by omega) (by omega),Option.bind_some]
 refine aAR hx.1 (fun n k r hk hr => ?_) (fun n r => ?_) fuel 0 _ (by unfold fuel;omega) (by omega) (by simp) (by simp)
 ·simp only [jX]
  rw [if_pos (aZ hk),aO hk,Option.bind_some,M.aA.kS _ (hx.2 _ (List.getElem_mem hk)) (by have:=cC (f:=M.aA.sz) (List.getElem_mem hk);omega),Option.bind_some,aO (by omega),Option.bind_some,bD (by omega),Int.toNat_natCast]
 ·simp only [jX]
  rw [if_neg (by rw [aP];simp)]
theorem M.aCm.kO (xs:List M.aA) (hx:(xs.length≤maxLen ∧ ∀y∈xs,M.aA.ok y)):uK xs xs=some true:=by
 have hm:=le_max hx.1
 unfold uK
 rw [if_neg (by simp)]
 refine aAM hx.1 (fun n k hk => ?_) (fun n => ?_) fuel 0 (by unfold fuel;omega) (by omega)
 ·simp only [jL]
  rw [if_pos (aZ hk),aO hk]
  simp [bD (show k<9223372036854775807 by omega),M.aA.kO _ (hx.2 _ (List.getElem_mem hk))]
 ·simp only [jL]
  rw [if_neg (by rw [aP];simp)]
structure M.aC.ok (x:M.aC):Prop where
 Buckets:(x.Buckets.length≤maxLen ∧ ∀y∈x.Buckets,M.aA.ok y)
def M.aC.sh:List Shp:=[.sl M.aA.sh]
theorem M.aC.cT (d:List D) (h:mT M.aC.sh d) : ∃x,d=M.aC.en x∧M.aC.ok x:=by
 simp only [M.aC.sh,mT,Has] at h
 obtain ⟨_,_,rfl,⟨_,rfl,w1,q1⟩,rfl⟩:=h
 obtain ⟨a1,rfl,e1⟩:=bE M.aA.cT q1
 exact ⟨⟨a1⟩,rfl,⟨⟨by simpa using w1,e1⟩⟩⟩
def M.aC.sz (x:M.aC):Nat:=(x.Buckets.length+aF M.aA.sz x.Buckets)
theorem M.aC.lU (x:M.aC) (hx:M.aC.ok x):Sz (sZ x) (M.aC.sz x):=by
 intro l a b
 unfold sZ M.aC.sz
 exact (Sz.call (M.aCm.lU _ hx.Buckets)) l a b
theorem M.aC.kS (x:M.aC) (hx:M.aC.ok x) (hs:M.aC.sz x≤1048576):tU x=some x:=by
 unfold M.aC.sz at hs
 unfold tU
 rw [M.aCm.kS _ hx.Buckets (by omega),Option.bind_some]
theorem M.aC.kO (x:M.aC) (hx:M.aC.ok x):uJ x x=some true:=by
 simp [uJ,M.aCm.kO _ hx.Buckets]
structure M.aN.ok (x:M.aN):Prop where
 Path:x.Path.size≤maxLen
 Version:inI x.Version
def M.aN.sh:List Shp:=[.str,.int .i64]
theorem M.aN.cT (d:List D) (h:mT M.aN.sh d) : ∃x,d=M.aN.en x∧M.aN.ok x:=by
 simp only [M.aN.sh,mT,Has] at h
 obtain ⟨_,_,rfl,⟨a1,rfl,w1⟩,_,_,rfl,⟨a2,rfl,w2⟩,rfl⟩:=h
 exact ⟨⟨a1,a2⟩,rfl,⟨w1,wf_i64 w2⟩⟩
def M.aN.sz (x:M.aN):Nat:=x.Path.size
theorem M.aN.lU (x:M.aN) (hx:M.aN.ok x):Sz (wG x) (M.aN.sz x):=by
 intro l a b
 unfold wG M.aN.sz
 exact (Sz.str hx.Path) l a b
theorem M.aN.kS (x:M.aN) (hx:M.aN.ok x) (hs:M.aN.sz x≤1048576):vY x=some x:=by
 unfold M.aN.sz at hs
 unfold vY
 rfl
theorem M.aN.kO (x:M.aN) (hx:M.aN.ok x):vZ x x=some true:=by
 simp [vZ]
theorem M.aCk.lU (xs:List M.aN) (hx:(xs.length≤maxLen ∧ ∀y∈xs,M.aN.ok y)):Sz (tO xs) ((xs.length+aF M.aN.sz xs)):=by
 intro l a b
 unfold tO
 exact (Sz.aEv hx.1 (fun x h=>M.aN.lU x (hx.2 x h)) (fun _ _ _=>rfl)) l a b
theorem M.aCk.kS (xs:List M.aN) (hx:(xs.length≤maxLen ∧ ∀y∈xs,M.aN.ok y)) (hs:(xs.length+aF M.aN.sz xs)≤1048576):tP xs=some xs:=by
 have hm:=le_max hx.1
 unfold tP
 rw [aA4 (by omega) (by omega),Option.bind_some]
 refine aAR hx.1 (fun n k r hk hr => ?_) (fun n r => ?_) fuel 0 _ (by unfold fuel;omega) (by omega) (by simp) (by simp)
 ·simp only [jW]
  rw [if_pos (aZ hk),aO hk,Option.bind_some,M.aN.kS _ (hx.2 _ (List.getElem_mem hk)) (by have:=cC (f:=M.aN.sz) (List.getElem_mem hk);omega),Option.bind_some,aO (by omega),Option.bind_some,bD (by omega),Int.toNat_natCast]
 ·simp only [jW]
  rw [if_neg (by rw [aP];simp)]
theorem M.aCk.kO (xs:List M.aN) (hx:(xs.length≤maxLen ∧ ∀y∈xs,M.aN.ok y)):uM xs xs=some true:=by
 have hm:=le_max hx.1
 unfold uM
 rw [if_neg (by simp)]
 refine aAM hx.1 (fun n k hk => ?_) (fun n => ?_) fuel 0 (by unfold fuel;omega) (by omega)
 ·simp only [jV]
  rw [if_pos (aZ hk),aO hk]
  simp [bD (show k<9223372036854775807 by omega),M.aN.kO _ (hx.2 _ (List.getElem_mem hk))]
 ·simp only [jV]
  rw [if_neg (by rw [aP];simp)]
structure M.Instr.ok (x:M.Instr):Prop where
 Kind:inI x.Kind
 R:inI x.R
 N:inI x.N
 Text:x.Text.size≤maxLen
def M.Instr.sh:List Shp:=[.int .i64,.int .i64,.int .i64,.str]
theorem M.Instr.cT (d:List D) (h:mT M.Instr.sh d) : ∃x,d=M.Instr.en x∧M.Instr.ok x:=by
 simp only [M.Instr.sh,mT,Has] at h
 obtain ⟨_,_,rfl,⟨a1,rfl,w1⟩,_,_,rfl,⟨a2,rfl,w2⟩,_,_,rfl,⟨a3,rfl,w3⟩,_,_,rfl,⟨a4,rfl,w4⟩,rfl⟩:=h
 exact ⟨⟨a1,a2,a3,a4⟩,rfl,⟨wf_i64 w1,wf_i64 w2,wf_i64 w3,w4⟩⟩
def M.Instr.sz (x:M.Instr):Nat:=x.Text.size
theorem M.Instr.lU (x:M.Instr) (hx:M.Instr.ok x):Sz (yM x) (M.Instr.sz x):=by
 intro l a b
 unfold yM M.Instr.sz
 exact (Sz.str hx.Text) l a b
theorem M.Instr.kS (x:M.Instr) (hx:M.Instr.ok x) (hs:M.Instr.sz x≤1048576):zV x=some x:=by
 unfold M.Instr.sz at hs
 unfold zV
 rfl
theorem M.Instr.kO (x:M.Instr) (hx:M.Instr.ok x):yL x x=some true:=by
 simp [yL]
theorem M.aEr.lU (xs:List M.Instr) (hx:(xs.length≤maxLen ∧ ∀y∈xs,M.Instr.ok y)):Sz (xD xs) ((xs.length+aF M.Instr.sz xs)):=by
 intro l a b
 unfold xD
 exact (Sz.aEv hx.1 (fun x h=>M.Instr.lU x (hx.2 x h)) (fun _ _ _=>rfl)) l a b
theorem M.aEr.kS (xs:List M.Instr) (hx:(xs.length≤maxLen ∧ ∀y∈xs,M.Instr.ok y)) (hs:(xs.length+aF M.Instr.sz xs)≤1048576):xT xs=some xs:=by
 have hm:=le_max hx.1
 unfold xT
 rw [aA4 (by omega) (by omega),Option.bind_some]
 refine aAR hx.1 (fun n k r hk hr => ?_) (fun n r => ?_) fuel 0 _ (by unfold fuel;omega) (by omega) (by simp) (by simp)
 ·simp only [kP]
  rw [if_pos (aZ hk),aO hk,Option.bind_some,M.Instr.kS _ (hx.2 _ (List.getElem_mem hk)) (by have:=cC (f:=M.Instr.sz) (List.getElem_mem hk);omega),Option.bind_some,aO (by omega),Option.bind_some,bD (by omega),Int.toNat_natCast]
 ·simp only [kP]
  rw [if_neg (by rw [aP];simp)]
theorem M.aEr.kO (xs:List M.Instr) (hx:(xs.length≤maxLen ∧ ∀y∈xs,M.Instr.ok y)):xA xs xs=some true:=by
 have hm:=le_max hx.1
 unfold xA
 rw [if_neg (by simp)]
 refine aAM hx.1 (fun n k hk => ?_) (fun n => ?_) fuel 0 (by unfold fuel;omega) (by omega)
 ·simp only [kV]
  rw [if_pos (aZ hk),aO hk]
  simp [bD (show k<9223372036854775807 by omega),M.Instr.kO _ (hx.2 _ (List.getElem_mem hk))]
 ·simp only [kV]
  rw [if_neg (by rw [aP];simp)]
theorem M.aK0.lU (xs:List Int) (hx:okI xs):Sz (aA7 xs) (xs.length):=by
 intro l a b
 unfold aA7
 exact (Sz.str hx.1) l a b
theorem M.aK0.kS (xs:List Int) (hx:okI xs) (hs:xs.length≤1048576):aAj xs=some xs:=by
 have hm:=le_max hx.1
 unfold aAj
 rw [aA4 (by omega) (by omega),Option.bind_some]
 refine aAR hx.1 (fun n k r hk hr => ?_) (fun n r => ?_) fuel 0 _ (by unfold fuel;omega) (by omega) (by simp) (by simp)
 ·simp only [nU]
  rw [if_pos (aZ hk),aO hk,Option.bind_some,aO (by omega),Option.bind_some,bD (by omega),Int.toNat_natCast]
 ·simp only [nU]
  rw [if_neg (by rw [aP];simp)]
theorem M.aK0.kO (xs:List Int) (hx:okI xs):aA1 xs xs=some true:=by
 have hm:=le_max hx.1
 unfold aA1
 rw [if_neg (by simp)]
 refine aAM hx.1 (fun n k hk => ?_) (fun n => ?_) fuel 0 (by unfold fuel;omega) (by omega)
 ·simp only [nP]
  rw [if_pos (aZ hk),aO hk]
  simp [bD (show k<9223372036854775807 by omega)]
 ·simp only [nP]
  rw [if_neg (by rw [aP];simp)]
structure M.Machine.ok (x:M.Machine):Prop where
 Script:(x.Script.length≤maxLen ∧ ∀y∈x.Script,M.Instr.ok y)
 Pc:inI x.Pc
 Regs:okI x.Regs
 Steps:inI x.Steps
def M.Machine.sh:List Shp:=[.sl M.Instr.sh,.int .i64,.sl [.int .i64],.int .i64,.bool,.bool]
theorem M.Machine.cT (d:List D) (h:mT M.Machine.sh d) : ∃x,d=M.Machine.en x∧M.Machine.ok x:=by
 simp only [M.Machine.sh,mT,Has] at h
 obtain ⟨_,_,rfl,⟨_,rfl,w1,q1⟩,_,_,rfl,⟨a2,rfl,w2⟩,_,_,rfl,⟨_,rfl,w3,q3⟩,_,_,rfl,⟨a4,rfl,w4⟩,_,_,rfl,⟨a5,rfl⟩,_,_,rfl,⟨a6,rfl⟩,rfl⟩:=h
 obtain ⟨a1,rfl,e1⟩:=bE M.Instr.cT q1
 obtain ⟨a3,rfl,e3⟩:=bE aPP q3
 exact ⟨⟨a1,a2,a3,a4,a5,a6⟩,rfl,⟨⟨by simpa using w1,e1⟩,wf_i64 w2,⟨by simpa using w3,e3⟩,wf_i64 w4⟩⟩
def M.Machine.sz (x:M.Machine):Nat:=(x.Script.length+aF M.Instr.sz x.Script)+(x.Regs.length)
theorem M.Machine.lU (x:M.Machine) (hx:M.Machine.ok x):Sz (uP x) (M.Machine.sz x):=by
 intro l a b
 unfold uP M.Machine.sz
 exact (Sz.sK (M.aEr.lU _ hx.Script) (Sz.call (M.aK0.lU _ hx.Regs))) l a b
theorem M.Machine.kS (x:M.Machine) (hx:M.Machine.ok x) (hs:M.Machine.sz x≤1048576):tJ x=some x:=by
 unfold M.Machine.sz at hs
 unfold tJ
 rw [M.aEr.kS _ hx.Script (by omega),Option.bind_some,M.aK0.kS _ hx.Regs (by omega),Option.bind_some]
theorem M.Machine.kO (x:M.Machine) (hx:M.Machine.ok x):sS x x=some true:=by
 simp [sS,M.aEr.kO _ hx.Script,M.aK0.kO _ hx.Regs]
structure M.bI.ok (x:M.bI):Prop where
 Id:inI x.Id
 Site:x.Site.size≤maxLen
 Top:x.Top.size≤maxLen
 Version:inI x.Version
 aN:(x.aN.length≤maxLen ∧ ∀y∈x.aN,M.aN.ok y)
 Machine:M.Machine.ok x.Machine
def M.bI.sh:List Shp:=[.int .i64,.str,.str,.int .i64,.sl M.aN.sh,.sl M.Instr.sh,.int .i64,.sl [.int .i64],.int .i64,.bool,.bool]
theorem M.bI.cT (d:List D) (h:mT M.bI.sh d) : ∃x,d=M.bI.en x∧M.bI.ok x:=by
 simp only [M.bI.sh,mT,Has] at h
 obtain ⟨_,_,rfl,⟨a1,rfl,w1⟩,_,_,rfl,⟨a2,rfl,w2⟩,_,_,rfl,⟨a3,rfl,w3⟩,_,_,rfl,⟨a4,rfl,w4⟩,_,_,rfl,⟨_,rfl,w5,q5⟩,_,_,rfl,⟨_,rfl,w6,q6⟩,_,_,rfl,⟨a7,rfl,w7⟩,_,_,rfl,⟨_,rfl,w8,q8⟩,_,_,rfl,⟨a9,rfl,w9⟩,_,_,rfl,⟨a10,rfl⟩,_,_,rfl,⟨a11,rfl⟩,rfl⟩:=h
 obtain ⟨a5,rfl,e5⟩:=bE M.aN.cT q5
 obtain ⟨a6,rfl,e6⟩:=bE M.Instr.cT q6
 obtain ⟨a8,rfl,e8⟩:=bE aPP q8
 exact ⟨⟨a1,a2,a3,a4,a5,⟨a6,a7,a8,a9,a10,a11⟩⟩,rfl,⟨wf_i64 w1,w2,w3,wf_i64 w4,⟨by simpa using w5,e5⟩,⟨⟨by simpa using w6,e6⟩,wf_i64 w7,⟨by simpa using w8,e8⟩,wf_i64 w9⟩⟩⟩
def M.bI.sz (x:M.bI):Nat:=x.Site.size+(x.Top.size+((x.aN.length+aF M.aN.sz x.aN)+(M.Machine.sz x.Machine)))
theorem M.bI.lU (x:M.bI) (hx:M.bI.ok x):Sz (aA3 x) (M.bI.sz x):=by
 intro l a b
 unfold aA3 M.bI.sz
 exact (Sz.aCE hx.Site (Sz.aCE hx.Top (Sz.sK (M.aCk.lU _ hx.aN) (Sz.call (M.Machine.lU _ hx.Machine))))) l a b
theorem M.bI.kS (x:M.bI) (hx:M.bI.ok x) (hs:M.bI.sz x≤1048576):aAa x=some x:=by
 unfold M.bI.sz at hs
 unfold aAa
 rw [M.aCk.kS _ hx.aN (by omega),Option.bind_some,M.Machine.kS _ hx.Machine (by omega),Option.bind_some]
theorem M.bI.kO (x:M.bI) (hx:M.bI.ok x):aAq x x=some true:=by
 simp [aAq,M.aCk.kO _ hx.aN,M.Machine.kO _ hx.Machine]
theorem M.aIh.lU (xs:List M.bI) (hx:(xs.length≤maxLen ∧ ∀y∈xs,M.bI.ok y)):Sz (zB xs) ((xs.length+aF M.bI.sz xs)):=by
 intro l a b
 unfold zB
 exact (Sz.aEv hx.1 (fun x h=>M.bI.lU x (hx.2 x h)) (fun _ _ _=>rfl)) l a b
theorem M.aIh.kS (xs:List M.bI) (hx:(xs.length≤maxLen ∧ ∀y∈xs,M.bI.ok y)) (hs:(xs.length+aF M.bI.sz xs)≤1048576):zC xs=some xs:=by
 have hm:=le_max hx.1
 unfold zC
 rw [aA4 (by omega) (by omega),Option.bind_some]
 refine aAR hx.1 (fun n k r hk hr => ?_) (fun n r => ?_) fuel 0 _ (by unfold fuel;omega) (by omega) (by simp) (by simp)
 ·simp only [mJ]
  rw [if_pos (aZ hk),aO hk,Option.bind_some,M.bI.kS _ (hx.2 _ (List.getElem_mem hk)) (by have:=cC (f:=M.bI.sz) (List.getElem_mem hk);omega),Option.bind_some,aO (by omega),Option.bind_some,bD (by omega),Int.toNat_natCast]
 ·simp only [mJ]
  rw [if_neg (by rw [aP];simp)]
theorem M.aIh.kO (xs:List M.bI) (hx:(xs.length≤maxLen ∧ ∀y∈xs,M.bI.ok y)):zG xs xs=some true:=by
 have hm:=le_max hx.1
 unfold zG
 rw [if_neg (by simp)]
 refine aAM hx.1 (fun n k hk => ?_) (fun n => ?_) fuel 0 (by unfold fuel;omega) (by omega)
 ·simp only [mL]
  rw [if_pos (aZ hk),aO hk]
  simp [bD (show k<9223372036854775807 by omega),M.bI.kO _ (hx.2 _ (List.getElem_mem hk))]
 ·simp only [mL]
  rw [if_neg (by rw [aP];simp)]
structure M.cG.ok (x:M.cG):Prop where
 Name:x.Name.size≤maxLen
 bI:inI x.bI
def M.cG.sh:List Shp:=[.str,.int .i64,.bool,.bool]
theorem M.cG.cT (d:List D) (h:mT M.cG.sh d) : ∃x,d=M.cG.en x∧M.cG.ok x:=by
 simp only [M.cG.sh,mT,Has] at h
 obtain ⟨_,_,rfl,⟨a1,rfl,w1⟩,_,_,rfl,⟨a2,rfl,w2⟩,_,_,rfl,⟨a3,rfl⟩,_,_,rfl,⟨a4,rfl⟩,rfl⟩:=h
 exact ⟨⟨a1,a2,a3,a4⟩,rfl,⟨w1,wf_i64 w2⟩⟩
def M.cG.sz (x:M.cG):Nat:=x.Name.size
theorem M.cG.lU (x:M.cG) (hx:M.cG.ok x):Sz (aBI x) (M.cG.sz x):=by
 intro l a b
 unfold aBI M.cG.sz
 exact (Sz.str hx.Name) l a b
theorem M.cG.kS (x:M.cG) (hx:M.cG.ok x) (hs:M.cG.sz x≤1048576):aAn x=some x:=by
 unfold M.cG.sz at hs
 unfold aAn
 rfl
theorem M.cG.kO (x:M.cG) (hx:M.cG.ok x):aA9 x x=some true:=by
 simp [aA9]
theorem M.aIm.lU (xs:List M.cG) (hx:(xs.length≤maxLen ∧ ∀y∈xs,M.cG.ok y)):Sz (yX xs) ((xs.length+aF M.cG.sz xs)):=by
 intro l a b
 unfold yX
 exact (Sz.aEv hx.1 (fun x h=>M.cG.lU x (hx.2 x h)) (fun _ _ _=>rfl)) l a b
theorem M.aIm.kS (xs:List M.cG) (hx:(xs.length≤maxLen ∧ ∀y∈xs,M.cG.ok y)) (hs:(xs.length+aF M.cG.sz xs)≤1048576):yW xs=some xs:=by
 have hm:=le_max hx.1
 unfold yW
 rw [aA4 (by omega) (by omega),Option.bind_some]
 refine aAR hx.1 (fun n k r hk hr => ?_) (fun n r => ?_) fuel 0 _ (by unfold fuel;omega) (by omega) (by simp) (by simp)
 ·simp only [mA]
  rw [if_pos (aZ hk),aO hk,Option.bind_some,M.cG.kS _ (hx.2 _ (List.getElem_mem hk)) (by have:=cC (f:=M.cG.sz) (List.getElem_mem hk);omega),Option.bind_some,aO (by omega),Option.bind_some,bD (by omega),Int.toNat_natCast]
 ·simp only [mA]
  rw [if_neg (by rw [aP];simp)]
theorem M.aIm.kO (xs:List M.cG) (hx:(xs.length≤maxLen ∧ ∀y∈xs,M.cG.ok y)):yT xs xs=some true:=by
 have hm:=le_max hx.1
 unfold yT
 rw [if_neg (by simp)]
 refine aAM hx.1 (fun n k hk => ?_) (fun n => ?_) fuel 0 (by unfold fuel;omega) (by omega)
 ·simp only [mN]
  rw [if_pos (aZ hk),aO hk]
  simp [bD (show k<9223372036854775807 by omega),M.cG.kO _ (hx.2 _ (List.getElem_mem hk))]
 ·simp only [mN]
  rw [if_neg (by rw [aP];simp)]
structure M.aR.ok (x:M.aR):Prop where
 Locks:(x.Locks.length≤maxLen ∧ ∀y∈x.Locks,M.cG.ok y)
def M.aR.sh:List Shp:=[.sl M.cG.sh]
theorem M.aR.cT (d:List D) (h:mT M.aR.sh d) : ∃x,d=M.aR.en x∧M.aR.ok x:=by
 simp only [M.aR.sh,mT,Has] at h
 obtain ⟨_,_,rfl,⟨_,rfl,w1,q1⟩,rfl⟩:=h
 obtain ⟨a1,rfl,e1⟩:=bE M.cG.cT q1
 exact ⟨⟨a1⟩,rfl,⟨⟨by simpa using w1,e1⟩⟩⟩
def M.aR.sz (x:M.aR):Nat:=(x.Locks.length+aF M.cG.sz x.Locks)
theorem M.aR.lU (x:M.aR) (hx:M.aR.ok x):Sz (oN x) (M.aR.sz x):=by
 intro l a b
 unfold oN M.aR.sz
 exact (Sz.call (M.aIm.lU _ hx.Locks)) l a b
theorem M.aR.kS (x:M.aR) (hx:M.aR.ok x) (hs:M.aR.sz x≤1048576):oO x=some x:=by
 unfold M.aR.sz at hs
 unfold oO
 rw [M.aIm.kS _ hx.Locks (by omega),Option.bind_some]
theorem M.aR.kO (x:M.aR) (hx:M.aR.ok x):oY x x=some true:=by
 simp [oY,M.aIm.kO _ hx.Locks]
structure M.fK.ok (x:M.fK):Prop where
 To:inI x.To
 From:inI x.From
 N:inI x.N
def M.fK.sh:List Shp:=[.int .i64,.int .i64,.int .i64]
theorem M.fK.cT (d:List D) (h:mT M.fK.sh d) : ∃x,d=M.fK.en x∧M.fK.ok x:=by
 simp only [M.fK.sh,mT,Has] at h
 obtain ⟨_,_,rfl,⟨a1,rfl,w1⟩,_,_,rfl,⟨a2,rfl,w2⟩,_,_,rfl,⟨a3,rfl,w3⟩,rfl⟩:=h
 exact ⟨⟨a1,a2,a3⟩,rfl,⟨wf_i64 w1,wf_i64 w2,wf_i64 w3⟩⟩
theorem M.fK.kS (x:M.fK) (hx:M.fK.ok x):aAy x=some x:=by
 unfold aAy
 rfl
theorem M.fK.kO (x:M.fK) (hx:M.fK.ok x):aBD x x=some true:=by
 simp [aBD]
theorem M.aJD.lU (xs:List M.fK) (hx:(xs.length≤maxLen ∧ ∀y∈xs,M.fK.ok y)):Sz (zI xs) (xs.length):=by
 intro l a b
 unfold zI
 exact (Sz.str hx.1) l a b
theorem M.aJD.kS (xs:List M.fK) (hx:(xs.length≤maxLen ∧ ∀y∈xs,M.fK.ok y)) (hs:xs.length≤1048576):yO xs=some xs:=by
 have hm:=le_max hx.1
 unfold yO
 rw [aA4 (by omega) (by omega),Option.bind_some]
 refine aAR hx.1 (fun n k r hk hr => ?_) (fun n r => ?_) fuel 0 _ (by unfold fuel;omega) (by omega) (by simp) (by simp)
 ·simp only [mC]
  rw [if_pos (aZ hk),aO hk,Option.bind_some,M.fK.kS _ (hx.2 _ (List.getElem_mem hk)),Option.bind_some,aO (by omega),Option.bind_some,bD (by omega),Int.toNat_natCast]
 ·simp only [mC]
  rw [if_neg (by rw [aP];simp)]
theorem M.aJD.kO (xs:List M.fK) (hx:(xs.length≤maxLen ∧ ∀y∈xs,M.fK.ok y)):zR xs xs=some true:=by
 have hm:=le_max hx.1
 unfold zR
 rw [if_neg (by simp)]
 refine aAM hx.1 (fun n k hk => ?_) (fun n => ?_) fuel 0 (by unfold fuel;omega) (by omega)
 ·simp only [mP]
  rw [if_pos (aZ hk),aO hk]
  simp [bD (show k<9223372036854775807 by omega),M.fK.kO _ (hx.2 _ (List.getElem_mem hk))]
 ·simp only [mP]
  rw [if_neg (by rw [aP];simp)]
structure M.Channel.ok (x:M.Channel):Prop where
 Mails:(x.Mails.length≤maxLen ∧ ∀y∈x.Mails,M.fK.ok y)
def M.Channel.sh:List Shp:=[.sl M.fK.sh]
theorem M.Channel.cT (d:List D) (h:mT M.Channel.sh d) : ∃x,d=M.Channel.en x∧M.Channel.ok x:=by
 simp only [M.Channel.sh,mT,Has] at h
 obtain ⟨_,_,rfl,⟨_,rfl,w1,q1⟩,rfl⟩:=h
 obtain ⟨a1,rfl,e1⟩:=bE M.fK.cT q1
 exact ⟨⟨a1⟩,rfl,⟨⟨by simpa using w1,e1⟩⟩⟩
def M.Channel.sz (x:M.Channel):Nat:=x.Mails.length
theorem M.Channel.lU (x:M.Channel) (hx:M.Channel.ok x):Sz (uL x) (M.Channel.sz x):=by
 intro l a b
 unfold uL M.Channel.sz
 exact (Sz.call (M.aJD.lU _ hx.Mails)) l a b
theorem M.Channel.kS (x:M.Channel) (hx:M.Channel.ok x) (hs:M.Channel.sz x≤1048576):tB x=some x:=by
 unfold M.Channel.sz at hs
 unfold tB
 rw [M.aJD.kS _ hx.Mails (by omega),Option.bind_some]
theorem M.Channel.kO (x:M.Channel) (hx:M.Channel.ok x):tW x x=some true:=by
 simp [tW,M.aJD.kO _ hx.Mails]
theorem M.aAY.lU (xs:List ByteArray) (hx:okS xs):Sz (sQ xs) ((xs.length+aF ByteArray.size xs)):=by
 intro l a b
 unfold sQ
 exact (Sz.strs hx (fun _ _ _=>rfl)) l a b
theorem M.aAY.kS (xs:List ByteArray) (hx:okS xs) (hs:(xs.length+aF ByteArray.size xs)≤1048576):uO xs=some xs:=by
 have hm:=le_max hx.1
 unfold uO
 rw [aA4 (by omega) (by omega),Option.bind_some]
 refine aAR hx.1 (fun n k r hk hr => ?_) (fun n r => ?_) fuel 0 _ (by unfold fuel;omega) (by omega) (by simp) (by simp)
 ·simp only [jO]
  rw [if_pos (aZ hk),aO hk,Option.bind_some,aO (by omega),Option.bind_some,bD (by omega),Int.toNat_natCast]
 ·simp only [jO]
  rw [if_neg (by rw [aP];simp)]
theorem M.aAY.kO (xs:List ByteArray) (hx:okS xs):uH xs xs=some true:=by
 have hm:=le_max hx.1
 unfold uH
 rw [if_neg (by simp)]
 refine aAM hx.1 (fun n k hk => ?_) (fun n => ?_) fuel 0 (by unfold fuel;omega) (by omega)
 ·simp only [jQ]
  rw [if_pos (aZ hk),aO hk]
  simp [bD (show k<9223372036854775807 by omega)]
 ·simp only [jQ]
  rw [if_neg (by rw [aP];simp)]
structure M.Site.ok (x:M.Site):Prop where
 Name:x.Name.size≤maxLen
 Version:inI x.Version
 Files:okS x.Files
def M.Site.sh:List Shp:=[.str,.int .i64,.sl [.str],.bool]
theorem M.Site.cT (d:List D) (h:mT M.Site.sh d) : ∃x,d=M.Site.en x∧M.Site.ok x:=by
 simp only [M.Site.sh,mT,Has] at h
 obtain ⟨_,_,rfl,⟨a1,rfl,w1⟩,_,_,rfl,⟨a2,rfl,w2⟩,_,_,rfl,⟨_,rfl,w3,q3⟩,_,_,rfl,⟨a4,rfl⟩,rfl⟩:=h
 obtain ⟨a3,rfl,e3⟩:=bE aO4 q3
 exact ⟨⟨a1,a2,a3,a4⟩,rfl,⟨w1,wf_i64 w2,⟨by simpa using w3,e3⟩⟩⟩
def M.Site.sz (x:M.Site):Nat:=x.Name.size+((x.Files.length+aF ByteArray.size x.Files))
theorem M.Site.lU (x:M.Site) (hx:M.Site.ok x):Sz (aAe x) (M.Site.sz x):=by
 intro l a b
 unfold aAe M.Site.sz
 exact (Sz.aCE hx.Name (Sz.call (M.aAY.lU _ hx.Files))) l a b
theorem M.Site.kS (x:M.Site) (hx:M.Site.ok x) (hs:M.Site.sz x≤1048576):aAu x=some x:=by
 unfold M.Site.sz at hs
 unfold aAu
 rw [M.aAY.kS _ hx.Files (by omega),Option.bind_some]
theorem M.Site.kO (x:M.Site) (hx:M.Site.ok x):aAZ x x=some true:=by
 simp [aAZ,M.aAY.kO _ hx.Files]
theorem M.aIa.lU (xs:List M.Site) (hx:(xs.length≤maxLen ∧ ∀y∈xs,M.Site.ok y)):Sz (aAF xs) ((xs.length+aF M.Site.sz xs)):=by
 intro l a b
 unfold aAF
 exact (Sz.aEv hx.1 (fun x h=>M.Site.lU x (hx.2 x h)) (fun _ _ _=>rfl)) l a b
theorem M.aIa.kS (xs:List M.Site) (hx:(xs.length≤maxLen ∧ ∀y∈xs,M.Site.ok y)) (hs:(xs.length+aF M.Site.sz xs)≤1048576):zJ xs=some xs:=by
 have hm:=le_max hx.1
 unfold zJ
 rw [aA4 (by omega) (by omega),Option.bind_some]
 refine aAR hx.1 (fun n k r hk hr => ?_) (fun n r => ?_) fuel 0 _ (by unfold fuel;omega) (by omega) (by simp) (by simp)
 ·simp only [mK]
  rw [if_pos (aZ hk),aO hk,Option.bind_some,M.Site.kS _ (hx.2 _ (List.getElem_mem hk)) (by have:=cC (f:=M.Site.sz) (List.getElem_mem hk);omega),Option.bind_some,aO (by omega),Option.bind_some,bD (by omega),Int.toNat_natCast]
 ·simp only [mK]
  rw [if_neg (by rw [aP];simp)]
theorem M.aIa.kO (xs:List M.Site) (hx:(xs.length≤maxLen ∧ ∀y∈xs,M.Site.ok y)):aAG xs xs=some true:=by
 have hm:=le_max hx.1
 unfold aAG
 rw [if_neg (by simp)]
 refine aAM hx.1 (fun n k hk => ?_) (fun n => ?_) fuel 0 (by unfold fuel;omega) (by omega)
 ·simp only [mH]
  rw [if_pos (aZ hk),aO hk]
  simp [bD (show k<9223372036854775807 by omega),M.Site.kO _ (hx.2 _ (List.getElem_mem hk))]
 ·simp only [mH]
  rw [if_neg (by rw [aP];simp)]
structure M.aJ.ok (x:M.aJ):Prop where
 Device:inI x.Device
 Seq:inI x.Seq
def M.aJ.sh:List Shp:=[.int .i64,.int .i64]
theorem M.aJ.cT (d:List D) (h:mT M.aJ.sh d) : ∃x,d=M.aJ.en x∧M.aJ.ok x:=by
 simp only [M.aJ.sh,mT,Has] at h
 obtain ⟨_,_,rfl,⟨a1,rfl,w1⟩,_,_,rfl,⟨a2,rfl,w2⟩,rfl⟩:=h
 exact ⟨⟨a1,a2⟩,rfl,⟨wf_i64 w1,wf_i64 w2⟩⟩
theorem M.aJ.kS (x:M.aJ) (hx:M.aJ.ok x):uI x=some x:=by
 unfold uI
 rfl
theorem M.aJ.kO (x:M.aJ) (hx:M.aJ.ok x):tE x x=some true:=by
 simp [tE]
theorem M.aB0.lU (xs:List M.aJ) (hx:(xs.length≤maxLen ∧ ∀y∈xs,M.aJ.ok y)):Sz (qT xs) (xs.length):=by
 intro l a b
 unfold qT
 exact (Sz.str hx.1) l a b
theorem M.aB0.kS (xs:List M.aJ) (hx:(xs.length≤maxLen ∧ ∀y∈xs,M.aJ.ok y)) (hs:xs.length≤1048576):rE xs=some xs:=by
 have hm:=le_max hx.1
 unfold rE
 rw [aA4 (by omega) (by omega),Option.bind_some]
 refine aAR hx.1 (fun n k r hk hr => ?_) (fun n r => ?_) fuel 0 _ (by unfold fuel;omega) (by omega) (by simp) (by simp)
 ·simp only [jD]
  rw [if_pos (aZ hk),aO hk,Option.bind_some,M.aJ.kS _ (hx.2 _ (List.getElem_mem hk)),Option.bind_some,aO (by omega),Option.bind_some,bD (by omega),Int.toNat_natCast]
 ·simp only [jD]
  rw [if_neg (by rw [aP];simp)]
theorem M.aB0.kO (xs:List M.aJ) (hx:(xs.length≤maxLen ∧ ∀y∈xs,M.aJ.ok y)):qJ xs xs=some true:=by
 have hm:=le_max hx.1
 unfold qJ
 rw [if_neg (by simp)]
 refine aAM hx.1 (fun n k hk => ?_) (fun n => ?_) fuel 0 (by unfold fuel;omega) (by omega)
 ·simp only [jC]
  rw [if_pos (aZ hk),aO hk]
  simp [bD (show k<9223372036854775807 by omega),M.aJ.kO _ (hx.2 _ (List.getElem_mem hk))]
 ·simp only [jC]
  rw [if_neg (by rw [aP];simp)]
structure M.Server.ok (x:M.Server):Prop where
 aH:M.aH.ok x.aH
 aJ:(x.aJ.length≤maxLen ∧ ∀y∈x.aJ,M.aJ.ok y)
 Changes:(x.Changes.length≤maxLen ∧ ∀y∈x.Changes,M.aY.ok y)
def M.Server.sh:List Shp:=[.str,.sl M.Item.sh,.int .i64,.sl M.aJ.sh,.sl M.aY.sh]
theorem M.Server.cT (d:List D) (h:mT M.Server.sh d) : ∃x,d=M.Server.en x∧M.Server.ok x:=by
 simp only [M.Server.sh,mT,Has] at h
 obtain ⟨_,_,rfl,⟨a1,rfl,w1⟩,_,_,rfl,⟨_,rfl,w2,q2⟩,_,_,rfl,⟨a3,rfl,w3⟩,_,_,rfl,⟨_,rfl,w4,q4⟩,_,_,rfl,⟨_,rfl,w5,q5⟩,rfl⟩:=h
 obtain ⟨a2,rfl,e2⟩:=bE M.Item.cT q2
 obtain ⟨a4,rfl,e4⟩:=bE M.aJ.cT q4
 obtain ⟨a5,rfl,e5⟩:=bE M.aY.cT q5
 exact ⟨⟨⟨a1,a2,a3⟩,a4,a5⟩,rfl,⟨⟨w1,⟨by simpa using w2,e2⟩,wf_i64 w3⟩,⟨by simpa using w4,e4⟩,⟨by simpa using w5,e5⟩⟩⟩
def M.Server.sz (x:M.Server):Nat:=M.aH.sz x.aH+(x.aJ.length+((x.Changes.length+aF M.aY.sz x.Changes)))
theorem M.Server.lU (x:M.Server) (hx:M.Server.ok x):Sz (wA x) (M.Server.sz x):=by
 intro l a b
 unfold wA M.Server.sz
 exact (Sz.sK (M.aH.lU _ hx.aH) (Sz.sK (M.aB0.lU _ hx.aJ) (Sz.call (M.aCG.lU _ hx.Changes)))) l a b
theorem M.Server.kS (x:M.Server) (hx:M.Server.ok x) (hs:M.Server.sz x≤1048576):xQ x=some x:=by
 unfold M.Server.sz at hs
 unfold xQ
 rw [M.aH.kS _ hx.aH (by omega),Option.bind_some,M.aB0.kS _ hx.aJ (by omega),Option.bind_some,M.aCG.kS _ hx.Changes (by omega),Option.bind_some]
theorem M.Server.kO (x:M.Server) (hx:M.Server.ok x):wL x x=some true:=by
 simp [wL,M.aH.kO _ hx.aH,M.aB0.kO _ hx.aJ,M.aCG.kO _ hx.Changes]
theorem M.aCn.lU (xs:List M.Server) (hx:(xs.length≤maxLen ∧ ∀y∈xs,M.Server.ok y)):Sz (uV xs) ((xs.length+aF M.Server.sz xs)):=by
 intro l a b
 unfold uV
 exact (Sz.aEv hx.1 (fun x h=>M.Server.lU x (hx.2 x h)) (fun _ _ _=>rfl)) l a b
theorem M.aCn.kS (xs:List M.Server) (hx:(xs.length≤maxLen ∧ ∀y∈xs,M.Server.ok y)) (hs:(xs.length+aF M.Server.sz xs)≤1048576):tQ xs=some xs:=by
 have hm:=le_max hx.1
 unfold tQ
 rw [aA4 (by omega) (by omega),Option.bind_some]
 refine aAR hx.1 (fun n k r hk hr => ?_) (fun n r => ?_) fuel 0 _ (by unfold fuel;omega) (by omega) (by simp) (by simp)
 ·simp only [jT]
  rw [if_pos (aZ hk),aO hk,Option.bind_some,M.Server.kS _ (hx.2 _ (List.getElem_mem hk)) (by have:=cC (f:=M.Server.sz) (List.getElem_mem hk);omega),Option.bind_some,aO (by omega),Option.bind_some,bD (by omega),Int.toNat_natCast]
 ·simp only [jT]
  rw [if_neg (by rw [aP];simp)]
theorem M.aCn.kO (xs:List M.Server) (hx:(xs.length≤maxLen ∧ ∀y∈xs,M.Server.ok y)):uF xs xs=some true:=by
 have hm:=le_max hx.1
 unfold uF
 rw [if_neg (by simp)]
 refine aAM hx.1 (fun n k hk => ?_) (fun n => ?_) fuel 0 (by unfold fuel;omega) (by omega)
 ·simp only [jP]
  rw [if_pos (aZ hk),aO hk]
  simp [bD (show k<9223372036854775807 by omega),M.Server.kO _ (hx.2 _ (List.getElem_mem hk))]
 ·simp only [jP]
  rw [if_neg (by rw [aP];simp)]
structure M.World.ok (x:M.World):Prop where
 Now:inI x.Now
 Device:inI x.Device
 aC:M.aC.ok x.aC
 Pages:(x.Pages.length≤maxLen ∧ ∀y∈x.Pages,M.bI.ok y)
 NextPage:inI x.NextPage
 Locks:M.aR.ok x.Locks
 Channel:M.Channel.ok x.Channel
 Sites:(x.Sites.length≤maxLen ∧ ∀y∈x.Sites,M.Site.ok y)
 Servers:(x.Servers.length≤maxLen ∧ ∀y∈x.Servers,M.Server.ok y)
def M.World.sh:List Shp:=[.int .i64,.bool,.int .i64,.sl M.aA.sh,.sl M.bI.sh,.int .i64,.sl M.cG.sh,.sl M.fK.sh,.sl M.Site.sh,.sl M.Server.sh]
theorem M.World.cT (d:List D) (h:mT M.World.sh d) : ∃x,d=M.World.en x∧M.World.ok x:=by
 simp only [M.World.sh,mT,Has] at h
 obtain ⟨_,_,rfl,⟨a1,rfl,w1⟩,_,_,rfl,⟨a2,rfl⟩,_,_,rfl,⟨a3,rfl,w3⟩,_,_,rfl,⟨_,rfl,w4,q4⟩,_,_,rfl,⟨_,rfl,w5,q5⟩,_,_,rfl,⟨a6,rfl,w6⟩,_,_,rfl,⟨_,rfl,w7,q7⟩,_,_,rfl,⟨_,rfl,w8,q8⟩,_,_,rfl,⟨_,rfl,w9,q9⟩,_,_,rfl,⟨_,rfl,w10,q10⟩,rfl⟩:=h
 obtain ⟨a4,rfl,e4⟩:=bE M.aA.cT q4
 obtain ⟨a5,rfl,e5⟩:=bE M.bI.cT q5
 obtain ⟨a7,rfl,e7⟩:=bE M.cG.cT q7
 obtain ⟨a8,rfl,e8⟩:=bE M.fK.cT q8
 obtain ⟨a9,rfl,e9⟩:=bE M.Site.cT q9
 obtain ⟨a10,rfl,e10⟩:=bE M.Server.cT q10
 exact ⟨⟨a1,a2,a3,⟨a4⟩,a5,a6,⟨a7⟩,⟨a8⟩,a9,a10⟩,rfl,⟨wf_i64 w1,wf_i64 w3,⟨⟨by simpa using w4,e4⟩⟩,⟨by simpa using w5,e5⟩,wf_i64 w6,⟨⟨by simpa using w7,e7⟩⟩,⟨⟨by simpa using w8,e8⟩⟩,⟨by simpa using w9,e9⟩,⟨by simpa using w10,e10⟩⟩⟩
def M.World.sz (x:M.World):Nat:=M.aC.sz x.aC+((x.Pages.length+aF M.bI.sz x.Pages)+(M.aR.sz x.Locks+(M.Channel.sz x.Channel+((x.Sites.length+aF M.Site.sz x.Sites)+((x.Servers.length+aF M.Server.sz x.Servers))))))
theorem M.World.lU (x:M.World) (hx:M.World.ok x):Sz (zD x) (M.World.sz x):=by
 intro l a b
 unfold zD M.World.sz
 exact (Sz.sK (M.aC.lU _ hx.aC) (Sz.sK (M.aIh.lU _ hx.Pages) (Sz.sK (M.aR.lU _ hx.Locks) (Sz.sK (M.Channel.lU _ hx.Channel) (Sz.sK (M.aIa.lU _ hx.Sites) (Sz.call (M.aCn.lU _ hx.Servers))))))) l a b
theorem M.World.kS (x:M.World) (hx:M.World.ok x) (hs:M.World.sz x≤1048576):lZ x=some x:=by
 unfold M.World.sz at hs
 unfold lZ
 rw [M.aC.kS _ hx.aC (by omega),Option.bind_some,M.aIh.kS _ hx.Pages (by omega),Option.bind_some,M.aR.kS _ hx.Locks (by omega),Option.bind_some,M.Channel.kS _ hx.Channel (by omega),Option.bind_some,M.aIa.kS _ hx.Sites (by omega),Option.bind_some,M.aCn.kS _ hx.Servers (by omega),Option.bind_some]
theorem M.World.kO (x:M.World) (hx:M.World.ok x):lY x x=some true:=by
 simp [lY,M.aC.kO _ hx.aC,M.aIh.kO _ hx.Pages,M.aR.kO _ hx.Locks,M.Channel.kO _ hx.Channel,M.aIa.kO _ hx.Sites,M.aCn.kO _ hx.Servers]
end Go.Proofs.YtnhpbpnhmapeeaaGreat.gen
