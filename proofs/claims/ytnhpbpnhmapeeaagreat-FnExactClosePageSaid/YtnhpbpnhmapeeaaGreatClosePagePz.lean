/-
  Helper text. No conditions.
-/
import Derived.Test.YtnhpbpnhmapeeaaGreatClosePageMod
namespace Go.Proofs.YtnhpbpnhmapeeaaGreat.gen
open Go Go.Sh
set_option linter.unusedVariables false
set_option linter.unusedSimpArgs false
structure M.Registration.ok (x:M.Registration):Prop where
 Site:x.Site.size≤maxLen
 Installing:inI x.Installing
 Waiting:inI x.Waiting
 Active:inI x.Active
def M.Registration.sh:List Shp:=[.str,.int .i64,.int .i64,.int .i64]
theorem M.Registration.cT (d:List D) (h:mL M.Registration.sh d) : ∃x,d=M.Registration.en x∧M.Registration.ok x:=by
 simp only [M.Registration.sh,mL,Has] at h
 obtain ⟨_,_,rfl,⟨a1,rfl,w1⟩,_,_,rfl,⟨a2,rfl,w2⟩,_,_,rfl,⟨a3,rfl,w3⟩,_,_,rfl,⟨a4,rfl,w4⟩,rfl⟩:=h
 exact ⟨⟨a1,a2,a3,a4⟩,rfl,⟨w1,wf_i64 w2,wf_i64 w3,wf_i64 w4⟩⟩
def M.Registration.sz (x:M.Registration):Nat:=x.Site.size
theorem M.Registration.lI (x:M.Registration) (hx:M.Registration.ok x):Sz (jX x) (M.Registration.sz x):=by
 intro l a b
 unfold jX M.Registration.sz
 exact (Sz.str hx.Site) l a b
theorem M.Registration.kI (x:M.Registration) (hx:M.Registration.ok x) (hs:M.Registration.sz x≤1048576):kC x=some x:=by
 unfold M.Registration.sz at hs
 unfold kC
 rfl
theorem M.Registration.kE (x:M.Registration) (hx:M.Registration.ok x):kD x x=some true:=by
 simp [kD]
theorem M.aCD.lI (xs:List Int) (hx:okB xs):Sz (uJ xs) (xs.length):=by
 intro l a b
 unfold uJ
 exact (Sz.str hx.1) l a b
theorem M.aCD.kI (xs:List Int) (hx:okB xs) (hs:xs.length≤1048576):uM xs=some xs:=by
 have hm:=le_max hx.1
 unfold uM
 rw [aAn (by omega) (by omega),Option.bind_some]
 refine aAB hx.1 (fun n k r hk hr => ?_) (fun n r => ?_) fuel 0 _ (by unfold fuel;omega) (by omega) (by simp) (by simp)
 ·simp only [mD]
  rw [if_pos (aZ hk),aO hk,Option.bind_some,aO (by omega),Option.bind_some,bB (by omega),Int.toNat_natCast]
 ·simp only [mD]
  rw [if_neg (by rw [aP];simp)]
theorem M.aCD.kE (xs:List Int) (hx:okB xs):uO xs xs=some true:=by
 have hm:=le_max hx.1
 unfold uO
 rw [if_neg (by simp)]
 refine zW hx.1 (fun n k hk => ?_) (fun n => ?_) fuel 0 (by unfold fuel;omega) (by omega)
 ·simp only [lX]
  rw [if_pos (aZ hk),aO hk]
  simp [bB (show k<9223372036854775807 by omega)]
 ·simp only [lX]
  rw [if_neg (by rw [aP];simp)]
structure M.Response.ok (x:M.Response):Prop where
 Type_:inI x.Type_
 Status:inI x.Status
 Version:inI x.Version
 Body:okB x.Body
def M.Response.sh:List Shp:=[.int .i64,.int .i64,.int .i64,.sl [.int .u8],.bool]
theorem M.Response.cT (d:List D) (h:mL M.Response.sh d) : ∃x,d=M.Response.en x∧M.Response.ok x:=by
 simp only [M.Response.sh,mL,Has] at h
 obtain ⟨_,_,rfl,⟨a1,rfl,w1⟩,_,_,rfl,⟨a2,rfl,w2⟩,_,_,rfl,⟨a3,rfl,w3⟩,_,_,rfl,⟨_,rfl,w4,q4⟩,_,_,rfl,⟨a5,rfl⟩,rfl⟩:=h
 obtain ⟨a4,rfl,e4⟩:=bC aNP q4
 exact ⟨⟨a1,a2,a3,a4,a5⟩,rfl,⟨wf_i64 w1,wf_i64 w2,wf_i64 w3,⟨by simpa using w4,e4⟩⟩⟩
def M.Response.sz (x:M.Response):Nat:=x.Body.length
theorem M.Response.lI (x:M.Response) (hx:M.Response.ok x):Sz (qK x) (M.Response.sz x):=by
 intro l a b
 unfold qK M.Response.sz
 exact (Sz.call (M.aCD.lI _ hx.Body)) l a b
theorem M.Response.kI (x:M.Response) (hx:M.Response.ok x) (hs:M.Response.sz x≤1048576):qB x=some x:=by
 unfold M.Response.sz at hs
 unfold qB
 rw [M.aCD.kI _ hx.Body (by omega),Option.bind_some]
theorem M.Response.kE (x:M.Response) (hx:M.Response.ok x):qR x x=some true:=by
 simp [qR,M.aCD.kE _ hx.Body]
structure M.Cached.ok (x:M.Cached):Prop where
 Site:x.Site.size≤maxLen
 Path:x.Path.size≤maxLen
 Response:M.Response.ok x.Response
def M.Cached.sh:List Shp:=[.str,.str,.int .i64,.int .i64,.int .i64,.sl [.int .u8],.bool]
theorem M.Cached.cT (d:List D) (h:mL M.Cached.sh d) : ∃x,d=M.Cached.en x∧M.Cached.ok x:=by
 simp only [M.Cached.sh,mL,Has] at h
 obtain ⟨_,_,rfl,⟨a1,rfl,w1⟩,_,_,rfl,⟨a2,rfl,w2⟩,_,_,rfl,⟨a3,rfl,w3⟩,_,_,rfl,⟨a4,rfl,w4⟩,_,_,rfl,⟨a5,rfl,w5⟩,_,_,rfl,⟨_,rfl,w6,q6⟩,_,_,rfl,⟨a7,rfl⟩,rfl⟩:=h
 obtain ⟨a6,rfl,e6⟩:=bC aNP q6
 exact ⟨⟨a1,a2,⟨a3,a4,a5,a6,a7⟩⟩,rfl,⟨w1,w2,⟨wf_i64 w3,wf_i64 w4,wf_i64 w5,⟨by simpa using w6,e6⟩⟩⟩⟩
def M.Cached.sz (x:M.Cached):Nat:=x.Site.size+(x.Path.size+(M.Response.sz x.Response))
theorem M.Cached.lI (x:M.Cached) (hx:M.Cached.ok x):Sz (vM x) (M.Cached.sz x):=by
 intro l a b
 unfold vM M.Cached.sz
 exact (Sz.aBo hx.Site (Sz.aBo hx.Path (Sz.call (M.Response.lI _ hx.Response)))) l a b
theorem M.Cached.kI (x:M.Cached) (hx:M.Cached.ok x) (hs:M.Cached.sz x≤1048576):wC x=some x:=by
 unfold M.Cached.sz at hs
 unfold wC
 rw [M.Response.kI _ hx.Response (by omega),Option.bind_some]
theorem M.Cached.kE (x:M.Cached) (hx:M.Cached.ok x):wD x x=some true:=by
 simp [wD,M.Response.kE _ hx.Response]
theorem M.aCF.lI (xs:List M.Cached) (hx:(xs.length≤maxLen ∧ ∀y∈xs,M.Cached.ok y)):Sz (sQ xs) ((xs.length+aC M.Cached.sz xs)):=by
 intro l a b
 unfold sQ
 exact (Sz.aES hx.1 (fun x h=>M.Cached.lI x (hx.2 x h)) (fun _ _ _=>rfl)) l a b
theorem M.aCF.kI (xs:List M.Cached) (hx:(xs.length≤maxLen ∧ ∀y∈xs,M.Cached.ok y)) (hs:(xs.length+aC M.Cached.sz xs)≤1048576):tL xs=some xs:=by
 have hm:=le_max hx.1
 unfold tL
 rw [aAn (by omega) (by omega),Option.bind_some]
 refine aAB hx.1 (fun n k r hk hr => ?_) (fun n r => ?_) fuel 0 _ (by unfold fuel;omega) (by omega) (by simp) (by simp)
 ·simp only [jI]
  rw [if_pos (aZ hk),aO hk,Option.bind_some,M.Cached.kI _ (hx.2 _ (List.getElem_mem hk)) (by have:=dJ (f:=M.Cached.sz) (List.getElem_mem hk);omega),Option.bind_some,aO (by omega),Option.bind_some,bB (by omega),Int.toNat_natCast]
 ·simp only [jI]
  rw [if_neg (by rw [aP];simp)]
theorem M.aCF.kE (xs:List M.Cached) (hx:(xs.length≤maxLen ∧ ∀y∈xs,M.Cached.ok y)):tA xs xs=some true:=by
 have hm:=le_max hx.1
 unfold tA
 rw [if_neg (by simp)]
 refine zW hx.1 (fun n k hk => ?_) (fun n => ?_) fuel 0 (by unfold fuel;omega) (by omega)
 ·simp only [jO]
  rw [if_pos (aZ hk),aO hk]
  simp [bB (show k<9223372036854775807 by omega),M.Cached.kE _ (hx.2 _ (List.getElem_mem hk))]
 ·simp only [jO]
  rw [if_neg (by rw [aP];simp)]
structure M.Cache.ok (x:M.Cache):Prop where
 Version:inI x.Version
 Entries:(x.Entries.length≤maxLen ∧ ∀y∈x.Entries,M.Cached.ok y)
def M.Cache.sh:List Shp:=[.int .i64,.sl M.Cached.sh]
theorem M.Cache.cT (d:List D) (h:mL M.Cache.sh d) : ∃x,d=M.Cache.en x∧M.Cache.ok x:=by
 simp only [M.Cache.sh,mL,Has] at h
 obtain ⟨_,_,rfl,⟨a1,rfl,w1⟩,_,_,rfl,⟨_,rfl,w2,q2⟩,rfl⟩:=h
 obtain ⟨a2,rfl,e2⟩:=bC M.Cached.cT q2
 exact ⟨⟨a1,a2⟩,rfl,⟨wf_i64 w1,⟨by simpa using w2,e2⟩⟩⟩
def M.Cache.sz (x:M.Cache):Nat:=(x.Entries.length+aC M.Cached.sz x.Entries)
theorem M.Cache.lI (x:M.Cache) (hx:M.Cache.ok x):Sz (zB x) (M.Cache.sz x):=by
 intro l a b
 unfold zB M.Cache.sz
 exact (Sz.call (M.aCF.lI _ hx.Entries)) l a b
theorem M.Cache.kI (x:M.Cache) (hx:M.Cache.ok x) (hs:M.Cache.sz x≤1048576):yD x=some x:=by
 unfold M.Cache.sz at hs
 unfold yD
 rw [M.aCF.kI _ hx.Entries (by omega),Option.bind_some]
theorem M.Cache.kE (x:M.Cache) (hx:M.Cache.ok x):zF x x=some true:=by
 simp [zF,M.aCF.kE _ hx.Entries]
theorem M.aEA.lI (xs:List M.Cache) (hx:(xs.length≤maxLen ∧ ∀y∈xs,M.Cache.ok y)):Sz (wX xs) ((xs.length+aC M.Cache.sz xs)):=by
 intro l a b
 unfold wX
 exact (Sz.aES hx.1 (fun x h=>M.Cache.lI x (hx.2 x h)) (fun _ _ _=>rfl)) l a b
theorem M.aEA.kI (xs:List M.Cache) (hx:(xs.length≤maxLen ∧ ∀y∈xs,M.Cache.ok y)) (hs:(xs.length+aC M.Cache.sz xs)≤1048576):wN xs=some xs:=by
 have hm:=le_max hx.1
 unfold wN
 rw [aAn (by omega) (by omega),Option.bind_some]
 refine aAB hx.1 (fun n k r hk hr => ?_) (fun n r => ?_) fuel 0 _ (by unfold fuel;omega) (by omega) (by simp) (by simp)
 ·simp only [kS]
  rw [if_pos (aZ hk),aO hk,Option.bind_some,M.Cache.kI _ (hx.2 _ (List.getElem_mem hk)) (by have:=dJ (f:=M.Cache.sz) (List.getElem_mem hk);omega),Option.bind_some,aO (by omega),Option.bind_some,bB (by omega),Int.toNat_natCast]
 ·simp only [kS]
  rw [if_neg (by rw [aP];simp)]
theorem M.aEA.kE (xs:List M.Cache) (hx:(xs.length≤maxLen ∧ ∀y∈xs,M.Cache.ok y)):wM xs xs=some true:=by
 have hm:=le_max hx.1
 unfold wM
 rw [if_neg (by simp)]
 refine zW hx.1 (fun n k hk => ?_) (fun n => ?_) fuel 0 (by unfold fuel;omega) (by omega)
 ·simp only [kN]
  rw [if_pos (aZ hk),aO hk]
  simp [bB (show k<9223372036854775807 by omega),M.Cache.kE _ (hx.2 _ (List.getElem_mem hk))]
 ·simp only [kN]
  rw [if_neg (by rw [aP];simp)]
structure M.aT.ok (x:M.aT):Prop where
 Caches:(x.Caches.length≤maxLen ∧ ∀y∈x.Caches,M.Cache.ok y)
def M.aT.sh:List Shp:=[.sl M.Cache.sh]
theorem M.aT.cT (d:List D) (h:mL M.aT.sh d) : ∃x,d=M.aT.en x∧M.aT.ok x:=by
 simp only [M.aT.sh,mL,Has] at h
 obtain ⟨_,_,rfl,⟨_,rfl,w1,q1⟩,rfl⟩:=h
 obtain ⟨a1,rfl,e1⟩:=bC M.Cache.cT q1
 exact ⟨⟨a1⟩,rfl,⟨⟨by simpa using w1,e1⟩⟩⟩
def M.aT.sz (x:M.aT):Nat:=(x.Caches.length+aC M.Cache.sz x.Caches)
theorem M.aT.lI (x:M.aT) (hx:M.aT.ok x):Sz (rF x) (M.aT.sz x):=by
 intro l a b
 unfold rF M.aT.sz
 exact (Sz.call (M.aEA.lI _ hx.Caches)) l a b
theorem M.aT.kI (x:M.aT) (hx:M.aT.ok x) (hs:M.aT.sz x≤1048576):qH x=some x:=by
 unfold M.aT.sz at hs
 unfold qH
 rw [M.aEA.kI _ hx.Caches (by omega),Option.bind_some]
theorem M.aT.kE (x:M.aT) (hx:M.aT.ok x):qG x x=some true:=by
 simp [qG,M.aEA.kE _ hx.Caches]
structure M.Key.ok (x:M.Key):Prop where
 Kind:inI x.Kind
 N:inI x.N
 Text:x.Text.size≤maxLen
def M.Key.sh:List Shp:=[.int .i64,.int .i64,.str]
theorem M.Key.cT (d:List D) (h:mL M.Key.sh d) : ∃x,d=M.Key.en x∧M.Key.ok x:=by
 simp only [M.Key.sh,mL,Has] at h
 obtain ⟨_,_,rfl,⟨a1,rfl,w1⟩,_,_,rfl,⟨a2,rfl,w2⟩,_,_,rfl,⟨a3,rfl,w3⟩,rfl⟩:=h
 exact ⟨⟨a1,a2,a3⟩,rfl,⟨wf_i64 w1,wf_i64 w2,w3⟩⟩
def M.Key.sz (x:M.Key):Nat:=x.Text.size
theorem M.Key.lI (x:M.Key) (hx:M.Key.ok x):Sz (aAC x) (M.Key.sz x):=by
 intro l a b
 unfold aAC M.Key.sz
 exact (Sz.str hx.Text) l a b
theorem M.Key.kI (x:M.Key) (hx:M.Key.ok x) (hs:M.Key.sz x≤1048576):zZ x=some x:=by
 unfold M.Key.sz at hs
 unfold zZ
 rfl
theorem M.Key.kE (x:M.Key) (hx:M.Key.ok x):aAA x x=some true:=by
 simp [aAA]
structure M.Field.ok (x:M.Field):Prop where
 Name:x.Name.size≤maxLen
 N:inI x.N
def M.Field.sh:List Shp:=[.str,.int .i64]
theorem M.Field.cT (d:List D) (h:mL M.Field.sh d) : ∃x,d=M.Field.en x∧M.Field.ok x:=by
 simp only [M.Field.sh,mL,Has] at h
 obtain ⟨_,_,rfl,⟨a1,rfl,w1⟩,_,_,rfl,⟨a2,rfl,w2⟩,rfl⟩:=h
 exact ⟨⟨a1,a2⟩,rfl,⟨w1,wf_i64 w2⟩⟩
def M.Field.sz (x:M.Field):Nat:=x.Name.size
theorem M.Field.lI (x:M.Field) (hx:M.Field.ok x):Sz (yS x) (M.Field.sz x):=by
 intro l a b
 unfold yS M.Field.sz
 exact (Sz.str hx.Name) l a b
theorem M.Field.kI (x:M.Field) (hx:M.Field.ok x) (hs:M.Field.sz x≤1048576):zD x=some x:=by
 unfold M.Field.sz at hs
 unfold zD
 rfl
theorem M.Field.kE (x:M.Field) (hx:M.Field.ok x):xU x x=some true:=by
 simp [xU]
theorem M.aEg.lI (xs:List M.Field) (hx:(xs.length≤maxLen ∧ ∀y∈xs,M.Field.ok y)):Sz (vH xs) ((xs.length+aC M.Field.sz xs)):=by
 intro l a b
 unfold vH
 exact (Sz.aES hx.1 (fun x h=>M.Field.lI x (hx.2 x h)) (fun _ _ _=>rfl)) l a b
theorem M.aEg.kI (xs:List M.Field) (hx:(xs.length≤maxLen ∧ ∀y∈xs,M.Field.ok y)) (hs:(xs.length+aC M.Field.sz xs)≤1048576):xA xs=some xs:=by
 have hm:=le_max hx.1
 unfold xA
 rw [aAn (by omega) (by omega),Option.bind_some]
 refine aAB hx.1 (fun n k r hk hr => ?_) (fun n r => ?_) fuel 0 _ (by unfold fuel;omega) (by omega) (by simp) (by simp)
 ·simp only [kG]
  rw [if_pos (aZ hk),aO hk,Option.bind_some,M.Field.kI _ (hx.2 _ (List.getElem_mem hk)) (by have:=dJ (f:=M.Field.sz) (List.getElem_mem hk);omega),Option.bind_some,aO (by omega),Option.bind_some,bB (by omega),Int.toNat_natCast]
 ·simp only [kG]
  rw [if_neg (by rw [aP];simp)]
theorem M.aEg.kE (xs:List M.Field) (hx:(xs.length≤maxLen ∧ ∀y∈xs,M.Field.ok y)):wQ xs xs=some true:=by
 have hm:=le_max hx.1
 unfold wQ
 rw [if_neg (by simp)]
 refine zW hx.1 (fun n k hk => ?_) (fun n => ?_) fuel 0 (by unfold fuel;omega) (by omega)
 ·simp only [kJ]
  rw [if_pos (aZ hk),aO hk]
  simp [bB (show k<9223372036854775807 by omega),M.Field.kE _ (hx.2 _ (List.getElem_mem hk))]
 ·simp only [kJ]
  rw [if_neg (by rw [aP];simp)]
structure M.aU.ok (x:M.aU):Prop where
 Fields:(x.Fields.length≤maxLen ∧ ∀y∈x.Fields,M.Field.ok y)
def M.aU.sh:List Shp:=[.sl M.Field.sh]
theorem M.aU.cT (d:List D) (h:mL M.aU.sh d) : ∃x,d=M.aU.en x∧M.aU.ok x:=by
 simp only [M.aU.sh,mL,Has] at h
 obtain ⟨_,_,rfl,⟨_,rfl,w1,q1⟩,rfl⟩:=h
 obtain ⟨a1,rfl,e1⟩:=bC M.Field.cT q1
 exact ⟨⟨a1⟩,rfl,⟨⟨by simpa using w1,e1⟩⟩⟩
def M.aU.sz (x:M.aU):Nat:=(x.Fields.length+aC M.Field.sz x.Fields)
theorem M.aU.lI (x:M.aU) (hx:M.aU.ok x):Sz (wW x) (M.aU.sz x):=by
 intro l a b
 unfold wW M.aU.sz
 exact (Sz.call (M.aEg.lI _ hx.Fields)) l a b
theorem M.aU.kI (x:M.aU) (hx:M.aU.ok x) (hs:M.aU.sz x≤1048576):wA x=some x:=by
 unfold M.aU.sz at hs
 unfold wA
 rw [M.aEg.kI _ hx.Fields (by omega),Option.bind_some]
theorem M.aU.kE (x:M.aU) (hx:M.aU.ok x):wS x x=some true:=by
 simp [wS,M.aEg.kE _ hx.Fields]
structure M.Item.ok (x:M.Item):Prop where
 Key:M.Key.ok x.Key
 aU:M.aU.ok x.aU
def M.Item.sh:List Shp:=[.int .i64,.int .i64,.str,.sl M.Field.sh]
theorem M.Item.cT (d:List D) (h:mL M.Item.sh d) : ∃x,d=M.Item.en x∧M.Item.ok x:=by
 simp only [M.Item.sh,mL,Has] at h
 obtain ⟨_,_,rfl,⟨a1,rfl,w1⟩,_,_,rfl,⟨a2,rfl,w2⟩,_,_,rfl,⟨a3,rfl,w3⟩,_,_,rfl,⟨_,rfl,w4,q4⟩,rfl⟩:=h
 obtain ⟨a4,rfl,e4⟩:=bC M.Field.cT q4
 exact ⟨⟨⟨a1,a2,a3⟩,⟨a4⟩⟩,rfl,⟨⟨wf_i64 w1,wf_i64 w2,w3⟩,⟨⟨by simpa using w4,e4⟩⟩⟩⟩
def M.Item.sz (x:M.Item):Nat:=M.Key.sz x.Key+(M.aU.sz x.aU)
theorem M.Item.lI (x:M.Item) (hx:M.Item.ok x):Sz (aAi x) (M.Item.sz x):=by
 intro l a b
 unfold aAi M.Item.sz
 exact (Sz.rU (M.Key.lI _ hx.Key) (Sz.call (M.aU.lI _ hx.aU))) l a b
theorem M.Item.kI (x:M.Item) (hx:M.Item.ok x) (hs:M.Item.sz x≤1048576):aAG x=some x:=by
 unfold M.Item.sz at hs
 unfold aAG
 rw [M.Key.kI _ hx.Key (by omega),Option.bind_some,M.aU.kI _ hx.aU (by omega),Option.bind_some]
theorem M.Item.kE (x:M.Item) (hx:M.Item.ok x):aAL x x=some true:=by
 simp [aAL,M.Key.kE _ hx.Key,M.aU.kE _ hx.aU]
theorem M.aEz.lI (xs:List M.Item) (hx:(xs.length≤maxLen ∧ ∀y∈xs,M.Item.ok y)):Sz (zL xs) ((xs.length+aC M.Item.sz xs)):=by
 intro l a b
 unfold zL
 exact (Sz.aES hx.1 (fun x h=>M.Item.lI x (hx.2 x h)) (fun _ _ _=>rfl)) l a b
theorem M.aEz.kI (xs:List M.Item) (hx:(xs.length≤maxLen ∧ ∀y∈xs,M.Item.ok y)) (hs:(xs.length+aC M.Item.sz xs)≤1048576):yC xs=some xs:=by
 have hm:=le_max hx.1
 unfold yC
 rw [aAn (by omega) (by omega),Option.bind_some]
 refine aAB hx.1 (fun n k r hk hr => ?_) (fun n r => ?_) fuel 0 _ (by unfold fuel;omega) (by omega) (by simp) (by simp)
 ·simp only [mI]
  rw [if_pos (aZ hk),aO hk,Option.bind_some,M.Item.kI _ (hx.2 _ (List.getElem_mem hk)) (by have:=dJ (f:=M.Item.sz) (List.getElem_mem hk);omega),Option.bind_some,aO (by omega),Option.bind_some,bB (by omega),Int.toNat_natCast]
 ·simp only [mI]
  rw [if_neg (by rw [aP];simp)]
theorem M.aEz.kE (xs:List M.Item) (hx:(xs.length≤maxLen ∧ ∀y∈xs,M.Item.ok y)):zK xs xs=some true:=by
 have hm:=le_max hx.1
 unfold zK
 rw [if_neg (by simp)]
 refine zW hx.1 (fun n k hk => ?_) (fun n => ?_) fuel 0 (by unfold fuel;omega) (by omega)
 ·simp only [lU]
  rw [if_pos (aZ hk),aO hk]
  simp [bB (show k<9223372036854775807 by omega),M.Item.kE _ (hx.2 _ (List.getElem_mem hk))]
 ·simp only [lU]
  rw [if_neg (by rw [aP];simp)]
structure M.aH.ok (x:M.aH):Prop where
 Name:x.Name.size≤maxLen
 Items:(x.Items.length≤maxLen ∧ ∀y∈x.Items,M.Item.ok y)
 Auto:inI x.Auto
def M.aH.sh:List Shp:=[.str,.sl M.Item.sh,.int .i64]
theorem M.aH.cT (d:List D) (h:mL M.aH.sh d) : ∃x,d=M.aH.en x∧M.aH.ok x:=by
 simp only [M.aH.sh,mL,Has] at h
 obtain ⟨_,_,rfl,⟨a1,rfl,w1⟩,_,_,rfl,⟨_,rfl,w2,q2⟩,_,_,rfl,⟨a3,rfl,w3⟩,rfl⟩:=h
 obtain ⟨a2,rfl,e2⟩:=bC M.Item.cT q2
 exact ⟨⟨a1,a2,a3⟩,rfl,⟨w1,⟨by simpa using w2,e2⟩,wf_i64 w3⟩⟩
def M.aH.sz (x:M.aH):Nat:=x.Name.size+((x.Items.length+aC M.Item.sz x.Items))
theorem M.aH.lI (x:M.aH) (hx:M.aH.ok x):Sz (pC x) (M.aH.sz x):=by
 intro l a b
 unfold pC M.aH.sz
 exact (Sz.aBo hx.Name (Sz.call (M.aEz.lI _ hx.Items))) l a b
theorem M.aH.kI (x:M.aH) (hx:M.aH.ok x) (hs:M.aH.sz x≤1048576):pI x=some x:=by
 unfold M.aH.sz at hs
 unfold pI
 rw [M.aEz.kI _ hx.Items (by omega),Option.bind_some]
theorem M.aH.kE (x:M.aH) (hx:M.aH.ok x):pH x x=some true:=by
 simp [pH,M.aEz.kE _ hx.Items]
theorem M.aDx.lI (xs:List M.aH) (hx:(xs.length≤maxLen ∧ ∀y∈xs,M.aH.ok y)):Sz (wH xs) ((xs.length+aC M.aH.sz xs)):=by
 intro l a b
 unfold wH
 exact (Sz.aES hx.1 (fun x h=>M.aH.lI x (hx.2 x h)) (fun _ _ _=>rfl)) l a b
theorem M.aDx.kI (xs:List M.aH) (hx:(xs.length≤maxLen ∧ ∀y∈xs,M.aH.ok y)) (hs:(xs.length+aC M.aH.sz xs)≤1048576):vT xs=some xs:=by
 have hm:=le_max hx.1
 unfold vT
 rw [aAn (by omega) (by omega),Option.bind_some]
 refine aAB hx.1 (fun n k r hk hr => ?_) (fun n r => ?_) fuel 0 _ (by unfold fuel;omega) (by omega) (by simp) (by simp)
 ·simp only [kO]
  rw [if_pos (aZ hk),aO hk,Option.bind_some,M.aH.kI _ (hx.2 _ (List.getElem_mem hk)) (by have:=dJ (f:=M.aH.sz) (List.getElem_mem hk);omega),Option.bind_some,aO (by omega),Option.bind_some,bB (by omega),Int.toNat_natCast]
 ·simp only [kO]
  rw [if_neg (by rw [aP];simp)]
theorem M.aDx.kE (xs:List M.aH) (hx:(xs.length≤maxLen ∧ ∀y∈xs,M.aH.ok y)):vG xs xs=some true:=by
 have hm:=le_max hx.1
 unfold vG
 rw [if_neg (by simp)]
 refine zW hx.1 (fun n k hk => ?_) (fun n => ?_) fuel 0 (by unfold fuel;omega) (by omega)
 ·simp only [kH]
  rw [if_pos (aZ hk),aO hk]
  simp [bB (show k<9223372036854775807 by omega),M.aH.kE _ (hx.2 _ (List.getElem_mem hk))]
 ·simp only [kH]
  rw [if_neg (by rw [aP];simp)]
structure M.aA.ok (x:M.aA):Prop where
 aH:x.aH.size≤maxLen
 Field:x.Field.size≤maxLen
def M.aA.sh:List Shp:=[.str,.str]
theorem M.aA.cT (d:List D) (h:mL M.aA.sh d) : ∃x,d=M.aA.en x∧M.aA.ok x:=by
 simp only [M.aA.sh,mL,Has] at h
 obtain ⟨_,_,rfl,⟨a1,rfl,w1⟩,_,_,rfl,⟨a2,rfl,w2⟩,rfl⟩:=h
 exact ⟨⟨a1,a2⟩,rfl,⟨w1,w2⟩⟩
def M.aA.sz (x:M.aA):Nat:=x.aH.size+(x.Field.size)
theorem M.aA.lI (x:M.aA) (hx:M.aA.ok x):Sz (pS x) (M.aA.sz x):=by
 intro l a b
 unfold pS M.aA.sz
 exact (Sz.aBo hx.aH (Sz.str hx.Field)) l a b
theorem M.aA.kI (x:M.aA) (hx:M.aA.ok x) (hs:M.aA.sz x≤1048576):rA x=some x:=by
 unfold M.aA.sz at hs
 unfold rA
 rfl
theorem M.aA.kE (x:M.aA) (hx:M.aA.ok x):qU x x=some true:=by
 simp [qU]
theorem M.aA4.lI (xs:List M.aA) (hx:(xs.length≤maxLen ∧ ∀y∈xs,M.aA.ok y)):Sz (oE xs) ((xs.length+aC M.aA.sz xs)):=by
 intro l a b
 unfold oE
 exact (Sz.aES hx.1 (fun x h=>M.aA.lI x (hx.2 x h)) (fun _ _ _=>rfl)) l a b
theorem M.aA4.kI (xs:List M.aA) (hx:(xs.length≤maxLen ∧ ∀y∈xs,M.aA.ok y)) (hs:(xs.length+aC M.aA.sz xs)≤1048576):oM xs=some xs:=by
 have hm:=le_max hx.1
 unfold oM
 rw [aAn (by omega) (by omega),Option.bind_some]
 refine aAB hx.1 (fun n k r hk hr => ?_) (fun n r => ?_) fuel 0 _ (by unfold fuel;omega) (by omega) (by simp) (by simp)
 ·simp only [iC]
  rw [if_pos (aZ hk),aO hk,Option.bind_some,M.aA.kI _ (hx.2 _ (List.getElem_mem hk)) (by have:=dJ (f:=M.aA.sz) (List.getElem_mem hk);omega),Option.bind_some,aO (by omega),Option.bind_some,bB (by omega),Int.toNat_natCast]
 ·simp only [iC]
  rw [if_neg (by rw [aP];simp)]
theorem M.aA4.kE (xs:List M.aA) (hx:(xs.length≤maxLen ∧ ∀y∈xs,M.aA.ok y)):oI xs xs=some true:=by
 have hm:=le_max hx.1
 unfold oI
 rw [if_neg (by simp)]
 refine zW hx.1 (fun n k hk => ?_) (fun n => ?_) fuel 0 (by unfold fuel;omega) (by omega)
 ·simp only [iD]
  rw [if_pos (aZ hk),aO hk]
  simp [bB (show k<9223372036854775807 by omega),M.aA.kE _ (hx.2 _ (List.getElem_mem hk))]
 ·simp only [iD]
  rw [if_neg (by rw [aP];simp)]
structure M.Database.ok (x:M.Database):Prop where
 Name:x.Name.size≤maxLen
 Version:inI x.Version
 Stores:(x.Stores.length≤maxLen ∧ ∀y∈x.Stores,M.aH.ok y)
 Unique:(x.Unique.length≤maxLen ∧ ∀y∈x.Unique,M.aA.ok y)
def M.Database.sh:List Shp:=[.str,.int .i64,.sl M.aH.sh,.sl M.aA.sh]
theorem M.Database.cT (d:List D) (h:mL M.Database.sh d) : ∃x,d=M.Database.en x∧M.Database.ok x:=by
 simp only [M.Database.sh,mL,Has] at h
 obtain ⟨_,_,rfl,⟨a1,rfl,w1⟩,_,_,rfl,⟨a2,rfl,w2⟩,_,_,rfl,⟨_,rfl,w3,q3⟩,_,_,rfl,⟨_,rfl,w4,q4⟩,rfl⟩:=h
 obtain ⟨a3,rfl,e3⟩:=bC M.aH.cT q3
 obtain ⟨a4,rfl,e4⟩:=bC M.aA.cT q4
 exact ⟨⟨a1,a2,a3,a4⟩,rfl,⟨w1,wf_i64 w2,⟨by simpa using w3,e3⟩,⟨by simpa using w4,e4⟩⟩⟩
def M.Database.sz (x:M.Database):Nat:=x.Name.size+((x.Stores.length+aC M.aH.sz x.Stores)+((x.Unique.length+aC M.aA.sz x.Unique)))
theorem M.Database.lI (x:M.Database) (hx:M.Database.ok x):Sz (qY x) (M.Database.sz x):=by
 intro l a b
 unfold qY M.Database.sz
 exact (Sz.aBo hx.Name (Sz.rU (M.aDx.lI _ hx.Stores) (Sz.call (M.aA4.lI _ hx.Unique)))) l a b
theorem M.Database.kI (x:M.Database) (hx:M.Database.ok x) (hs:M.Database.sz x≤1048576):pO x=some x:=by
 unfold M.Database.sz at hs
 unfold pO
 rw [M.aDx.kI _ hx.Stores (by omega),Option.bind_some,M.aA4.kI _ hx.Unique (by omega),Option.bind_some]
theorem M.Database.kE (x:M.Database) (hx:M.Database.ok x):rC x x=some true:=by
 simp [rC,M.aDx.kE _ hx.Stores,M.aA4.kE _ hx.Unique]
structure M.bE.ok (x:M.bE):Prop where
 Base:M.Database.ok x.Base
 Log:okB x.Log
 Count:inI x.Count
def M.bE.sh:List Shp:=[.str,.int .i64,.sl M.aH.sh,.sl M.aA.sh,.sl [.int .u8],.int .i64]
theorem M.bE.cT (d:List D) (h:mL M.bE.sh d) : ∃x,d=M.bE.en x∧M.bE.ok x:=by
 simp only [M.bE.sh,mL,Has] at h
 obtain ⟨_,_,rfl,⟨a1,rfl,w1⟩,_,_,rfl,⟨a2,rfl,w2⟩,_,_,rfl,⟨_,rfl,w3,q3⟩,_,_,rfl,⟨_,rfl,w4,q4⟩,_,_,rfl,⟨_,rfl,w5,q5⟩,_,_,rfl,⟨a6,rfl,w6⟩,rfl⟩:=h
 obtain ⟨a3,rfl,e3⟩:=bC M.aH.cT q3
 obtain ⟨a4,rfl,e4⟩:=bC M.aA.cT q4
 obtain ⟨a5,rfl,e5⟩:=bC aNP q5
 exact ⟨⟨⟨a1,a2,a3,a4⟩,a5,a6⟩,rfl,⟨⟨w1,wf_i64 w2,⟨by simpa using w3,e3⟩,⟨by simpa using w4,e4⟩⟩,⟨by simpa using w5,e5⟩,wf_i64 w6⟩⟩
def M.bE.sz (x:M.bE):Nat:=M.Database.sz x.Base+(x.Log.length)
theorem M.bE.lI (x:M.bE) (hx:M.bE.ok x):Sz (aAF x) (M.bE.sz x):=by
 intro l a b
 unfold aAF M.bE.sz
 exact (Sz.rU (M.Database.lI _ hx.Base) (Sz.call (M.aCD.lI _ hx.Log))) l a b
theorem M.bE.kI (x:M.bE) (hx:M.bE.ok x) (hs:M.bE.sz x≤1048576):aAw x=some x:=by
 unfold M.bE.sz at hs
 unfold aAw
 rw [M.Database.kI _ hx.Base (by omega),Option.bind_some,M.aCD.kI _ hx.Log (by omega),Option.bind_some]
theorem M.bE.kE (x:M.bE) (hx:M.bE.ok x):aAj x x=some true:=by
 simp [aAj,M.Database.kE _ hx.Base,M.aCD.kE _ hx.Log]
structure M.aY.ok (x:M.aY):Prop where
 Device:inI x.Device
 Seq:inI x.Seq
 Key:M.Key.ok x.Key
 Field:x.Field.size≤maxLen
 N:inI x.N
def M.aY.sh:List Shp:=[.int .i64,.int .i64,.int .i64,.int .i64,.str,.str,.int .i64]
theorem M.aY.cT (d:List D) (h:mL M.aY.sh d) : ∃x,d=M.aY.en x∧M.aY.ok x:=by
 simp only [M.aY.sh,mL,Has] at h
 obtain ⟨_,_,rfl,⟨a1,rfl,w1⟩,_,_,rfl,⟨a2,rfl,w2⟩,_,_,rfl,⟨a3,rfl,w3⟩,_,_,rfl,⟨a4,rfl,w4⟩,_,_,rfl,⟨a5,rfl,w5⟩,_,_,rfl,⟨a6,rfl,w6⟩,_,_,rfl,⟨a7,rfl,w7⟩,rfl⟩:=h
 exact ⟨⟨a1,a2,⟨a3,a4,a5⟩,a6,a7⟩,rfl,⟨wf_i64 w1,wf_i64 w2,⟨wf_i64 w3,wf_i64 w4,w5⟩,w6,wf_i64 w7⟩⟩
def M.aY.sz (x:M.aY):Nat:=M.Key.sz x.Key+(x.Field.size)
theorem M.aY.lI (x:M.aY) (hx:M.aY.ok x):Sz (yZ x) (M.aY.sz x):=by
 intro l a b
 unfold yZ M.aY.sz
 exact (Sz.rU (M.Key.lI _ hx.Key) (Sz.str hx.Field)) l a b
theorem M.aY.kI (x:M.aY) (hx:M.aY.ok x) (hs:M.aY.sz x≤1048576):yP x=some x:=by
 unfold M.aY.sz at hs
 unfold yP
 rw [M.Key.kI _ hx.Key (by omega),Option.bind_some]
theorem M.aY.kE (x:M.aY) (hx:M.aY.ok x):xX x x=some true:=by
 simp [xX,M.Key.kE _ hx.Key]
theorem M.aBq.lI (xs:List M.aY) (hx:(xs.length≤maxLen ∧ ∀y∈xs,M.aY.ok y)):Sz (qL xs) ((xs.length+aC M.aY.sz xs)):=by
 intro l a b
 unfold qL
 exact (Sz.aES hx.1 (fun x h=>M.aY.lI x (hx.2 x h)) (fun _ _ _=>rfl)) l a b
theorem M.aBq.kI (xs:List M.aY) (hx:(xs.length≤maxLen ∧ ∀y∈xs,M.aY.ok y)) (hs:(xs.length+aC M.aY.sz xs)≤1048576):qP xs=some xs:=by
 have hm:=le_max hx.1
 unfold qP
 rw [aAn (by omega) (by omega),Option.bind_some]
 refine aAB hx.1 (fun n k r hk hr => ?_) (fun n r => ?_) fuel 0 _ (by unfold fuel;omega) (by omega) (by simp) (by simp)
 ·simp only [kU]
  rw [if_pos (aZ hk),aO hk,Option.bind_some,M.aY.kI _ (hx.2 _ (List.getElem_mem hk)) (by have:=dJ (f:=M.aY.sz) (List.getElem_mem hk);omega),Option.bind_some,aO (by omega),Option.bind_some,bB (by omega),Int.toNat_natCast]
 ·simp only [kU]
  rw [if_neg (by rw [aP];simp)]
theorem M.aBq.kE (xs:List M.aY) (hx:(xs.length≤maxLen ∧ ∀y∈xs,M.aY.ok y)):rE xs xs=some true:=by
 have hm:=le_max hx.1
 unfold rE
 rw [if_neg (by simp)]
 refine zW hx.1 (fun n k hk => ?_) (fun n => ?_) fuel 0 (by unfold fuel;omega) (by omega)
 ·simp only [kR]
  rw [if_pos (aZ hk),aO hk]
  simp [bB (show k<9223372036854775807 by omega),M.aY.kE _ (hx.2 _ (List.getElem_mem hk))]
 ·simp only [kR]
  rw [if_neg (by rw [aP];simp)]
structure M.aV.ok (x:M.aV):Prop where
 Device:inI x.Device
 Next:inI x.Next
 Writes:(x.Writes.length≤maxLen ∧ ∀y∈x.Writes,M.aY.ok y)
def M.aV.sh:List Shp:=[.int .i64,.int .i64,.sl M.aY.sh]
theorem M.aV.cT (d:List D) (h:mL M.aV.sh d) : ∃x,d=M.aV.en x∧M.aV.ok x:=by
 simp only [M.aV.sh,mL,Has] at h
 obtain ⟨_,_,rfl,⟨a1,rfl,w1⟩,_,_,rfl,⟨a2,rfl,w2⟩,_,_,rfl,⟨_,rfl,w3,q3⟩,rfl⟩:=h
 obtain ⟨a3,rfl,e3⟩:=bC M.aY.cT q3
 exact ⟨⟨a1,a2,a3⟩,rfl,⟨wf_i64 w1,wf_i64 w2,⟨by simpa using w3,e3⟩⟩⟩
def M.aV.sz (x:M.aV):Nat:=(x.Writes.length+aC M.aY.sz x.Writes)
theorem M.aV.lI (x:M.aV) (hx:M.aV.ok x):Sz (vZ x) (M.aV.sz x):=by
 intro l a b
 unfold vZ M.aV.sz
 exact (Sz.call (M.aBq.lI _ hx.Writes)) l a b
theorem M.aV.kI (x:M.aV) (hx:M.aV.ok x) (hs:M.aV.sz x≤1048576):vJ x=some x:=by
 unfold M.aV.sz at hs
 unfold vJ
 rw [M.aBq.kI _ hx.Writes (by omega),Option.bind_some]
theorem M.aV.kE (x:M.aV) (hx:M.aV.ok x):wV x x=some true:=by
 simp [wV,M.aBq.kE _ hx.Writes]
structure M.Sync.ok (x:M.Sync):Prop where
 aV:M.aV.ok x.aV
 Tries:inI x.Tries
 WaitUntil:inI x.WaitUntil
def M.Sync.sh:List Shp:=[.int .i64,.int .i64,.sl M.aY.sh,.int .i64,.int .i64]
theorem M.Sync.cT (d:List D) (h:mL M.Sync.sh d) : ∃x,d=M.Sync.en x∧M.Sync.ok x:=by
 simp only [M.Sync.sh,mL,Has] at h
 obtain ⟨_,_,rfl,⟨a1,rfl,w1⟩,_,_,rfl,⟨a2,rfl,w2⟩,_,_,rfl,⟨_,rfl,w3,q3⟩,_,_,rfl,⟨a4,rfl,w4⟩,_,_,rfl,⟨a5,rfl,w5⟩,rfl⟩:=h
 obtain ⟨a3,rfl,e3⟩:=bC M.aY.cT q3
 exact ⟨⟨⟨a1,a2,a3⟩,a4,a5⟩,rfl,⟨⟨wf_i64 w1,wf_i64 w2,⟨by simpa using w3,e3⟩⟩,wf_i64 w4,wf_i64 w5⟩⟩
def M.Sync.sz (x:M.Sync):Nat:=M.aV.sz x.aV
theorem M.Sync.lI (x:M.Sync) (hx:M.Sync.ok x):Sz (aAy x) (M.Sync.sz x):=by
 intro l a b
 unfold aAy M.Sync.sz
 exact (Sz.call (M.aV.lI _ hx.aV)) l a b
theorem M.Sync.kI (x:M.Sync) (hx:M.Sync.ok x) (hs:M.Sync.sz x≤1048576):aAo x=some x:=by
 unfold M.Sync.sz at hs
 unfold aAo
 rw [M.aV.kI _ hx.aV (by omega),Option.bind_some]
theorem M.Sync.kE (x:M.Sync) (hx:M.Sync.ok x):aAQ x x=some true:=by
 simp [aAQ,M.aV.kE _ hx.aV]
structure M.aD.ok (x:M.aD):Prop where
 Base:M.aH.ok x.Base
 Seen:inI x.Seen
 Sync:M.Sync.ok x.Sync
def M.aD.sh:List Shp:=[.str,.sl M.Item.sh,.int .i64,.int .i64,.int .i64,.int .i64,.sl M.aY.sh,.int .i64,.int .i64]
theorem M.aD.cT (d:List D) (h:mL M.aD.sh d) : ∃x,d=M.aD.en x∧M.aD.ok x:=by
 simp only [M.aD.sh,mL,Has] at h
 obtain ⟨_,_,rfl,⟨a1,rfl,w1⟩,_,_,rfl,⟨_,rfl,w2,q2⟩,_,_,rfl,⟨a3,rfl,w3⟩,_,_,rfl,⟨a4,rfl,w4⟩,_,_,rfl,⟨a5,rfl,w5⟩,_,_,rfl,⟨a6,rfl,w6⟩,_,_,rfl,⟨_,rfl,w7,q7⟩,_,_,rfl,⟨a8,rfl,w8⟩,_,_,rfl,⟨a9,rfl,w9⟩,rfl⟩:=h
 obtain ⟨a2,rfl,e2⟩:=bC M.Item.cT q2
 obtain ⟨a7,rfl,e7⟩:=bC M.aY.cT q7
 exact ⟨⟨⟨a1,a2,a3⟩,a4,⟨⟨a5,a6,a7⟩,a8,a9⟩⟩,rfl,⟨⟨w1,⟨by simpa using w2,e2⟩,wf_i64 w3⟩,wf_i64 w4,⟨⟨wf_i64 w5,wf_i64 w6,⟨by simpa using w7,e7⟩⟩,wf_i64 w8,wf_i64 w9⟩⟩⟩
def M.aD.sz (x:M.aD):Nat:=M.aH.sz x.Base+(M.Sync.sz x.Sync)
theorem M.aD.lI (x:M.aD) (hx:M.aD.ok x):Sz (uA x) (M.aD.sz x):=by
 intro l a b
 unfold uA M.aD.sz
 exact (Sz.rU (M.aH.lI _ hx.Base) (Sz.call (M.Sync.lI _ hx.Sync))) l a b
theorem M.aD.kI (x:M.aD) (hx:M.aD.ok x) (hs:M.aD.sz x≤1048576):tM x=some x:=by
 unfold M.aD.sz at hs
 unfold tM
 rw [M.aH.kI _ hx.Base (by omega),Option.bind_some,M.Sync.kI _ hx.Sync (by omega),Option.bind_some]
theorem M.aD.kE (x:M.aD) (hx:M.aD.ok x):tJ x x=some true:=by
 simp [tJ,M.aH.kE _ hx.Base,M.Sync.kE _ hx.Sync]
structure M.aF.ok (x:M.aF):Prop where
 Site:x.Site.size≤maxLen
 Top:x.Top.size≤maxLen
 Registration:M.Registration.ok x.Registration
 Caches:M.aT.ok x.Caches
 bE:M.bE.ok x.bE
 aD:M.aD.ok x.aD
 LastUsed:inI x.LastUsed
def M.aF.sh:List Shp:=[.str,.str,.str,.int .i64,.int .i64,.int .i64,.sl M.Cache.sh,.str,.int .i64,.sl M.aH.sh,.sl M.aA.sh,.sl [.int .u8],.int .i64,.str,.sl M.Item.sh,.int .i64,.int .i64,.int .i64,.int .i64,.sl M.aY.sh,.int .i64,.int .i64,.int .i64,.bool]
theorem M.aF.cT (d:List D) (h:mL M.aF.sh d) : ∃x,d=M.aF.en x∧M.aF.ok x:=by
 simp only [M.aF.sh,mL,Has] at h
 obtain ⟨_,_,rfl,⟨a1,rfl,w1⟩,_,_,rfl,⟨a2,rfl,w2⟩,_,_,rfl,⟨a3,rfl,w3⟩,_,_,rfl,⟨a4,rfl,w4⟩,_,_,rfl,⟨a5,rfl,w5⟩,_,_,rfl,⟨a6,rfl,w6⟩,_,_,rfl,⟨_,rfl,w7,q7⟩,_,_,rfl,⟨a8,rfl,w8⟩,_,_,rfl,⟨a9,rfl,w9⟩,_,_,rfl,⟨_,rfl,w10,q10⟩,_,_,rfl,⟨_,rfl,w11,q11⟩,_,_,rfl,⟨_,rfl,w12,q12⟩,_,_,rfl,⟨a13,rfl,w13⟩,_,_,rfl,⟨a14,rfl,w14⟩,_,_,rfl,⟨_,rfl,w15,q15⟩,_,_,rfl,⟨a16,rfl,w16⟩,_,_,rfl,⟨a17,rfl,w17⟩,_,_,rfl,⟨a18,rfl,w18⟩,_,_,rfl,⟨a19,rfl,w19⟩,_,_,rfl,⟨_,rfl,w20,q20⟩,_,_,rfl,⟨a21,rfl,w21⟩,_,_,rfl,⟨a22,rfl,w22⟩,_,_,rfl,⟨a23,rfl,w23⟩,_,_,rfl,⟨a24,rfl⟩,rfl⟩:=h
 obtain ⟨a7,rfl,e7⟩:=bC M.Cache.cT q7
 obtain ⟨a10,rfl,e10⟩:=bC M.aH.cT q10
 obtain ⟨a11,rfl,e11⟩:=bC M.aA.cT q11
 obtain ⟨a12,rfl,e12⟩:=bC aNP q12
 obtain ⟨a15,rfl,e15⟩:=bC M.Item.cT q15
 obtain ⟨a20,rfl,e20⟩:=bC M.aY.cT q20
 exact ⟨⟨a1,a2,⟨a3,a4,a5,a6⟩,⟨a7⟩,⟨⟨a8,a9,a10,a11⟩,a12,a13⟩,⟨⟨a14,a15,a16⟩,a17,⟨⟨a18,a19,a20⟩,a21,a22⟩⟩,a23,a24⟩,rfl,⟨w1,w2,⟨w3,wf_i64 w4,wf_i64 w5,wf_i64 w6⟩,⟨⟨by simpa using w7,e7⟩⟩,⟨⟨w8,wf_i64 w9,⟨by simpa using w10,e10⟩,⟨by simpa using w11,e11⟩⟩,⟨by simpa using w12,e12⟩,wf_i64 w13⟩,⟨⟨w14,⟨by simpa using w15,e15⟩,wf_i64 w16⟩,wf_i64 w17,⟨⟨wf_i64 w18,wf_i64 w19,⟨by simpa using w20,e20⟩⟩,wf_i64 w21,wf_i64 w22⟩⟩,wf_i64 w23⟩⟩
def M.aF.sz (x:M.aF):Nat:=x.Site.size+(x.Top.size+(M.Registration.sz x.Registration+(M.aT.sz x.Caches+(M.bE.sz x.bE+(M.aD.sz x.aD)))))
theorem M.aF.lI (x:M.aF) (hx:M.aF.ok x):Sz (wZ x) (M.aF.sz x):=by
 intro l a b
 unfold wZ M.aF.sz
 exact (Sz.aBo hx.Site (Sz.aBo hx.Top (Sz.rU (M.Registration.lI _ hx.Registration) (Sz.rU (M.aT.lI _ hx.Caches) (Sz.rU (M.bE.lI _ hx.bE) (Sz.call (M.aD.lI _ hx.aD))))))) l a b
theorem M.aF.kI (x:M.aF) (hx:M.aF.ok x) (hs:M.aF.sz x≤1048576):wP x=some x:=by
 unfold M.aF.sz at hs
 unfold wP
 rw [M.Registration.kI _ hx.Registration (by omega),Option.bind_some,M.aT.kI _ hx.Caches (by omega),Option.bind_some,M.bE.kI _ hx.bE (by omega),Option.bind_some,M.aD.kI _ hx.aD (by omega),Option.bind_some]
theorem M.aF.kE (x:M.aF) (hx:M.aF.ok x):vU x x=some true:=by
 simp [vU,M.Registration.kE _ hx.Registration,M.aT.kE _ hx.Caches,M.bE.kE _ hx.bE,M.aD.kE _ hx.aD]
theorem M.aCJ.lI (xs:List M.aF) (hx:(xs.length≤maxLen ∧ ∀y∈xs,M.aF.ok y)):Sz (sV xs) ((xs.length+aC M.aF.sz xs)):=by
 intro l a b
 unfold sV
 exact (Sz.aES hx.1 (fun x h=>M.aF.lI x (hx.2 x h)) (fun _ _ _=>rfl)) l a b
theorem M.aCJ.kI (xs:List M.aF) (hx:(xs.length≤maxLen ∧ ∀y∈xs,M.aF.ok y)) (hs:(xs.length+aC M.aF.sz xs)≤1048576):uF xs=some xs:=by
 have hm:=le_max hx.1
 unfold uF
 rw [aAn (by omega) (by omega),Option.bind_some]
 refine aAB hx.1 (fun n k r hk hr => ?_) (fun n r => ?_) fuel 0 _ (by unfold fuel;omega) (by omega) (by simp) (by simp)
 ·simp only [jT]
  rw [if_pos (aZ hk),aO hk,Option.bind_some,M.aF.kI _ (hx.2 _ (List.getElem_mem hk)) (by have:=dJ (f:=M.aF.sz) (List.getElem_mem hk);omega),Option.bind_some,aO (by omega),Option.bind_some,bB (by omega),Int.toNat_natCast]
 ·simp only [jT]
  rw [if_neg (by rw [aP];simp)]
theorem M.aCJ.kE (xs:List M.aF) (hx:(xs.length≤maxLen ∧ ∀y∈xs,M.aF.ok y)):tX xs xs=some true:=by
 have hm:=le_max hx.1
 unfold tX
 rw [if_neg (by simp)]
 refine zW hx.1 (fun n k hk => ?_) (fun n => ?_) fuel 0 (by unfold fuel;omega) (by omega)
 ·simp only [jH]
  rw [if_pos (aZ hk),aO hk]
  simp [bB (show k<9223372036854775807 by omega),M.aF.kE _ (hx.2 _ (List.getElem_mem hk))]
 ·simp only [jH]
  rw [if_neg (by rw [aP];simp)]
structure M.aM.ok (x:M.aM):Prop where
 Buckets:(x.Buckets.length≤maxLen ∧ ∀y∈x.Buckets,M.aF.ok y)
def M.aM.sh:List Shp:=[.sl M.aF.sh]
theorem M.aM.cT (d:List D) (h:mL M.aM.sh d) : ∃x,d=M.aM.en x∧M.aM.ok x:=by
 simp only [M.aM.sh,mL,Has] at h
 obtain ⟨_,_,rfl,⟨_,rfl,w1,q1⟩,rfl⟩:=h
 obtain ⟨a1,rfl,e1⟩:=bC M.aF.cT q1
 exact ⟨⟨a1⟩,rfl,⟨⟨by simpa using w1,e1⟩⟩⟩
def M.aM.sz (x:M.aM):Nat:=(x.Buckets.length+aC M.aF.sz x.Buckets)
theorem M.aM.lI (x:M.aM) (hx:M.aM.ok x):Sz (sI x) (M.aM.sz x):=by
 intro l a b
 unfold sI M.aM.sz
 exact (Sz.call (M.aCJ.lI _ hx.Buckets)) l a b
theorem M.aM.kI (x:M.aM) (hx:M.aM.ok x) (hs:M.aM.sz x≤1048576):tB x=some x:=by
 unfold M.aM.sz at hs
 unfold tB
 rw [M.aCJ.kI _ hx.Buckets (by omega),Option.bind_some]
theorem M.aM.kE (x:M.aM) (hx:M.aM.ok x):tW x x=some true:=by
 simp [tW,M.aCJ.kE _ hx.Buckets]
structure M.aN.ok (x:M.aN):Prop where
 Path:x.Path.size≤maxLen
 Version:inI x.Version
def M.aN.sh:List Shp:=[.str,.int .i64]
theorem M.aN.cT (d:List D) (h:mL M.aN.sh d) : ∃x,d=M.aN.en x∧M.aN.ok x:=by
 simp only [M.aN.sh,mL,Has] at h
 obtain ⟨_,_,rfl,⟨a1,rfl,w1⟩,_,_,rfl,⟨a2,rfl,w2⟩,rfl⟩:=h
 exact ⟨⟨a1,a2⟩,rfl,⟨w1,wf_i64 w2⟩⟩
def M.aN.sz (x:M.aN):Nat:=x.Path.size
theorem M.aN.lI (x:M.aN) (hx:M.aN.ok x):Sz (vN x) (M.aN.sz x):=by
 intro l a b
 unfold vN M.aN.sz
 exact (Sz.str hx.Path) l a b
theorem M.aN.kI (x:M.aN) (hx:M.aN.ok x) (hs:M.aN.sz x≤1048576):vD x=some x:=by
 unfold M.aN.sz at hs
 unfold vD
 rfl
theorem M.aN.kE (x:M.aN) (hx:M.aN.ok x):vE x x=some true:=by
 simp [vE]
theorem M.aCH.lI (xs:List M.aN) (hx:(xs.length≤maxLen ∧ ∀y∈xs,M.aN.ok y)):Sz (sW xs) ((xs.length+aC M.aN.sz xs)):=by
 intro l a b
 unfold sW
 exact (Sz.aES hx.1 (fun x h=>M.aN.lI x (hx.2 x h)) (fun _ _ _=>rfl)) l a b
theorem M.aCH.kI (xs:List M.aN) (hx:(xs.length≤maxLen ∧ ∀y∈xs,M.aN.ok y)) (hs:(xs.length+aC M.aN.sz xs)≤1048576):sX xs=some xs:=by
 have hm:=le_max hx.1
 unfold sX
 rw [aAn (by omega) (by omega),Option.bind_some]
 refine aAB hx.1 (fun n k r hk hr => ?_) (fun n r => ?_) fuel 0 _ (by unfold fuel;omega) (by omega) (by simp) (by simp)
 ·simp only [jS]
  rw [if_pos (aZ hk),aO hk,Option.bind_some,M.aN.kI _ (hx.2 _ (List.getElem_mem hk)) (by have:=dJ (f:=M.aN.sz) (List.getElem_mem hk);omega),Option.bind_some,aO (by omega),Option.bind_some,bB (by omega),Int.toNat_natCast]
 ·simp only [jS]
  rw [if_neg (by rw [aP];simp)]
theorem M.aCH.kE (xs:List M.aN) (hx:(xs.length≤maxLen ∧ ∀y∈xs,M.aN.ok y)):tZ xs xs=some true:=by
 have hm:=le_max hx.1
 unfold tZ
 rw [if_neg (by simp)]
 refine zW hx.1 (fun n k hk => ?_) (fun n => ?_) fuel 0 (by unfold fuel;omega) (by omega)
 ·simp only [jR]
  rw [if_pos (aZ hk),aO hk]
  simp [bB (show k<9223372036854775807 by omega),M.aN.kE _ (hx.2 _ (List.getElem_mem hk))]
 ·simp only [jR]
  rw [if_neg (by rw [aP];simp)]
structure M.Instr.ok (x:M.Instr):Prop where
 Kind:inI x.Kind
 R:inI x.R
 N:inI x.N
 Text:x.Text.size≤maxLen
def M.Instr.sh:List Shp:=[.int .i64,.int .i64,.int .i64,.str]
theorem M.Instr.cT (d:List D) (h:mL M.Instr.sh d) : ∃x,d=M.Instr.en x∧M.Instr.ok x:=by
 simp only [M.Instr.sh,mL,Has] at h
 obtain ⟨_,_,rfl,⟨a1,rfl,w1⟩,_,_,rfl,⟨a2,rfl,w2⟩,_,_,rfl,⟨a3,rfl,w3⟩,_,_,rfl,⟨a4,rfl,w4⟩,rfl⟩:=h
 exact ⟨⟨a1,a2,a3,a4⟩,rfl,⟨wf_i64 w1,wf_i64 w2,wf_i64 w3,w4⟩⟩
def M.Instr.sz (x:M.Instr):Nat:=x.Text.size
theorem M.Instr.lI (x:M.Instr) (hx:M.Instr.ok x):Sz (xT x) (M.Instr.sz x):=by
 intro l a b
 unfold xT M.Instr.sz
 exact (Sz.str hx.Text) l a b
theorem M.Instr.kI (x:M.Instr) (hx:M.Instr.ok x) (hs:M.Instr.sz x≤1048576):zE x=some x:=by
 unfold M.Instr.sz at hs
 unfold zE
 rfl
theorem M.Instr.kE (x:M.Instr) (hx:M.Instr.ok x):xS x x=some true:=by
 simp [xS]
theorem M.aEO.lI (xs:List M.Instr) (hx:(xs.length≤maxLen ∧ ∀y∈xs,M.Instr.ok y)):Sz (wO xs) ((xs.length+aC M.Instr.sz xs)):=by
 intro l a b
 unfold wO
 exact (Sz.aES hx.1 (fun x h=>M.Instr.lI x (hx.2 x h)) (fun _ _ _=>rfl)) l a b
theorem M.aEO.kI (xs:List M.Instr) (hx:(xs.length≤maxLen ∧ ∀y∈xs,M.Instr.ok y)) (hs:(xs.length+aC M.Instr.sz xs)≤1048576):xB xs=some xs:=by
 have hm:=le_max hx.1
 unfold xB
 rw [aAn (by omega) (by omega),Option.bind_some]
 refine aAB hx.1 (fun n k r hk hr => ?_) (fun n r => ?_) fuel 0 _ (by unfold fuel;omega) (by omega) (by simp) (by simp)
 ·simp only [kF]
  rw [if_pos (aZ hk),aO hk,Option.bind_some,M.Instr.kI _ (hx.2 _ (List.getElem_mem hk)) (by have:=dJ (f:=M.Instr.sz) (List.getElem_mem hk);omega),Option.bind_some,aO (by omega),Option.bind_some,bB (by omega),Int.toNat_natCast]
 ·simp only [kF]
  rw [if_neg (by rw [aP];simp)]
theorem M.aEO.kE (xs:List M.Instr) (hx:(xs.length≤maxLen ∧ ∀y∈xs,M.Instr.ok y)):wL xs xs=some true:=by
 have hm:=le_max hx.1
 unfold wL
 rw [if_neg (by simp)]
 refine zW hx.1 (fun n k hk => ?_) (fun n => ?_) fuel 0 (by unfold fuel;omega) (by omega)
 ·simp only [kL]
  rw [if_pos (aZ hk),aO hk]
  simp [bB (show k<9223372036854775807 by omega),M.Instr.kE _ (hx.2 _ (List.getElem_mem hk))]
 ·simp only [kL]
  rw [if_neg (by rw [aP];simp)]
theorem M.aKP.lI (xs:List Int) (hx:okI xs):Sz (aAq xs) (xs.length):=by
 intro l a b
 unfold aAq
 exact (Sz.str hx.1) l a b
theorem M.aKP.kI (xs:List Int) (hx:okI xs) (hs:xs.length≤1048576):aAT xs=some xs:=by
 have hm:=le_max hx.1
 unfold aAT
 rw [aAn (by omega) (by omega),Option.bind_some]
 refine aAB hx.1 (fun n k r hk hr => ?_) (fun n r => ?_) fuel 0 _ (by unfold fuel;omega) (by omega) (by simp) (by simp)
 ·simp only [nM]
  rw [if_pos (aZ hk),aO hk,Option.bind_some,aO (by omega),Option.bind_some,bB (by omega),Int.toNat_natCast]
 ·simp only [nM]
  rw [if_neg (by rw [aP];simp)]
theorem M.aKP.kE (xs:List Int) (hx:okI xs):aAk xs xs=some true:=by
 have hm:=le_max hx.1
 unfold aAk
 rw [if_neg (by simp)]
 refine zW hx.1 (fun n k hk => ?_) (fun n => ?_) fuel 0 (by unfold fuel;omega) (by omega)
 ·simp only [nI]
  rw [if_pos (aZ hk),aO hk]
  simp [bB (show k<9223372036854775807 by omega)]
 ·simp only [nI]
  rw [if_neg (by rw [aP];simp)]
structure M.Machine.ok (x:M.Machine):Prop where
 Script:(x.Script.length≤maxLen ∧ ∀y∈x.Script,M.Instr.ok y)
 Pc:inI x.Pc
 Regs:okI x.Regs
 Steps:inI x.Steps
def M.Machine.sh:List Shp:=[.sl M.Instr.sh,.int .i64,.sl [.int .i64],.int .i64,.bool,.bool]
theorem M.Machine.cT (d:List D) (h:mL M.Machine.sh d) : ∃x,d=M.Machine.en x∧M.Machine.ok x:=by
 simp only [M.Machine.sh,mL,Has] at h
 obtain ⟨_,_,rfl,⟨_,rfl,w1,q1⟩,_,_,rfl,⟨a2,rfl,w2⟩,_,_,rfl,⟨_,rfl,w3,q3⟩,_,_,rfl,⟨a4,rfl,w4⟩,_,_,rfl,⟨a5,rfl⟩,_,_,rfl,⟨a6,rfl⟩,rfl⟩:=h
 obtain ⟨a1,rfl,e1⟩:=bC M.Instr.cT q1
 obtain ⟨a3,rfl,e3⟩:=bC aNv q3
 exact ⟨⟨a1,a2,a3,a4,a5,a6⟩,rfl,⟨⟨by simpa using w1,e1⟩,wf_i64 w2,⟨by simpa using w3,e3⟩,wf_i64 w4⟩⟩
def M.Machine.sz (x:M.Machine):Nat:=(x.Script.length+aC M.Instr.sz x.Script)+(x.Regs.length)
theorem M.Machine.lI (x:M.Machine) (hx:M.Machine.ok x):Sz (uC x) (M.Machine.sz x):=by
 intro l a b
 unfold uC M.Machine.sz
 exact (Sz.rU (M.aEO.lI _ hx.Script) (Sz.call (M.aKP.lI _ hx.Regs))) l a b
theorem M.Machine.kI (x:M.Machine) (hx:M.Machine.ok x) (hs:M.Machine.sz x≤1048576):sR x=some x:=by
 unfold M.Machine.sz at hs
 unfold sR
 rw [M.aEO.kI _ hx.Script (by omega),Option.bind_some,M.aKP.kI _ hx.Regs (by omega),Option.bind_some]
theorem M.Machine.kE (x:M.Machine) (hx:M.Machine.ok x):sD x x=some true:=by
 simp [sD,M.aEO.kE _ hx.Script,M.aKP.kE _ hx.Regs]
structure M.bG.ok (x:M.bG):Prop where
 Id:inI x.Id
 Site:x.Site.size≤maxLen
 Top:x.Top.size≤maxLen
 Version:inI x.Version
 aN:(x.aN.length≤maxLen ∧ ∀y∈x.aN,M.aN.ok y)
 Machine:M.Machine.ok x.Machine
def M.bG.sh:List Shp:=[.int .i64,.str,.str,.int .i64,.sl M.aN.sh,.sl M.Instr.sh,.int .i64,.sl [.int .i64],.int .i64,.bool,.bool]
theorem M.bG.cT (d:List D) (h:mL M.bG.sh d) : ∃x,d=M.bG.en x∧M.bG.ok x:=by
 simp only [M.bG.sh,mL,Has] at h
 obtain ⟨_,_,rfl,⟨a1,rfl,w1⟩,_,_,rfl,⟨a2,rfl,w2⟩,_,_,rfl,⟨a3,rfl,w3⟩,_,_,rfl,⟨a4,rfl,w4⟩,_,_,rfl,⟨_,rfl,w5,q5⟩,_,_,rfl,⟨_,rfl,w6,q6⟩,_,_,rfl,⟨a7,rfl,w7⟩,_,_,rfl,⟨_,rfl,w8,q8⟩,_,_,rfl,⟨a9,rfl,w9⟩,_,_,rfl,⟨a10,rfl⟩,_,_,rfl,⟨a11,rfl⟩,rfl⟩:=h
 obtain ⟨a5,rfl,e5⟩:=bC M.aN.cT q5
 obtain ⟨a6,rfl,e6⟩:=bC M.Instr.cT q6
 obtain ⟨a8,rfl,e8⟩:=bC aNv q8
 exact ⟨⟨a1,a2,a3,a4,a5,⟨a6,a7,a8,a9,a10,a11⟩⟩,rfl,⟨wf_i64 w1,w2,w3,wf_i64 w4,⟨by simpa using w5,e5⟩,⟨⟨by simpa using w6,e6⟩,wf_i64 w7,⟨by simpa using w8,e8⟩,wf_i64 w9⟩⟩⟩
def M.bG.sz (x:M.bG):Nat:=x.Site.size+(x.Top.size+((x.aN.length+aC M.aN.sz x.aN)+(M.Machine.sz x.Machine)))
theorem M.bG.lI (x:M.bG) (hx:M.bG.ok x):Sz (aAm x) (M.bG.sz x):=by
 intro l a b
 unfold aAm M.bG.sz
 exact (Sz.aBo hx.Site (Sz.aBo hx.Top (Sz.rU (M.aCH.lI _ hx.aN) (Sz.call (M.Machine.lI _ hx.Machine))))) l a b
theorem M.bG.kI (x:M.bG) (hx:M.bG.ok x) (hs:M.bG.sz x≤1048576):aAJ x=some x:=by
 unfold M.bG.sz at hs
 unfold aAJ
 rw [M.aCH.kI _ hx.aN (by omega),Option.bind_some,M.Machine.kI _ hx.Machine (by omega),Option.bind_some]
theorem M.bG.kE (x:M.bG) (hx:M.bG.ok x):aAZ x x=some true:=by
 simp [aAZ,M.aCH.kE _ hx.aN,M.Machine.kE _ hx.Machine]
theorem M.aID.lI (xs:List M.bG) (hx:(xs.length≤maxLen ∧ ∀y∈xs,M.bG.ok y)):Sz (yL xs) ((xs.length+aC M.bG.sz xs)):=by
 intro l a b
 unfold yL
 exact (Sz.aES hx.1 (fun x h=>M.bG.lI x (hx.2 x h)) (fun _ _ _=>rfl)) l a b
theorem M.aID.kI (xs:List M.bG) (hx:(xs.length≤maxLen ∧ ∀y∈xs,M.bG.ok y)) (hs:(xs.length+aC M.bG.sz xs)≤1048576):yM xs=some xs:=by
 have hm:=le_max hx.1
 unfold yM
 rw [aAn (by omega) (by omega),Option.bind_some]
 refine aAB hx.1 (fun n k r hk hr => ?_) (fun n r => ?_) fuel 0 _ (by unfold fuel;omega) (by omega) (by simp) (by simp)
 ·simp only [mA]
  rw [if_pos (aZ hk),aO hk,Option.bind_some,M.bG.kI _ (hx.2 _ (List.getElem_mem hk)) (by have:=dJ (f:=M.bG.sz) (List.getElem_mem hk);omega),Option.bind_some,aO (by omega),Option.bind_some,bB (by omega),Int.toNat_natCast]
 ·simp only [mA]
  rw [if_neg (by rw [aP];simp)]
theorem M.aID.kE (xs:List M.bG) (hx:(xs.length≤maxLen ∧ ∀y∈xs,M.bG.ok y)):yQ xs xs=some true:=by
 have hm:=le_max hx.1
 unfold yQ
 rw [if_neg (by simp)]
 refine zW hx.1 (fun n k hk => ?_) (fun n => ?_) fuel 0 (by unfold fuel;omega) (by omega)
 ·simp only [mC]
  rw [if_pos (aZ hk),aO hk]
  simp [bB (show k<9223372036854775807 by omega),M.bG.kE _ (hx.2 _ (List.getElem_mem hk))]
 ·simp only [mC]
  rw [if_neg (by rw [aP];simp)]
structure M.bF.ok (x:M.bF):Prop where
 Name:x.Name.size≤maxLen
 bG:inI x.bG
def M.bF.sh:List Shp:=[.str,.int .i64,.bool,.bool]
theorem M.bF.cT (d:List D) (h:mL M.bF.sh d) : ∃x,d=M.bF.en x∧M.bF.ok x:=by
 simp only [M.bF.sh,mL,Has] at h
 obtain ⟨_,_,rfl,⟨a1,rfl,w1⟩,_,_,rfl,⟨a2,rfl,w2⟩,_,_,rfl,⟨a3,rfl⟩,_,_,rfl,⟨a4,rfl⟩,rfl⟩:=h
 exact ⟨⟨a1,a2,a3,a4⟩,rfl,⟨w1,wf_i64 w2⟩⟩
def M.bF.sz (x:M.bF):Nat:=x.Name.size
theorem M.bF.lI (x:M.bF) (hx:M.bF.ok x):Sz (aA1 x) (M.bF.sz x):=by
 intro l a b
 unfold aA1 M.bF.sz
 exact (Sz.str hx.Name) l a b
theorem M.bF.kI (x:M.bF) (hx:M.bF.ok x) (hs:M.bF.sz x≤1048576):aAW x=some x:=by
 unfold M.bF.sz at hs
 unfold aAW
 rfl
theorem M.bF.kE (x:M.bF) (hx:M.bF.ok x):aAt x x=some true:=by
 simp [aAt]
theorem M.aIF.lI (xs:List M.bF) (hx:(xs.length≤maxLen ∧ ∀y∈xs,M.bF.ok y)):Sz (yF xs) ((xs.length+aC M.bF.sz xs)):=by
 intro l a b
 unfold yF
 exact (Sz.aES hx.1 (fun x h=>M.bF.lI x (hx.2 x h)) (fun _ _ _=>rfl)) l a b
theorem M.aIF.kI (xs:List M.bF) (hx:(xs.length≤maxLen ∧ ∀y∈xs,M.bF.ok y)) (hs:(xs.length+aC M.bF.sz xs)≤1048576):yE xs=some xs:=by
 have hm:=le_max hx.1
 unfold yE
 rw [aAn (by omega) (by omega),Option.bind_some]
 refine aAB hx.1 (fun n k r hk hr => ?_) (fun n r => ?_) fuel 0 _ (by unfold fuel;omega) (by omega) (by simp) (by simp)
 ·simp only [lQ]
  rw [if_pos (aZ hk),aO hk,Option.bind_some,M.bF.kI _ (hx.2 _ (List.getElem_mem hk)) (by have:=dJ (f:=M.bF.sz) (List.getElem_mem hk);omega),Option.bind_some,aO (by omega),Option.bind_some,bB (by omega),Int.toNat_natCast]
 ·simp only [lQ]
  rw [if_neg (by rw [aP];simp)]
theorem M.aIF.kE (xs:List M.bF) (hx:(xs.length≤maxLen ∧ ∀y∈xs,M.bF.ok y)):yB xs xs=some true:=by
 have hm:=le_max hx.1
 unfold yB
 rw [if_neg (by simp)]
 refine zW hx.1 (fun n k hk => ?_) (fun n => ?_) fuel 0 (by unfold fuel;omega) (by omega)
 ·simp only [mE]
  rw [if_pos (aZ hk),aO hk]
  simp [bB (show k<9223372036854775807 by omega),M.bF.kE _ (hx.2 _ (List.getElem_mem hk))]
 ·simp only [mE]
  rw [if_neg (by rw [aP];simp)]
structure M.aE.ok (x:M.aE):Prop where
 Locks:(x.Locks.length≤maxLen ∧ ∀y∈x.Locks,M.bF.ok y)
def M.aE.sh:List Shp:=[.sl M.bF.sh]
theorem M.aE.cT (d:List D) (h:mL M.aE.sh d) : ∃x,d=M.aE.en x∧M.aE.ok x:=by
 simp only [M.aE.sh,mL,Has] at h
 obtain ⟨_,_,rfl,⟨_,rfl,w1,q1⟩,rfl⟩:=h
 obtain ⟨a1,rfl,e1⟩:=bC M.bF.cT q1
 exact ⟨⟨a1⟩,rfl,⟨⟨by simpa using w1,e1⟩⟩⟩
def M.aE.sz (x:M.aE):Nat:=(x.Locks.length+aC M.bF.sz x.Locks)
theorem M.aE.lI (x:M.aE) (hx:M.aE.ok x):Sz (oG x) (M.aE.sz x):=by
 intro l a b
 unfold oG M.aE.sz
 exact (Sz.call (M.aIF.lI _ hx.Locks)) l a b
theorem M.aE.kI (x:M.aE) (hx:M.aE.ok x) (hs:M.aE.sz x≤1048576):oH x=some x:=by
 unfold M.aE.sz at hs
 unfold oH
 rw [M.aIF.kI _ hx.Locks (by omega),Option.bind_some]
theorem M.aE.kE (x:M.aE) (hx:M.aE.ok x):oL x x=some true:=by
 simp [oL,M.aIF.kE _ hx.Locks]
structure M.bU.ok (x:M.bU):Prop where
 To:inI x.To
 From:inI x.From
 N:inI x.N
def M.bU.sh:List Shp:=[.int .i64,.int .i64,.int .i64]
theorem M.bU.cT (d:List D) (h:mL M.bU.sh d) : ∃x,d=M.bU.en x∧M.bU.ok x:=by
 simp only [M.bU.sh,mL,Has] at h
 obtain ⟨_,_,rfl,⟨a1,rfl,w1⟩,_,_,rfl,⟨a2,rfl,w2⟩,_,_,rfl,⟨a3,rfl,w3⟩,rfl⟩:=h
 exact ⟨⟨a1,a2,a3⟩,rfl,⟨wf_i64 w1,wf_i64 w2,wf_i64 w3⟩⟩
theorem M.bU.kI (x:M.bU) (hx:M.bU.ok x):aAh x=some x:=by
 unfold aAh
 rfl
theorem M.bU.kE (x:M.bU) (hx:M.bU.ok x):aAx x x=some true:=by
 simp [aAx]
theorem M.aId.lI (xs:List M.bU) (hx:(xs.length≤maxLen ∧ ∀y∈xs,M.bU.ok y)):Sz (yT xs) (xs.length):=by
 intro l a b
 unfold yT
 exact (Sz.str hx.1) l a b
theorem M.aId.kI (xs:List M.bU) (hx:(xs.length≤maxLen ∧ ∀y∈xs,M.bU.ok y)) (hs:xs.length≤1048576):xV xs=some xs:=by
 have hm:=le_max hx.1
 unfold xV
 rw [aAn (by omega) (by omega),Option.bind_some]
 refine aAB hx.1 (fun n k r hk hr => ?_) (fun n r => ?_) fuel 0 _ (by unfold fuel;omega) (by omega) (by simp) (by simp)
 ·simp only [lT]
  rw [if_pos (aZ hk),aO hk,Option.bind_some,M.bU.kI _ (hx.2 _ (List.getElem_mem hk)),Option.bind_some,aO (by omega),Option.bind_some,bB (by omega),Int.toNat_natCast]
 ·simp only [lT]
  rw [if_neg (by rw [aP];simp)]
theorem M.aId.kE (xs:List M.bU) (hx:(xs.length≤maxLen ∧ ∀y∈xs,M.bU.ok y)):zA xs xs=some true:=by
 have hm:=le_max hx.1
 unfold zA
 rw [if_neg (by simp)]
 refine zW hx.1 (fun n k hk => ?_) (fun n => ?_) fuel 0 (by unfold fuel;omega) (by omega)
 ·simp only [mJ]
  rw [if_pos (aZ hk),aO hk]
  simp [bB (show k<9223372036854775807 by omega),M.bU.kE _ (hx.2 _ (List.getElem_mem hk))]
 ·simp only [mJ]
  rw [if_neg (by rw [aP];simp)]
structure M.Channel.ok (x:M.Channel):Prop where
 Mails:(x.Mails.length≤maxLen ∧ ∀y∈x.Mails,M.bU.ok y)
def M.Channel.sh:List Shp:=[.sl M.bU.sh]
theorem M.Channel.cT (d:List D) (h:mL M.Channel.sh d) : ∃x,d=M.Channel.en x∧M.Channel.ok x:=by
 simp only [M.Channel.sh,mL,Has] at h
 obtain ⟨_,_,rfl,⟨_,rfl,w1,q1⟩,rfl⟩:=h
 obtain ⟨a1,rfl,e1⟩:=bC M.bU.cT q1
 exact ⟨⟨a1⟩,rfl,⟨⟨by simpa using w1,e1⟩⟩⟩
def M.Channel.sz (x:M.Channel):Nat:=x.Mails.length
theorem M.Channel.lI (x:M.Channel) (hx:M.Channel.ok x):Sz (tY x) (M.Channel.sz x):=by
 intro l a b
 unfold tY M.Channel.sz
 exact (Sz.call (M.aId.lI _ hx.Mails)) l a b
theorem M.Channel.kI (x:M.Channel) (hx:M.Channel.ok x) (hs:M.Channel.sz x≤1048576):sL x=some x:=by
 unfold M.Channel.sz at hs
 unfold sL
 rw [M.aId.kI _ hx.Mails (by omega),Option.bind_some]
theorem M.Channel.kE (x:M.Channel) (hx:M.Channel.ok x):tD x x=some true:=by
 simp [tD,M.aId.kE _ hx.Mails]
theorem M.aAH.lI (xs:List ByteArray) (hx:okS xs):Sz (sB xs) ((xs.length+aC ByteArray.size xs)):=by
 intro l a b
 unfold sB
 exact (Sz.strs hx (fun _ _ _=>rfl)) l a b
theorem M.aAH.kI (xs:List ByteArray) (hx:okS xs) (hs:(xs.length+aC ByteArray.size xs)≤1048576):uB xs=some xs:=by
 have hm:=le_max hx.1
 unfold uB
 rw [aAn (by omega) (by omega),Option.bind_some]
 refine aAB hx.1 (fun n k r hk hr => ?_) (fun n r => ?_) fuel 0 _ (by unfold fuel;omega) (by omega) (by simp) (by simp)
 ·simp only [jK]
  rw [if_pos (aZ hk),aO hk,Option.bind_some,aO (by omega),Option.bind_some,bB (by omega),Int.toNat_natCast]
 ·simp only [jK]
  rw [if_neg (by rw [aP];simp)]
theorem M.aAH.kE (xs:List ByteArray) (hx:okS xs):tU xs xs=some true:=by
 have hm:=le_max hx.1
 unfold tU
 rw [if_neg (by simp)]
 refine zW hx.1 (fun n k hk => ?_) (fun n => ?_) fuel 0 (by unfold fuel;omega) (by omega)
 ·simp only [jN]
  rw [if_pos (aZ hk),aO hk]
  simp [bB (show k<9223372036854775807 by omega)]
 ·simp only [jN]
  rw [if_neg (by rw [aP];simp)]
structure M.Site.ok (x:M.Site):Prop where
 Name:x.Name.size≤maxLen
 Version:inI x.Version
 Files:okS x.Files
def M.Site.sh:List Shp:=[.str,.int .i64,.sl [.str],.bool]
theorem M.Site.cT (d:List D) (h:mL M.Site.sh d) : ∃x,d=M.Site.en x∧M.Site.ok x:=by
 simp only [M.Site.sh,mL,Has] at h
 obtain ⟨_,_,rfl,⟨a1,rfl,w1⟩,_,_,rfl,⟨a2,rfl,w2⟩,_,_,rfl,⟨_,rfl,w3,q3⟩,_,_,rfl,⟨a4,rfl⟩,rfl⟩:=h
 obtain ⟨a3,rfl,e3⟩:=bC aQW q3
 exact ⟨⟨a1,a2,a3,a4⟩,rfl,⟨w1,wf_i64 w2,⟨by simpa using w3,e3⟩⟩⟩
def M.Site.sz (x:M.Site):Nat:=x.Name.size+((x.Files.length+aC ByteArray.size x.Files))
theorem M.Site.lI (x:M.Site) (hx:M.Site.ok x):Sz (aAO x) (M.Site.sz x):=by
 intro l a b
 unfold aAO M.Site.sz
 exact (Sz.aBo hx.Name (Sz.call (M.aAH.lI _ hx.Files))) l a b
theorem M.Site.kI (x:M.Site) (hx:M.Site.ok x) (hs:M.Site.sz x≤1048576):aAd x=some x:=by
 unfold M.Site.sz at hs
 unfold aAd
 rw [M.aAH.kI _ hx.Files (by omega),Option.bind_some]
theorem M.Site.kE (x:M.Site) (hx:M.Site.ok x):aAI x x=some true:=by
 simp [aAI,M.aAH.kE _ hx.Files]
theorem M.aH8.lI (xs:List M.Site) (hx:(xs.length≤maxLen ∧ ∀y∈xs,M.Site.ok y)):Sz (zP xs) ((xs.length+aC M.Site.sz xs)):=by
 intro l a b
 unfold zP
 exact (Sz.aES hx.1 (fun x h=>M.Site.lI x (hx.2 x h)) (fun _ _ _=>rfl)) l a b
theorem M.aH8.kI (xs:List M.Site) (hx:(xs.length≤maxLen ∧ ∀y∈xs,M.Site.ok y)) (hs:(xs.length+aC M.Site.sz xs)≤1048576):yU xs=some xs:=by
 have hm:=le_max hx.1
 unfold yU
 rw [aAn (by omega) (by omega),Option.bind_some]
 refine aAB hx.1 (fun n k r hk hr => ?_) (fun n r => ?_) fuel 0 _ (by unfold fuel;omega) (by omega) (by simp) (by simp)
 ·simp only [mB]
  rw [if_pos (aZ hk),aO hk,Option.bind_some,M.Site.kI _ (hx.2 _ (List.getElem_mem hk)) (by have:=dJ (f:=M.Site.sz) (List.getElem_mem hk);omega),Option.bind_some,aO (by omega),Option.bind_some,bB (by omega),Int.toNat_natCast]
 ·simp only [mB]
  rw [if_neg (by rw [aP];simp)]
theorem M.aH8.kE (xs:List M.Site) (hx:(xs.length≤maxLen ∧ ∀y∈xs,M.Site.ok y)):zS xs xs=some true:=by
 have hm:=le_max hx.1
 unfold zS
 rw [if_neg (by simp)]
 refine zW hx.1 (fun n k hk => ?_) (fun n => ?_) fuel 0 (by unfold fuel;omega) (by omega)
 ·simp only [lY]
  rw [if_pos (aZ hk),aO hk]
  simp [bB (show k<9223372036854775807 by omega),M.Site.kE _ (hx.2 _ (List.getElem_mem hk))]
 ·simp only [lY]
  rw [if_neg (by rw [aP];simp)]
structure M.aJ.ok (x:M.aJ):Prop where
 Device:inI x.Device
 Seq:inI x.Seq
def M.aJ.sh:List Shp:=[.int .i64,.int .i64]
theorem M.aJ.cT (d:List D) (h:mL M.aJ.sh d) : ∃x,d=M.aJ.en x∧M.aJ.ok x:=by
 simp only [M.aJ.sh,mL,Has] at h
 obtain ⟨_,_,rfl,⟨a1,rfl,w1⟩,_,_,rfl,⟨a2,rfl,w2⟩,rfl⟩:=h
 exact ⟨⟨a1,a2⟩,rfl,⟨wf_i64 w1,wf_i64 w2⟩⟩
theorem M.aJ.kI (x:M.aJ) (hx:M.aJ.ok x):tV x=some x:=by
 unfold tV
 rfl
theorem M.aJ.kE (x:M.aJ) (hx:M.aJ.ok x):sN x x=some true:=by
 simp [sN]
theorem M.aBb.lI (xs:List M.aJ) (hx:(xs.length≤maxLen ∧ ∀y∈xs,M.aJ.ok y)):Sz (qJ xs) (xs.length):=by
 intro l a b
 unfold qJ
 exact (Sz.str hx.1) l a b
theorem M.aBb.kI (xs:List M.aJ) (hx:(xs.length≤maxLen ∧ ∀y∈xs,M.aJ.ok y)) (hs:xs.length≤1048576):qS xs=some xs:=by
 have hm:=le_max hx.1
 unfold qS
 rw [aAn (by omega) (by omega),Option.bind_some]
 refine aAB hx.1 (fun n k r hk hr => ?_) (fun n r => ?_) fuel 0 _ (by unfold fuel;omega) (by omega) (by simp) (by simp)
 ·simp only [iX]
  rw [if_pos (aZ hk),aO hk,Option.bind_some,M.aJ.kI _ (hx.2 _ (List.getElem_mem hk)),Option.bind_some,aO (by omega),Option.bind_some,bB (by omega),Int.toNat_natCast]
 ·simp only [iX]
  rw [if_neg (by rw [aP];simp)]
theorem M.aBb.kE (xs:List M.aJ) (hx:(xs.length≤maxLen ∧ ∀y∈xs,M.aJ.ok y)):pY xs xs=some true:=by
 have hm:=le_max hx.1
 unfold pY
 rw [if_neg (by simp)]
 refine zW hx.1 (fun n k hk => ?_) (fun n => ?_) fuel 0 (by unfold fuel;omega) (by omega)
 ·simp only [iW]
  rw [if_pos (aZ hk),aO hk]
  simp [bB (show k<9223372036854775807 by omega),M.aJ.kE _ (hx.2 _ (List.getElem_mem hk))]
 ·simp only [iW]
  rw [if_neg (by rw [aP];simp)]
structure M.Server.ok (x:M.Server):Prop where
 aH:M.aH.ok x.aH
 aJ:(x.aJ.length≤maxLen ∧ ∀y∈x.aJ,M.aJ.ok y)
 Changes:(x.Changes.length≤maxLen ∧ ∀y∈x.Changes,M.aY.ok y)
def M.Server.sh:List Shp:=[.str,.sl M.Item.sh,.int .i64,.sl M.aJ.sh,.sl M.aY.sh]
theorem M.Server.cT (d:List D) (h:mL M.Server.sh d) : ∃x,d=M.Server.en x∧M.Server.ok x:=by
 simp only [M.Server.sh,mL,Has] at h
 obtain ⟨_,_,rfl,⟨a1,rfl,w1⟩,_,_,rfl,⟨_,rfl,w2,q2⟩,_,_,rfl,⟨a3,rfl,w3⟩,_,_,rfl,⟨_,rfl,w4,q4⟩,_,_,rfl,⟨_,rfl,w5,q5⟩,rfl⟩:=h
 obtain ⟨a2,rfl,e2⟩:=bC M.Item.cT q2
 obtain ⟨a4,rfl,e4⟩:=bC M.aJ.cT q4
 obtain ⟨a5,rfl,e5⟩:=bC M.aY.cT q5
 exact ⟨⟨⟨a1,a2,a3⟩,a4,a5⟩,rfl,⟨⟨w1,⟨by simpa using w2,e2⟩,wf_i64 w3⟩,⟨by simpa using w4,e4⟩,⟨by simpa using w5,e5⟩⟩⟩
def M.Server.sz (x:M.Server):Nat:=M.aH.sz x.aH+(x.aJ.length+((x.Changes.length+aC M.aY.sz x.Changes)))
theorem M.Server.lI (x:M.Server) (hx:M.Server.ok x):Sz (vF x) (M.Server.sz x):=by
 intro l a b
 unfold vF M.Server.sz
 exact (Sz.rU (M.aH.lI _ hx.aH) (Sz.rU (M.aBb.lI _ hx.aJ) (Sz.call (M.aBq.lI _ hx.Changes)))) l a b
theorem M.Server.kI (x:M.Server) (hx:M.Server.ok x) (hs:M.Server.sz x≤1048576):wY x=some x:=by
 unfold M.Server.sz at hs
 unfold wY
 rw [M.aH.kI _ hx.aH (by omega),Option.bind_some,M.aBb.kI _ hx.aJ (by omega),Option.bind_some,M.aBq.kI _ hx.Changes (by omega),Option.bind_some]
theorem M.Server.kE (x:M.Server) (hx:M.Server.ok x):vV x x=some true:=by
 simp [vV,M.aH.kE _ hx.aH,M.aBb.kE _ hx.aJ,M.aBq.kE _ hx.Changes]
theorem M.aCK.lI (xs:List M.Server) (hx:(xs.length≤maxLen ∧ ∀y∈xs,M.Server.ok y)):Sz (uH xs) ((xs.length+aC M.Server.sz xs)):=by
 intro l a b
 unfold uH
 exact (Sz.aES hx.1 (fun x h=>M.Server.lI x (hx.2 x h)) (fun _ _ _=>rfl)) l a b
theorem M.aCK.kI (xs:List M.Server) (hx:(xs.length≤maxLen ∧ ∀y∈xs,M.Server.ok y)) (hs:(xs.length+aC M.Server.sz xs)≤1048576):sY xs=some xs:=by
 have hm:=le_max hx.1
 unfold sY
 rw [aAn (by omega) (by omega),Option.bind_some]
 refine aAB hx.1 (fun n k r hk hr => ?_) (fun n r => ?_) fuel 0 _ (by unfold fuel;omega) (by omega) (by simp) (by simp)
 ·simp only [jP]
  rw [if_pos (aZ hk),aO hk,Option.bind_some,M.Server.kI _ (hx.2 _ (List.getElem_mem hk)) (by have:=dJ (f:=M.Server.sz) (List.getElem_mem hk);omega),Option.bind_some,aO (by omega),Option.bind_some,bB (by omega),Int.toNat_natCast]
 ·simp only [jP]
  rw [if_neg (by rw [aP];simp)]
theorem M.aCK.kE (xs:List M.Server) (hx:(xs.length≤maxLen ∧ ∀y∈xs,M.Server.ok y)):tQ xs xs=some true:=by
 have hm:=le_max hx.1
 unfold tQ
 rw [if_neg (by simp)]
 refine zW hx.1 (fun n k hk => ?_) (fun n => ?_) fuel 0 (by unfold fuel;omega) (by omega)
 ·simp only [jL]
  rw [if_pos (aZ hk),aO hk]
  simp [bB (show k<9223372036854775807 by omega),M.Server.kE _ (hx.2 _ (List.getElem_mem hk))]
 ·simp only [jL]
  rw [if_neg (by rw [aP];simp)]
structure M.World.ok (x:M.World):Prop where
 Now:inI x.Now
 Device:inI x.Device
 aM:M.aM.ok x.aM
 Pages:(x.Pages.length≤maxLen ∧ ∀y∈x.Pages,M.bG.ok y)
 NextPage:inI x.NextPage
 Locks:M.aE.ok x.Locks
 Channel:M.Channel.ok x.Channel
 Sites:(x.Sites.length≤maxLen ∧ ∀y∈x.Sites,M.Site.ok y)
 Servers:(x.Servers.length≤maxLen ∧ ∀y∈x.Servers,M.Server.ok y)
def M.World.sh:List Shp:=[.int .i64,.bool,.int .i64,.sl M.aF.sh,.sl M.bG.sh,.int .i64,.sl M.bF.sh,.sl M.bU.sh,.sl M.Site.sh,.sl M.Server.sh]
theorem M.World.cT (d:List D) (h:mL M.World.sh d) : ∃x,d=M.World.en x∧M.World.ok x:=by
 simp only [M.World.sh,mL,Has] at h
 obtain ⟨_,_,rfl,⟨a1,rfl,w1⟩,_,_,rfl,⟨a2,rfl⟩,_,_,rfl,⟨a3,rfl,w3⟩,_,_,rfl,⟨_,rfl,w4,q4⟩,_,_,rfl,⟨_,rfl,w5,q5⟩,_,_,rfl,⟨a6,rfl,w6⟩,_,_,rfl,⟨_,rfl,w7,q7⟩,_,_,rfl,⟨_,rfl,w8,q8⟩,_,_,rfl,⟨_,rfl,w9,q9⟩,_,_,rfl,⟨_,rfl,w10,q10⟩,rfl⟩:=h
 obtain ⟨a4,rfl,e4⟩:=bC M.aF.cT q4
 obtain ⟨a5,rfl,e5⟩:=bC M.bG.cT q5
 obtain ⟨a7,rfl,e7⟩:=bC M.bF.cT q7
 obtain ⟨a8,rfl,e8⟩:=bC M.bU.cT q8
 obtain ⟨a9,rfl,e9⟩:=bC M.Site.cT q9
 obtain ⟨a10,rfl,e10⟩:=bC M.Server.cT q10
 exact ⟨⟨a1,a2,a3,⟨a4⟩,a5,a6,⟨a7⟩,⟨a8⟩,a9,a10⟩,rfl,⟨wf_i64 w1,wf_i64 w3,⟨⟨by simpa using w4,e4⟩⟩,⟨by simpa using w5,e5⟩,wf_i64 w6,⟨⟨by simpa using w7,e7⟩⟩,⟨⟨by simpa using w8,e8⟩⟩,⟨by simpa using w9,e9⟩,⟨by simpa using w10,e10⟩⟩⟩
def M.World.sz (x:M.World):Nat:=M.aM.sz x.aM+((x.Pages.length+aC M.bG.sz x.Pages)+(M.aE.sz x.Locks+(M.Channel.sz x.Channel+((x.Sites.length+aC M.Site.sz x.Sites)+((x.Servers.length+aC M.Server.sz x.Servers))))))
theorem M.World.lI (x:M.World) (hx:M.World.ok x):Sz (yN x) (M.World.sz x):=by
 intro l a b
 unfold yN M.World.sz
 exact (Sz.rU (M.aM.lI _ hx.aM) (Sz.rU (M.aID.lI _ hx.Pages) (Sz.rU (M.aE.lI _ hx.Locks) (Sz.rU (M.Channel.lI _ hx.Channel) (Sz.rU (M.aH8.lI _ hx.Sites) (Sz.call (M.aCK.lI _ hx.Servers))))))) l a b
theorem M.World.kI (x:M.World) (hx:M.World.ok x) (hs:M.World.sz x≤1048576):lP x=some x:=by
 unfold M.World.sz at hs
 unfold lP
 rw [M.aM.kI _ hx.aM (by omega),Option.bind_some,M.aID.kI _ hx.Pages (by omega),Option.bind_some,M.aE.kI _ hx.Locks (by omega),Option.bind_some,M.Channel.kI _ hx.Channel (by omega),Option.bind_some,M.aH8.kI _ hx.Sites (by omega),Option.bind_some,M.aCK.kI _ hx.Servers (by omega),Option.bind_some]
theorem M.World.kE (x:M.World) (hx:M.World.ok x):lN x x=some true:=by
 simp [lN,M.aM.kE _ hx.aM,M.aID.kE _ hx.Pages,M.aE.kE _ hx.Locks,M.Channel.kE _ hx.Channel,M.aH8.kE _ hx.Sites,M.aCK.kE _ hx.Servers]
end Go.Proofs.YtnhpbpnhmapeeaaGreat.gen
