/-
  Helper text. No conditions.
-/
import Derived.Test.YtidhkhdnjonjfaaGreatUpdateWorkerMod
set_option linter.unusedVariables false
set_option linter.unusedSimpArgs false
namespace Go.Proofs.YtidhkhdnjonjfaaGreat.gen
open Go Go.Sh
structure M.Registration.ok (x:M.Registration):Prop where
 Site:x.Site.size≤maxLen
 Installing:inI x.Installing
 Waiting:inI x.Waiting
 Active:inI x.Active
def M.Registration.sh:List Shp:=[.str,.int .i64,.int .i64,.int .i64]
theorem M.Registration.cZ (d:List D) (h:oC M.Registration.sh d) : ∃x,d=M.Registration.en x∧M.Registration.ok x:=by
 simp only [M.Registration.sh,oC,Has] at h
 obtain ⟨_,_,rfl,⟨a1,rfl,w1⟩,_,_,rfl,⟨a2,rfl,w2⟩,_,_,rfl,⟨a3,rfl,w3⟩,_,_,rfl,⟨a4,rfl,w4⟩,rfl⟩:=h
 exact ⟨⟨a1,a2,a3,a4⟩,rfl,⟨w1,wf_i64 w2,wf_i64 w3,wf_i64 w4⟩⟩
def M.Registration.sz (x:M.Registration):Nat:=x.Site.size
theorem M.Registration.nB (x:M.Registration) (hx:M.Registration.ok x):Sz (lG x) (M.Registration.sz x):=by
 intro l a b
 unfold lG M.Registration.sz
 exact (Sz.str hx.Site) l a b
theorem M.Registration.lT (x:M.Registration) (hx:M.Registration.ok x) (hs:M.Registration.sz x≤1048576):lN x=some x:=by
 unfold M.Registration.sz at hs
 unfold lN
 rfl
theorem M.Registration.lP (x:M.Registration) (hx:M.Registration.ok x):lO x x=some true:=by
 simp [lO]
theorem M.aD0.nB (xs:List Int) (hx:okB xs):Sz (xV xs) (xs.length):=by
 intro l a b
 unfold xV
 exact (Sz.str hx.1) l a b
theorem M.aD0.lT (xs:List Int) (hx:okB xs) (hs:xs.length≤1048576):xZ xs=some xs:=by
 have hm:=le_max hx.1
 unfold xZ
 rw [aCA (by omega) (by omega),qA]
 refine aBV hx.1 (fun n k r hk hr => ?_) (fun n r => ?_) fuel 0 _ (by unfold fuel;omega) (by omega) (by simp) (by simp)
 ·simp only [nU]
  rw [if_pos (aY hk),aM hk,qA,aM (by omega),qA,bC (by omega),qH]
 ·simp only [nU]
  rw [if_neg (by rw [aO];simp)]
theorem M.aD0.lP (xs:List Int) (hx:okB xs):yC xs xs=some true:=by
 have hm:=le_max hx.1
 unfold yC
 rw [if_neg (by simp)]
 refine aBR hx.1 (fun n k hk => ?_) (fun n => ?_) fuel 0 (by unfold fuel;omega) (by omega)
 ·simp only [nN]
  rw [if_pos (aY hk),aM hk]
  simp [bC (show k<9223372036854775807 by omega)]
 ·simp only [nN]
  rw [if_neg (by rw [aO];simp)]
structure M.Response.ok (x:M.Response):Prop where
 Type_:inI x.Type_
 Status:inI x.Status
 Version:inI x.Version
 Body:okB x.Body
def M.Response.sh:List Shp:=[.int .i64,.int .i64,.int .i64,.sl [.int .u8],.bool]
theorem M.Response.cZ (d:List D) (h:oC M.Response.sh d) : ∃x,d=M.Response.en x∧M.Response.ok x:=by
 simp only [M.Response.sh,oC,Has] at h
 obtain ⟨_,_,rfl,⟨a1,rfl,w1⟩,_,_,rfl,⟨a2,rfl,w2⟩,_,_,rfl,⟨a3,rfl,w3⟩,_,_,rfl,⟨_,rfl,w4,q4⟩,_,_,rfl,⟨a5,rfl⟩,rfl⟩:=h
 obtain ⟨a4,rfl,e4⟩:=bE aQe q4
 exact ⟨⟨a1,a2,a3,a4,a5⟩,rfl,⟨wf_i64 w1,wf_i64 w2,wf_i64 w3,⟨by simpa using w4,e4⟩⟩⟩
def M.Response.sz (x:M.Response):Nat:=x.Body.length
theorem M.Response.nB (x:M.Response) (hx:M.Response.ok x):Sz (tW x) (M.Response.sz x):=by
 intro l a b
 unfold tW M.Response.sz
 exact (Sz.call (M.aD0.nB _ hx.Body)) l a b
theorem M.Response.lT (x:M.Response) (hx:M.Response.ok x) (hs:M.Response.sz x≤1048576):tM x=some x:=by
 unfold M.Response.sz at hs
 unfold tM
 rw [M.aD0.lT _ hx.Body (by omega),qA]
theorem M.Response.lP (x:M.Response) (hx:M.Response.ok x):uC x x=some true:=by
 simp [uC,M.aD0.lP _ hx.Body]
structure M.Cached.ok (x:M.Cached):Prop where
 Site:x.Site.size≤maxLen
 Path:x.Path.size≤maxLen
 Response:M.Response.ok x.Response
def M.Cached.sh:List Shp:=[.str,.str,.int .i64,.int .i64,.int .i64,.sl [.int .u8],.bool]
theorem M.Cached.cZ (d:List D) (h:oC M.Cached.sh d) : ∃x,d=M.Cached.en x∧M.Cached.ok x:=by
 simp only [M.Cached.sh,oC,Has] at h
 obtain ⟨_,_,rfl,⟨a1,rfl,w1⟩,_,_,rfl,⟨a2,rfl,w2⟩,_,_,rfl,⟨a3,rfl,w3⟩,_,_,rfl,⟨a4,rfl,w4⟩,_,_,rfl,⟨a5,rfl,w5⟩,_,_,rfl,⟨_,rfl,w6,q6⟩,_,_,rfl,⟨a7,rfl⟩,rfl⟩:=h
 obtain ⟨a6,rfl,e6⟩:=bE aQe q6
 exact ⟨⟨a1,a2,⟨a3,a4,a5,a6,a7⟩⟩,rfl,⟨w1,w2,⟨wf_i64 w3,wf_i64 w4,wf_i64 w5,⟨by simpa using w6,e6⟩⟩⟩⟩
def M.Cached.sz (x:M.Cached):Nat:=x.Site.size+(x.Path.size+(M.Response.sz x.Response))
theorem M.Cached.nB (x:M.Cached) (hx:M.Cached.ok x):Sz (yY x) (M.Cached.sz x):=by
 intro l a b
 unfold yY M.Cached.sz
 exact (Sz.aDK hx.Site (Sz.aDK hx.Path (Sz.call (M.Response.nB _ hx.Response)))) l a b
theorem M.Cached.lT (x:M.Cached) (hx:M.Cached.ok x) (hs:M.Cached.sz x≤1048576):zN x=some x:=by
 unfold M.Cached.sz at hs
 unfold zN
 rw [M.Response.lT _ hx.Response (by omega),qA]
theorem M.Cached.lP (x:M.Cached) (hx:M.Cached.ok x):zO x x=some true:=by
 simp [zO,M.Response.lP _ hx.Response]
theorem M.aD3.nB (xs:List M.Cached) (hx:(xs.length≤maxLen ∧ ∀y∈xs,M.Cached.ok y)):Sz (wI xs) ((xs.length+aF M.Cached.sz xs)):=by
 intro l a b
 unfold wI
 exact (Sz.aGW hx.1 (fun x h=>M.Cached.nB x (hx.2 x h)) (fun _ _ _=>rfl)) l a b
theorem M.aD3.lT (xs:List M.Cached) (hx:(xs.length≤maxLen ∧ ∀y∈xs,M.Cached.ok y)) (hs:(xs.length+aF M.Cached.sz xs)≤1048576):xC xs=some xs:=by
 have hm:=le_max hx.1
 unfold xC
 rw [aCA (by omega) (by omega),qA]
 refine aBV hx.1 (fun n k r hk hr => ?_) (fun n r => ?_) fuel 0 _ (by unfold fuel;omega) (by omega) (by simp) (by simp)
 ·simp only [kJ]
  rw [if_pos (aY hk),aM hk,qA,M.Cached.lT _ (hx.2 _ (qG hk)) (by have:=bO (f:=M.Cached.sz) (qG hk);omega),qA,aM (by omega),qA,bC (by omega),qH]
 ·simp only [kJ]
  rw [if_neg (by rw [aO];simp)]
theorem M.aD3.lP (xs:List M.Cached) (hx:(xs.length≤maxLen ∧ ∀y∈xs,M.Cached.ok y)):wR xs xs=some true:=by
 have hm:=le_max hx.1
 unfold wR
 rw [if_neg (by simp)]
 refine aBR hx.1 (fun n k hk => ?_) (fun n => ?_) fuel 0 (by unfold fuel;omega) (by omega)
 ·simp only [kQ]
  rw [if_pos (aY hk),aM hk]
  simp [bC (show k<9223372036854775807 by omega),M.Cached.lP _ (hx.2 _ (qG hk))]
 ·simp only [kQ]
  rw [if_neg (by rw [aO];simp)]
structure M.Cache.ok (x:M.Cache):Prop where
 Version:inI x.Version
 Entries:(x.Entries.length≤maxLen ∧ ∀y∈x.Entries,M.Cached.ok y)
def M.Cache.sh:List Shp:=[.int .i64,.sl M.Cached.sh]
theorem M.Cache.cZ (d:List D) (h:oC M.Cache.sh d) : ∃x,d=M.Cache.en x∧M.Cache.ok x:=by
 simp only [M.Cache.sh,oC,Has] at h
 obtain ⟨_,_,rfl,⟨a1,rfl,w1⟩,_,_,rfl,⟨_,rfl,w2,q2⟩,rfl⟩:=h
 obtain ⟨a2,rfl,e2⟩:=bE M.Cached.cZ q2
 exact ⟨⟨a1,a2⟩,rfl,⟨wf_i64 w1,⟨by simpa using w2,e2⟩⟩⟩
def M.Cache.sz (x:M.Cache):Nat:=(x.Entries.length+aF M.Cached.sz x.Entries)
theorem M.Cache.nB (x:M.Cache) (hx:M.Cache.ok x):Sz (aA8 x) (M.Cache.sz x):=by
 intro l a b
 unfold aA8 M.Cache.sz
 exact (Sz.call (M.aD3.nB _ hx.Entries)) l a b
theorem M.Cache.lT (x:M.Cache) (hx:M.Cache.ok x) (hs:M.Cache.sz x≤1048576):aAk x=some x:=by
 unfold M.Cache.sz at hs
 unfold aAk
 rw [M.aD3.lT _ hx.Entries (by omega),qA]
theorem M.Cache.lP (x:M.Cache) (hx:M.Cache.ok x):aBC x x=some true:=by
 simp [aBC,M.aD3.lP _ hx.Entries]
theorem M.aGB.nB (xs:List M.Cache) (hx:(xs.length≤maxLen ∧ ∀y∈xs,M.Cache.ok y)):Sz (aAG xs) ((xs.length+aF M.Cache.sz xs)):=by
 intro l a b
 unfold aAG
 exact (Sz.aGW hx.1 (fun x h=>M.Cache.nB x (hx.2 x h)) (fun _ _ _=>rfl)) l a b
theorem M.aGB.lT (xs:List M.Cache) (hx:(xs.length≤maxLen ∧ ∀y∈xs,M.Cache.ok y)) (hs:(xs.length+aF M.Cache.sz xs)≤1048576):zW xs=some xs:=by
 have hm:=le_max hx.1
 unfold zW
 rw [aCA (by omega) (by omega),qA]
 refine aBV hx.1 (fun n k r hk hr => ?_) (fun n r => ?_) fuel 0 _ (by unfold fuel;omega) (by omega) (by simp) (by simp)
 ·simp only [mF]
  rw [if_pos (aY hk),aM hk,qA,M.Cache.lT _ (hx.2 _ (qG hk)) (by have:=bO (f:=M.Cache.sz) (qG hk);omega),qA,aM (by omega),qA,bC (by omega),qH]
 ·simp only [mF]
  rw [if_neg (by rw [aO];simp)]
theorem M.aGB.lP (xs:List M.Cache) (hx:(xs.length≤maxLen ∧ ∀y∈xs,M.Cache.ok y)):zV xs xs=some true:=by
 have hm:=le_max hx.1
 unfold zV
 rw [if_neg (by simp)]
 refine aBR hx.1 (fun n k hk => ?_) (fun n => ?_) fuel 0 (by unfold fuel;omega) (by omega)
 ·simp only [mA]
  rw [if_pos (aY hk),aM hk]
  simp [bC (show k<9223372036854775807 by omega),M.Cache.lP _ (hx.2 _ (qG hk))]
 ·simp only [mA]
  rw [if_neg (by rw [aO];simp)]
structure M.aA.ok (x:M.aA):Prop where
 Caches:(x.Caches.length≤maxLen ∧ ∀y∈x.Caches,M.Cache.ok y)
def M.aA.sh:List Shp:=[.sl M.Cache.sh]
theorem M.aA.cZ (d:List D) (h:oC M.aA.sh d) : ∃x,d=M.aA.en x∧M.aA.ok x:=by
 simp only [M.aA.sh,oC,Has] at h
 obtain ⟨_,_,rfl,⟨_,rfl,w1,q1⟩,rfl⟩:=h
 obtain ⟨a1,rfl,e1⟩:=bE M.Cache.cZ q1
 exact ⟨⟨a1⟩,rfl,⟨⟨by simpa using w1,e1⟩⟩⟩
def M.aA.sz (x:M.aA):Nat:=(x.Caches.length+aF M.Cache.sz x.Caches)
theorem M.aA.nB (x:M.aA) (hx:M.aA.ok x):Sz (uR x) (M.aA.sz x):=by
 intro l a b
 unfold uR M.aA.sz
 exact (Sz.call (M.aGB.nB _ hx.Caches)) l a b
theorem M.aA.lT (x:M.aA) (hx:M.aA.ok x) (hs:M.aA.sz x≤1048576):tT x=some x:=by
 unfold M.aA.sz at hs
 unfold tT
 rw [M.aGB.lT _ hx.Caches (by omega),qA]
theorem M.aA.lP (x:M.aA) (hx:M.aA.ok x):tR x x=some true:=by
 simp [tR,M.aGB.lP _ hx.Caches]
structure M.Key.ok (x:M.Key):Prop where
 Kind:inI x.Kind
 N:inI x.N
 Text:x.Text.size≤maxLen
def M.Key.sh:List Shp:=[.int .i64,.int .i64,.str]
theorem M.Key.cZ (d:List D) (h:oC M.Key.sh d) : ∃x,d=M.Key.en x∧M.Key.ok x:=by
 simp only [M.Key.sh,oC,Has] at h
 obtain ⟨_,_,rfl,⟨a1,rfl,w1⟩,_,_,rfl,⟨a2,rfl,w2⟩,_,_,rfl,⟨a3,rfl,w3⟩,rfl⟩:=h
 exact ⟨⟨a1,a2,a3⟩,rfl,⟨wf_i64 w1,wf_i64 w2,w3⟩⟩
def M.Key.sz (x:M.Key):Nat:=x.Text.size
theorem M.Key.nB (x:M.Key) (hx:M.Key.ok x):Sz (aBW x) (M.Key.sz x):=by
 intro l a b
 unfold aBW M.Key.sz
 exact (Sz.str hx.Text) l a b
theorem M.Key.lT (x:M.Key) (hx:M.Key.ok x) (hs:M.Key.sz x≤1048576):aBT x=some x:=by
 unfold M.Key.sz at hs
 unfold aBT
 rfl
theorem M.Key.lP (x:M.Key) (hx:M.Key.ok x):aBU x x=some true:=by
 simp [aBU]
structure M.Field.ok (x:M.Field):Prop where
 Name:x.Name.size≤maxLen
 N:inI x.N
def M.Field.sh:List Shp:=[.str,.int .i64]
theorem M.Field.cZ (d:List D) (h:oC M.Field.sh d) : ∃x,d=M.Field.en x∧M.Field.ok x:=by
 simp only [M.Field.sh,oC,Has] at h
 obtain ⟨_,_,rfl,⟨a1,rfl,w1⟩,_,_,rfl,⟨a2,rfl,w2⟩,rfl⟩:=h
 exact ⟨⟨a1,a2⟩,rfl,⟨w1,wf_i64 w2⟩⟩
def M.Field.sz (x:M.Field):Nat:=x.Name.size
theorem M.Field.nB (x:M.Field) (hx:M.Field.ok x):Sz (aAz x) (M.Field.sz x):=by
 intro l a b
 unfold aAz M.Field.sz
 exact (Sz.str hx.Name) l a b
theorem M.Field.lT (x:M.Field) (hx:M.Field.ok x) (hs:M.Field.sz x≤1048576):aA9 x=some x:=by
 unfold M.Field.sz at hs
 unfold aA9
 rfl
theorem M.Field.lP (x:M.Field) (hx:M.Field.ok x):aAc x x=some true:=by
 simp [aAc]
theorem M.aGh.nB (xs:List M.Field) (hx:(xs.length≤maxLen ∧ ∀y∈xs,M.Field.ok y)):Sz (yW xs) ((xs.length+aF M.Field.sz xs)):=by
 intro l a b
 unfold yW
 exact (Sz.aGW hx.1 (fun x h=>M.Field.nB x (hx.2 x h)) (fun _ _ _=>rfl)) l a b
theorem M.aGh.lT (xs:List M.Field) (hx:(xs.length≤maxLen ∧ ∀y∈xs,M.Field.ok y)) (hs:(xs.length+aF M.Field.sz xs)≤1048576):aAJ xs=some xs:=by
 have hm:=le_max hx.1
 unfold aAJ
 rw [aCA (by omega) (by omega),qA]
 refine aBV hx.1 (fun n k r hk hr => ?_) (fun n r => ?_) fuel 0 _ (by unfold fuel;omega) (by omega) (by simp) (by simp)
 ·simp only [lR]
  rw [if_pos (aY hk),aM hk,qA,M.Field.lT _ (hx.2 _ (qG hk)) (by have:=bO (f:=M.Field.sz) (qG hk);omega),qA,aM (by omega),qA,bC (by omega),qH]
 ·simp only [lR]
  rw [if_neg (by rw [aO];simp)]
theorem M.aGh.lP (xs:List M.Field) (hx:(xs.length≤maxLen ∧ ∀y∈xs,M.Field.ok y)):zZ xs xs=some true:=by
 have hm:=le_max hx.1
 unfold zZ
 rw [if_neg (by simp)]
 refine aBR hx.1 (fun n k hk => ?_) (fun n => ?_) fuel 0 (by unfold fuel;omega) (by omega)
 ·simp only [lV]
  rw [if_pos (aY hk),aM hk]
  simp [bC (show k<9223372036854775807 by omega),M.Field.lP _ (hx.2 _ (qG hk))]
 ·simp only [lV]
  rw [if_neg (by rw [aO];simp)]
structure M.aU.ok (x:M.aU):Prop where
 Fields:(x.Fields.length≤maxLen ∧ ∀y∈x.Fields,M.Field.ok y)
def M.aU.sh:List Shp:=[.sl M.Field.sh]
theorem M.aU.cZ (d:List D) (h:oC M.aU.sh d) : ∃x,d=M.aU.en x∧M.aU.ok x:=by
 simp only [M.aU.sh,oC,Has] at h
 obtain ⟨_,_,rfl,⟨_,rfl,w1,q1⟩,rfl⟩:=h
 obtain ⟨a1,rfl,e1⟩:=bE M.Field.cZ q1
 exact ⟨⟨a1⟩,rfl,⟨⟨by simpa using w1,e1⟩⟩⟩
def M.aU.sz (x:M.aU):Nat:=(x.Fields.length+aF M.Field.sz x.Fields)
theorem M.aU.nB (x:M.aU) (hx:M.aU.ok x):Sz (aAF x) (M.aU.sz x):=by
 intro l a b
 unfold aAF M.aU.sz
 exact (Sz.call (M.aGh.nB _ hx.Fields)) l a b
theorem M.aU.lT (x:M.aU) (hx:M.aU.ok x) (hs:M.aU.sz x≤1048576):zL x=some x:=by
 unfold M.aU.sz at hs
 unfold zL
 rw [M.aGh.lT _ hx.Fields (by omega),qA]
theorem M.aU.lP (x:M.aU) (hx:M.aU.ok x):aAB x x=some true:=by
 simp [aAB,M.aGh.lP _ hx.Fields]
structure M.Item.ok (x:M.Item):Prop where
 Key:M.Key.ok x.Key
 aU:M.aU.ok x.aU
def M.Item.sh:List Shp:=[.int .i64,.int .i64,.str,.sl M.Field.sh]
theorem M.Item.cZ (d:List D) (h:oC M.Item.sh d) : ∃x,d=M.Item.en x∧M.Item.ok x:=by
 simp only [M.Item.sh,oC,Has] at h
 obtain ⟨_,_,rfl,⟨a1,rfl,w1⟩,_,_,rfl,⟨a2,rfl,w2⟩,_,_,rfl,⟨a3,rfl,w3⟩,_,_,rfl,⟨_,rfl,w4,q4⟩,rfl⟩:=h
 obtain ⟨a4,rfl,e4⟩:=bE M.Field.cZ q4
 exact ⟨⟨⟨a1,a2,a3⟩,⟨a4⟩⟩,rfl,⟨⟨wf_i64 w1,wf_i64 w2,w3⟩,⟨⟨by simpa using w4,e4⟩⟩⟩⟩
def M.Item.sz (x:M.Item):Nat:=M.Key.sz x.Key+(M.aU.sz x.aU)
theorem M.Item.nB (x:M.Item) (hx:M.Item.ok x):Sz (aB5 x) (M.Item.sz x):=by
 intro l a b
 unfold aB5 M.Item.sz
 exact (Sz.vG (M.Key.nB _ hx.Key) (Sz.call (M.aU.nB _ hx.aU))) l a b
theorem M.Item.lT (x:M.Item) (hx:M.Item.ok x) (hs:M.Item.sz x≤1048576):aBc x=some x:=by
 unfold M.Item.sz at hs
 unfold aBc
 rw [M.Key.lT _ hx.Key (by omega),qA,M.aU.lT _ hx.aU (by omega),qA]
theorem M.Item.lP (x:M.Item) (hx:M.Item.ok x):aBh x x=some true:=by
 simp [aBh,M.Key.lP _ hx.Key,M.aU.lP _ hx.aU]
theorem M.aG1.nB (xs:List M.Item) (hx:(xs.length≤maxLen ∧ ∀y∈xs,M.Item.ok y)):Sz (aBG xs) ((xs.length+aF M.Item.sz xs)):=by
 intro l a b
 unfold aBG
 exact (Sz.aGW hx.1 (fun x h=>M.Item.nB x (hx.2 x h)) (fun _ _ _=>rfl)) l a b
theorem M.aG1.lT (xs:List M.Item) (hx:(xs.length≤maxLen ∧ ∀y∈xs,M.Item.ok y)) (hs:(xs.length+aF M.Item.sz xs)≤1048576):aAj xs=some xs:=by
 have hm:=le_max hx.1
 unfold aAj
 rw [aCA (by omega) (by omega),qA]
 refine aBV hx.1 (fun n k r hk hr => ?_) (fun n r => ?_) fuel 0 _ (by unfold fuel;omega) (by omega) (by simp) (by simp)
 ·simp only [nW]
  rw [if_pos (aY hk),aM hk,qA,M.Item.lT _ (hx.2 _ (qG hk)) (by have:=bO (f:=M.Item.sz) (qG hk);omega),qA,aM (by omega),qA,bC (by omega),qH]
 ·simp only [nW]
  rw [if_neg (by rw [aO];simp)]
theorem M.aG1.lP (xs:List M.Item) (hx:(xs.length≤maxLen ∧ ∀y∈xs,M.Item.ok y)):aBF xs xs=some true:=by
 have hm:=le_max hx.1
 unfold aBF
 rw [if_neg (by simp)]
 refine aBR hx.1 (fun n k hk => ?_) (fun n => ?_) fuel 0 (by unfold fuel;omega) (by omega)
 ·simp only [nK]
  rw [if_pos (aY hk),aM hk]
  simp [bC (show k<9223372036854775807 by omega),M.Item.lP _ (hx.2 _ (qG hk))]
 ·simp only [nK]
  rw [if_neg (by rw [aO];simp)]
structure M.aJ.ok (x:M.aJ):Prop where
 Name:x.Name.size≤maxLen
 Items:(x.Items.length≤maxLen ∧ ∀y∈x.Items,M.Item.ok y)
 Auto:inI x.Auto
def M.aJ.sh:List Shp:=[.str,.sl M.Item.sh,.int .i64]
theorem M.aJ.cZ (d:List D) (h:oC M.aJ.sh d) : ∃x,d=M.aJ.en x∧M.aJ.ok x:=by
 simp only [M.aJ.sh,oC,Has] at h
 obtain ⟨_,_,rfl,⟨a1,rfl,w1⟩,_,_,rfl,⟨_,rfl,w2,q2⟩,_,_,rfl,⟨a3,rfl,w3⟩,rfl⟩:=h
 obtain ⟨a2,rfl,e2⟩:=bE M.Item.cZ q2
 exact ⟨⟨a1,a2,a3⟩,rfl,⟨w1,⟨by simpa using w2,e2⟩,wf_i64 w3⟩⟩
def M.aJ.sz (x:M.aJ):Nat:=x.Name.size+((x.Items.length+aF M.Item.sz x.Items))
theorem M.aJ.nB (x:M.aJ) (hx:M.aJ.ok x):Sz (sC x) (M.aJ.sz x):=by
 intro l a b
 unfold sC M.aJ.sz
 exact (Sz.aDK hx.Name (Sz.call (M.aG1.nB _ hx.Items))) l a b
theorem M.aJ.lT (x:M.aJ) (hx:M.aJ.ok x) (hs:M.aJ.sz x≤1048576):sM x=some x:=by
 unfold M.aJ.sz at hs
 unfold sM
 rw [M.aG1.lT _ hx.Items (by omega),qA]
theorem M.aJ.lP (x:M.aJ) (hx:M.aJ.ok x):sL x x=some true:=by
 simp [sL,M.aG1.lP _ hx.Items]
theorem M.aF0.nB (xs:List M.aJ) (hx:(xs.length≤maxLen ∧ ∀y∈xs,M.aJ.ok y)):Sz (zR xs) ((xs.length+aF M.aJ.sz xs)):=by
 intro l a b
 unfold zR
 exact (Sz.aGW hx.1 (fun x h=>M.aJ.nB x (hx.2 x h)) (fun _ _ _=>rfl)) l a b
theorem M.aF0.lT (xs:List M.aJ) (hx:(xs.length≤maxLen ∧ ∀y∈xs,M.aJ.ok y)) (hs:(xs.length+aF M.aJ.sz xs)≤1048576):zC xs=some xs:=by
 have hm:=le_max hx.1
 unfold zC
 rw [aCA (by omega) (by omega),qA]
 refine aBV hx.1 (fun n k r hk hr => ?_) (fun n r => ?_) fuel 0 _ (by unfold fuel;omega) (by omega) (by simp) (by simp)
 ·simp only [mB]
  rw [if_pos (aY hk),aM hk,qA,M.aJ.lT _ (hx.2 _ (qG hk)) (by have:=bO (f:=M.aJ.sz) (qG hk);omega),qA,aM (by omega),qA,bC (by omega),qH]
 ·simp only [mB]
  rw [if_neg (by rw [aO];simp)]
theorem M.aF0.lP (xs:List M.aJ) (hx:(xs.length≤maxLen ∧ ∀y∈xs,M.aJ.ok y)):yV xs xs=some true:=by
 have hm:=le_max hx.1
 unfold yV
 rw [if_neg (by simp)]
 refine aBR hx.1 (fun n k hk => ?_) (fun n => ?_) fuel 0 (by unfold fuel;omega) (by omega)
 ·simp only [lS]
  rw [if_pos (aY hk),aM hk]
  simp [bC (show k<9223372036854775807 by omega),M.aJ.lP _ (hx.2 _ (qG hk))]
 ·simp only [lS]
  rw [if_neg (by rw [aO];simp)]
structure M.aD.ok (x:M.aD):Prop where
 aJ:x.aJ.size≤maxLen
 Field:x.Field.size≤maxLen
def M.aD.sh:List Shp:=[.str,.str]
theorem M.aD.cZ (d:List D) (h:oC M.aD.sh d) : ∃x,d=M.aD.en x∧M.aD.ok x:=by
 simp only [M.aD.sh,oC,Has] at h
 obtain ⟨_,_,rfl,⟨a1,rfl,w1⟩,_,_,rfl,⟨a2,rfl,w2⟩,rfl⟩:=h
 exact ⟨⟨a1,a2⟩,rfl,⟨w1,w2⟩⟩
def M.aD.sz (x:M.aD):Nat:=x.aJ.size+(x.Field.size)
theorem M.aD.nB (x:M.aD) (hx:M.aD.ok x):Sz (sY x) (M.aD.sz x):=by
 intro l a b
 unfold sY M.aD.sz
 exact (Sz.aDK hx.aJ (Sz.str hx.Field)) l a b
theorem M.aD.lT (x:M.aD) (hx:M.aD.ok x) (hs:M.aD.sz x≤1048576):uM x=some x:=by
 unfold M.aD.sz at hs
 unfold uM
 rfl
theorem M.aD.lP (x:M.aD) (hx:M.aD.ok x):uG x x=some true:=by
 simp [uG]
theorem M.aCQ.nB (xs:List M.aD) (hx:(xs.length≤maxLen ∧ ∀y∈xs,M.aD.ok y)):Sz (rA xs) ((xs.length+aF M.aD.sz xs)):=by
 intro l a b
 unfold rA
 exact (Sz.aGW hx.1 (fun x h=>M.aD.nB x (hx.2 x h)) (fun _ _ _=>rfl)) l a b
theorem M.aCQ.lT (xs:List M.aD) (hx:(xs.length≤maxLen ∧ ∀y∈xs,M.aD.ok y)) (hs:(xs.length+aF M.aD.sz xs)≤1048576):rL xs=some xs:=by
 have hm:=le_max hx.1
 unfold rL
 rw [aCA (by omega) (by omega),qA]
 refine aBV hx.1 (fun n k r hk hr => ?_) (fun n r => ?_) fuel 0 _ (by unfold fuel;omega) (by omega) (by simp) (by simp)
 ·simp only [jB]
  rw [if_pos (aY hk),aM hk,qA,M.aD.lT _ (hx.2 _ (qG hk)) (by have:=bO (f:=M.aD.sz) (qG hk);omega),qA,aM (by omega),qA,bC (by omega),qH]
 ·simp only [jB]
  rw [if_neg (by rw [aO];simp)]
theorem M.aCQ.lP (xs:List M.aD) (hx:(xs.length≤maxLen ∧ ∀y∈xs,M.aD.ok y)):rF xs xs=some true:=by
 have hm:=le_max hx.1
 unfold rF
 rw [if_neg (by simp)]
 refine aBR hx.1 (fun n k hk => ?_) (fun n => ?_) fuel 0 (by unfold fuel;omega) (by omega)
 ·simp only [jE]
  rw [if_pos (aY hk),aM hk]
  simp [bC (show k<9223372036854775807 by omega),M.aD.lP _ (hx.2 _ (qG hk))]
 ·simp only [jE]
  rw [if_neg (by rw [aO];simp)]
structure M.Database.ok (x:M.Database):Prop where
 Name:x.Name.size≤maxLen
 Version:inI x.Version
 Stores:(x.Stores.length≤maxLen ∧ ∀y∈x.Stores,M.aJ.ok y)
 Unique:(x.Unique.length≤maxLen ∧ ∀y∈x.Unique,M.aD.ok y)
def M.Database.sh:List Shp:=[.str,.int .i64,.sl M.aJ.sh,.sl M.aD.sh]
theorem M.Database.cZ (d:List D) (h:oC M.Database.sh d) : ∃x,d=M.Database.en x∧M.Database.ok x:=by
 simp only [M.Database.sh,oC,Has] at h
 obtain ⟨_,_,rfl,⟨a1,rfl,w1⟩,_,_,rfl,⟨a2,rfl,w2⟩,_,_,rfl,⟨_,rfl,w3,q3⟩,_,_,rfl,⟨_,rfl,w4,q4⟩,rfl⟩:=h
 obtain ⟨a3,rfl,e3⟩:=bE M.aJ.cZ q3
 obtain ⟨a4,rfl,e4⟩:=bE M.aD.cZ q4
 exact ⟨⟨a1,a2,a3,a4⟩,rfl,⟨w1,wf_i64 w2,⟨by simpa using w3,e3⟩,⟨by simpa using w4,e4⟩⟩⟩
def M.Database.sz (x:M.Database):Nat:=x.Name.size+((x.Stores.length+aF M.aJ.sz x.Stores)+((x.Unique.length+aF M.aD.sz x.Unique)))
theorem M.Database.nB (x:M.Database) (hx:M.Database.ok x):Sz (uK x) (M.Database.sz x):=by
 intro l a b
 unfold uK M.Database.sz
 exact (Sz.aDK hx.Name (Sz.vG (M.aF0.nB _ hx.Stores) (Sz.call (M.aCQ.nB _ hx.Unique)))) l a b
theorem M.Database.lT (x:M.Database) (hx:M.Database.ok x) (hs:M.Database.sz x≤1048576):sV x=some x:=by
 unfold M.Database.sz at hs
 unfold sV
 rw [M.aF0.lT _ hx.Stores (by omega),qA,M.aCQ.lT _ hx.Unique (by omega),qA]
theorem M.Database.lP (x:M.Database) (hx:M.Database.ok x):uN x x=some true:=by
 simp [uN,M.aF0.lP _ hx.Stores,M.aCQ.lP _ hx.Unique]
structure M.bB.ok (x:M.bB):Prop where
 Base:M.Database.ok x.Base
 Log:okB x.Log
 Count:inI x.Count
def M.bB.sh:List Shp:=[.str,.int .i64,.sl M.aJ.sh,.sl M.aD.sh,.sl [.int .u8],.int .i64]
theorem M.bB.cZ (d:List D) (h:oC M.bB.sh d) : ∃x,d=M.bB.en x∧M.bB.ok x:=by
 simp only [M.bB.sh,oC,Has] at h
 obtain ⟨_,_,rfl,⟨a1,rfl,w1⟩,_,_,rfl,⟨a2,rfl,w2⟩,_,_,rfl,⟨_,rfl,w3,q3⟩,_,_,rfl,⟨_,rfl,w4,q4⟩,_,_,rfl,⟨_,rfl,w5,q5⟩,_,_,rfl,⟨a6,rfl,w6⟩,rfl⟩:=h
 obtain ⟨a3,rfl,e3⟩:=bE M.aJ.cZ q3
 obtain ⟨a4,rfl,e4⟩:=bE M.aD.cZ q4
 obtain ⟨a5,rfl,e5⟩:=bE aQe q5
 exact ⟨⟨⟨a1,a2,a3,a4⟩,a5,a6⟩,rfl,⟨⟨w1,wf_i64 w2,⟨by simpa using w3,e3⟩,⟨by simpa using w4,e4⟩⟩,⟨by simpa using w5,e5⟩,wf_i64 w6⟩⟩
def M.bB.sz (x:M.bB):Nat:=M.Database.sz x.Base+(x.Log.length)
theorem M.bB.nB (x:M.bB) (hx:M.bB.ok x):Sz (aBb x) (M.bB.sz x):=by
 intro l a b
 unfold aBb M.bB.sz
 exact (Sz.vG (M.Database.nB _ hx.Base) (Sz.call (M.aD0.nB _ hx.Log))) l a b
theorem M.bB.lT (x:M.bB) (hx:M.bB.ok x) (hs:M.bB.sz x≤1048576):aCH x=some x:=by
 unfold M.bB.sz at hs
 unfold aCH
 rw [M.Database.lT _ hx.Base (by omega),qA,M.aD0.lT _ hx.Log (by omega),qA]
theorem M.bB.lP (x:M.bB) (hx:M.bB.ok x):aB6 x x=some true:=by
 simp [aB6,M.Database.lP _ hx.Base,M.aD0.lP _ hx.Log]
structure M.aW.ok (x:M.aW):Prop where
 Device:inI x.Device
 Seq:inI x.Seq
 Key:M.Key.ok x.Key
 Field:x.Field.size≤maxLen
 N:inI x.N
def M.aW.sh:List Shp:=[.int .i64,.int .i64,.int .i64,.int .i64,.str,.str,.int .i64]
theorem M.aW.cZ (d:List D) (h:oC M.aW.sh d) : ∃x,d=M.aW.en x∧M.aW.ok x:=by
 simp only [M.aW.sh,oC,Has] at h
 obtain ⟨_,_,rfl,⟨a1,rfl,w1⟩,_,_,rfl,⟨a2,rfl,w2⟩,_,_,rfl,⟨a3,rfl,w3⟩,_,_,rfl,⟨a4,rfl,w4⟩,_,_,rfl,⟨a5,rfl,w5⟩,_,_,rfl,⟨a6,rfl,w6⟩,_,_,rfl,⟨a7,rfl,w7⟩,rfl⟩:=h
 exact ⟨⟨a1,a2,⟨a3,a4,a5⟩,a6,a7⟩,rfl,⟨wf_i64 w1,wf_i64 w2,⟨wf_i64 w3,wf_i64 w4,w5⟩,w6,wf_i64 w7⟩⟩
def M.aW.sz (x:M.aW):Nat:=M.Key.sz x.Key+(x.Field.size)
theorem M.aW.nB (x:M.aW) (hx:M.aW.ok x):Sz (aA6 x) (M.aW.sz x):=by
 intro l a b
 unfold aA6 M.aW.sz
 exact (Sz.vG (M.Key.nB _ hx.Key) (Sz.str hx.Field)) l a b
theorem M.aW.lT (x:M.aW) (hx:M.aW.ok x) (hs:M.aW.sz x≤1048576):aAx x=some x:=by
 unfold M.aW.sz at hs
 unfold aAx
 rw [M.Key.lT _ hx.Key (by omega),qA]
theorem M.aW.lP (x:M.aW) (hx:M.aW.ok x):aAg x x=some true:=by
 simp [aAg,M.Key.lP _ hx.Key]
theorem M.aDN.nB (xs:List M.aW) (hx:(xs.length≤maxLen ∧ ∀y∈xs,M.aW.ok y)):Sz (tX xs) ((xs.length+aF M.aW.sz xs)):=by
 intro l a b
 unfold tX
 exact (Sz.aGW hx.1 (fun x h=>M.aW.nB x (hx.2 x h)) (fun _ _ _=>rfl)) l a b
theorem M.aDN.lT (xs:List M.aW) (hx:(xs.length≤maxLen ∧ ∀y∈xs,M.aW.ok y)) (hs:(xs.length+aF M.aW.sz xs)≤1048576):uB xs=some xs:=by
 have hm:=le_max hx.1
 unfold uB
 rw [aCA (by omega) (by omega),qA]
 refine aBV hx.1 (fun n k r hk hr => ?_) (fun n r => ?_) fuel 0 _ (by unfold fuel;omega) (by omega) (by simp) (by simp)
 ·simp only [mG]
  rw [if_pos (aY hk),aM hk,qA,M.aW.lT _ (hx.2 _ (qG hk)) (by have:=bO (f:=M.aW.sz) (qG hk);omega),qA,aM (by omega),qA,bC (by omega),qH]
 ·simp only [mG]
  rw [if_neg (by rw [aO];simp)]
theorem M.aDN.lP (xs:List M.aW) (hx:(xs.length≤maxLen ∧ ∀y∈xs,M.aW.ok y)):uP xs xs=some true:=by
 have hm:=le_max hx.1
 unfold uP
 rw [if_neg (by simp)]
 refine aBR hx.1 (fun n k hk => ?_) (fun n => ?_) fuel 0 (by unfold fuel;omega) (by omega)
 ·simp only [mE]
  rw [if_pos (aY hk),aM hk]
  simp [bC (show k<9223372036854775807 by omega),M.aW.lP _ (hx.2 _ (qG hk))]
 ·simp only [mE]
  rw [if_neg (by rw [aO];simp)]
structure M.aV.ok (x:M.aV):Prop where
 Device:inI x.Device
 Next:inI x.Next
 Writes:(x.Writes.length≤maxLen ∧ ∀y∈x.Writes,M.aW.ok y)
def M.aV.sh:List Shp:=[.int .i64,.int .i64,.sl M.aW.sh]
theorem M.aV.cZ (d:List D) (h:oC M.aV.sh d) : ∃x,d=M.aV.en x∧M.aV.ok x:=by
 simp only [M.aV.sh,oC,Has] at h
 obtain ⟨_,_,rfl,⟨a1,rfl,w1⟩,_,_,rfl,⟨a2,rfl,w2⟩,_,_,rfl,⟨_,rfl,w3,q3⟩,rfl⟩:=h
 obtain ⟨a3,rfl,e3⟩:=bE M.aW.cZ q3
 exact ⟨⟨a1,a2,a3⟩,rfl,⟨wf_i64 w1,wf_i64 w2,⟨by simpa using w3,e3⟩⟩⟩
def M.aV.sz (x:M.aV):Nat:=(x.Writes.length+aF M.aW.sz x.Writes)
theorem M.aV.nB (x:M.aV) (hx:M.aV.ok x):Sz (zK x) (M.aV.sz x):=by
 intro l a b
 unfold zK M.aV.sz
 exact (Sz.call (M.aDN.nB _ hx.Writes)) l a b
theorem M.aV.lT (x:M.aV) (hx:M.aV.ok x) (hs:M.aV.sz x≤1048576):yX x=some x:=by
 unfold M.aV.sz at hs
 unfold yX
 rw [M.aDN.lT _ hx.Writes (by omega),qA]
theorem M.aV.lP (x:M.aV) (hx:M.aV.ok x):aAE x x=some true:=by
 simp [aAE,M.aDN.lP _ hx.Writes]
structure M.Sync.ok (x:M.Sync):Prop where
 aV:M.aV.ok x.aV
 Tries:inI x.Tries
 WaitUntil:inI x.WaitUntil
def M.Sync.sh:List Shp:=[.int .i64,.int .i64,.sl M.aW.sh,.int .i64,.int .i64]
theorem M.Sync.cZ (d:List D) (h:oC M.Sync.sh d) : ∃x,d=M.Sync.en x∧M.Sync.ok x:=by
 simp only [M.Sync.sh,oC,Has] at h
 obtain ⟨_,_,rfl,⟨a1,rfl,w1⟩,_,_,rfl,⟨a2,rfl,w2⟩,_,_,rfl,⟨_,rfl,w3,q3⟩,_,_,rfl,⟨a4,rfl,w4⟩,_,_,rfl,⟨a5,rfl,w5⟩,rfl⟩:=h
 obtain ⟨a3,rfl,e3⟩:=bE M.aW.cZ q3
 exact ⟨⟨⟨a1,a2,a3⟩,a4,a5⟩,rfl,⟨⟨wf_i64 w1,wf_i64 w2,⟨by simpa using w3,e3⟩⟩,wf_i64 w4,wf_i64 w5⟩⟩
def M.Sync.sz (x:M.Sync):Nat:=M.aV.sz x.aV
theorem M.Sync.nB (x:M.Sync) (hx:M.Sync.ok x):Sz (aCK x) (M.Sync.sz x):=by
 intro l a b
 unfold aCK M.Sync.sz
 exact (Sz.call (M.aV.nB _ hx.aV)) l a b
theorem M.Sync.lT (x:M.Sync) (hx:M.Sync.ok x) (hs:M.Sync.sz x≤1048576):aCB x=some x:=by
 unfold M.Sync.sz at hs
 unfold aCB
 rw [M.aV.lT _ hx.aV (by omega),qA]
theorem M.Sync.lP (x:M.Sync) (hx:M.Sync.ok x):aBl x x=some true:=by
 simp [aBl,M.aV.lP _ hx.aV]
structure M.aE.ok (x:M.aE):Prop where
 Base:M.aJ.ok x.Base
 Seen:inI x.Seen
 Sync:M.Sync.ok x.Sync
def M.aE.sh:List Shp:=[.str,.sl M.Item.sh,.int .i64,.int .i64,.int .i64,.int .i64,.sl M.aW.sh,.int .i64,.int .i64]
theorem M.aE.cZ (d:List D) (h:oC M.aE.sh d) : ∃x,d=M.aE.en x∧M.aE.ok x:=by
 simp only [M.aE.sh,oC,Has] at h
 obtain ⟨_,_,rfl,⟨a1,rfl,w1⟩,_,_,rfl,⟨_,rfl,w2,q2⟩,_,_,rfl,⟨a3,rfl,w3⟩,_,_,rfl,⟨a4,rfl,w4⟩,_,_,rfl,⟨a5,rfl,w5⟩,_,_,rfl,⟨a6,rfl,w6⟩,_,_,rfl,⟨_,rfl,w7,q7⟩,_,_,rfl,⟨a8,rfl,w8⟩,_,_,rfl,⟨a9,rfl,w9⟩,rfl⟩:=h
 obtain ⟨a2,rfl,e2⟩:=bE M.Item.cZ q2
 obtain ⟨a7,rfl,e7⟩:=bE M.aW.cZ q7
 exact ⟨⟨⟨a1,a2,a3⟩,a4,⟨⟨a5,a6,a7⟩,a8,a9⟩⟩,rfl,⟨⟨w1,⟨by simpa using w2,e2⟩,wf_i64 w3⟩,wf_i64 w4,⟨⟨wf_i64 w5,wf_i64 w6,⟨by simpa using w7,e7⟩⟩,wf_i64 w8,wf_i64 w9⟩⟩⟩
def M.aE.sz (x:M.aE):Nat:=M.aJ.sz x.Base+(M.Sync.sz x.Sync)
theorem M.aE.nB (x:M.aE) (hx:M.aE.ok x):Sz (xN x) (M.aE.sz x):=by
 intro l a b
 unfold xN M.aE.sz
 exact (Sz.vG (M.aJ.nB _ hx.Base) (Sz.call (M.Sync.nB _ hx.Sync))) l a b
theorem M.aE.lT (x:M.aE) (hx:M.aE.ok x) (hs:M.aE.sz x≤1048576):xD x=some x:=by
 unfold M.aE.sz at hs
 unfold xD
 rw [M.aJ.lT _ hx.Base (by omega),qA,M.Sync.lT _ hx.Sync (by omega),qA]
theorem M.aE.lP (x:M.aE) (hx:M.aE.ok x):xA x x=some true:=by
 simp [xA,M.aJ.lP _ hx.Base,M.Sync.lP _ hx.Sync]
structure M.Bucket.ok (x:M.Bucket):Prop where
 Site:x.Site.size≤maxLen
 Top:x.Top.size≤maxLen
 Registration:M.Registration.ok x.Registration
 Caches:M.aA.ok x.Caches
 bB:M.bB.ok x.bB
 aE:M.aE.ok x.aE
 LastUsed:inI x.LastUsed
def M.Bucket.sh:List Shp:=[.str,.str,.str,.int .i64,.int .i64,.int .i64,.sl M.Cache.sh,.str,.int .i64,.sl M.aJ.sh,.sl M.aD.sh,.sl [.int .u8],.int .i64,.str,.sl M.Item.sh,.int .i64,.int .i64,.int .i64,.int .i64,.sl M.aW.sh,.int .i64,.int .i64,.int .i64,.bool]
theorem M.Bucket.cZ (d:List D) (h:oC M.Bucket.sh d) : ∃x,d=M.Bucket.en x∧M.Bucket.ok x:=by
 simp only [M.Bucket.sh,oC,Has] at h
 obtain ⟨_,_,rfl,⟨a1,rfl,w1⟩,_,_,rfl,⟨a2,rfl,w2⟩,_,_,rfl,⟨a3,rfl,w3⟩,_,_,rfl,⟨a4,rfl,w4⟩,_,_,rfl,⟨a5,rfl,w5⟩,_,_,rfl,⟨a6,rfl,w6⟩,_,_,rfl,⟨_,rfl,w7,q7⟩,_,_,rfl,⟨a8,rfl,w8⟩,_,_,rfl,⟨a9,rfl,w9⟩,_,_,rfl,⟨_,rfl,w10,q10⟩,_,_,rfl,⟨_,rfl,w11,q11⟩,_,_,rfl,⟨_,rfl,w12,q12⟩,_,_,rfl,⟨a13,rfl,w13⟩,_,_,rfl,⟨a14,rfl,w14⟩,_,_,rfl,⟨_,rfl,w15,q15⟩,_,_,rfl,⟨a16,rfl,w16⟩,_,_,rfl,⟨a17,rfl,w17⟩,_,_,rfl,⟨a18,rfl,w18⟩,_,_,rfl,⟨a19,rfl,w19⟩,_,_,rfl,⟨_,rfl,w20,q20⟩,_,_,rfl,⟨a21,rfl,w21⟩,_,_,rfl,⟨a22,rfl,w22⟩,_,_,rfl,⟨a23,rfl,w23⟩,_,_,rfl,⟨a24,rfl⟩,rfl⟩:=h
 obtain ⟨a7,rfl,e7⟩:=bE M.Cache.cZ q7
 obtain ⟨a10,rfl,e10⟩:=bE M.aJ.cZ q10
 obtain ⟨a11,rfl,e11⟩:=bE M.aD.cZ q11
 obtain ⟨a12,rfl,e12⟩:=bE aQe q12
 obtain ⟨a15,rfl,e15⟩:=bE M.Item.cZ q15
 obtain ⟨a20,rfl,e20⟩:=bE M.aW.cZ q20
 exact ⟨⟨a1,a2,⟨a3,a4,a5,a6⟩,⟨a7⟩,⟨⟨a8,a9,a10,a11⟩,a12,a13⟩,⟨⟨a14,a15,a16⟩,a17,⟨⟨a18,a19,a20⟩,a21,a22⟩⟩,a23,a24⟩,rfl,⟨w1,w2,⟨w3,wf_i64 w4,wf_i64 w5,wf_i64 w6⟩,⟨⟨by simpa using w7,e7⟩⟩,⟨⟨w8,wf_i64 w9,⟨by simpa using w10,e10⟩,⟨by simpa using w11,e11⟩⟩,⟨by simpa using w12,e12⟩,wf_i64 w13⟩,⟨⟨w14,⟨by simpa using w15,e15⟩,wf_i64 w16⟩,wf_i64 w17,⟨⟨wf_i64 w18,wf_i64 w19,⟨by simpa using w20,e20⟩⟩,wf_i64 w21,wf_i64 w22⟩⟩,wf_i64 w23⟩⟩
def M.Bucket.sz (x:M.Bucket):Nat:=x.Site.size+(x.Top.size+(M.Registration.sz x.Registration+(M.aA.sz x.Caches+(M.bB.sz x.bB+(M.aE.sz x.aE)))))
theorem M.Bucket.nB (x:M.Bucket) (hx:M.Bucket.ok x):Sz (aAI x) (M.Bucket.sz x):=by
 intro l a b
 unfold aAI M.Bucket.sz
 exact (Sz.aDK hx.Site (Sz.aDK hx.Top (Sz.vG (M.Registration.nB _ hx.Registration) (Sz.vG (M.aA.nB _ hx.Caches) (Sz.vG (M.bB.nB _ hx.bB) (Sz.call (M.aE.nB _ hx.aE))))))) l a b
theorem M.Bucket.lT (x:M.Bucket) (hx:M.Bucket.ok x) (hs:M.Bucket.sz x≤1048576):zY x=some x:=by
 unfold M.Bucket.sz at hs
 unfold zY
 rw [M.Registration.lT _ hx.Registration (by omega),qA,M.aA.lT _ hx.Caches (by omega),qA,M.bB.lT _ hx.bB (by omega),qA,M.aE.lT _ hx.aE (by omega),qA]
theorem M.Bucket.lP (x:M.Bucket) (hx:M.Bucket.ok x):zD x x=some true:=by
 simp [zD,M.Registration.lP _ hx.Registration,M.aA.lP _ hx.Caches,M.bB.lP _ hx.bB,M.aE.lP _ hx.aE]
theorem M.aD8.nB (xs:List M.Bucket) (hx:(xs.length≤maxLen ∧ ∀y∈xs,M.Bucket.ok y)):Sz (wL xs) ((xs.length+aF M.Bucket.sz xs)):=by
 intro l a b
 unfold wL
 exact (Sz.aGW hx.1 (fun x h=>M.Bucket.nB x (hx.2 x h)) (fun _ _ _=>rfl)) l a b
theorem M.aD8.lT (xs:List M.Bucket) (hx:(xs.length≤maxLen ∧ ∀y∈xs,M.Bucket.ok y)) (hs:(xs.length+aF M.Bucket.sz xs)≤1048576):xS xs=some xs:=by
 have hm:=le_max hx.1
 unfold xS
 rw [aCA (by omega) (by omega),qA]
 refine aBV hx.1 (fun n k r hk hr => ?_) (fun n r => ?_) fuel 0 _ (by unfold fuel;omega) (by omega) (by simp) (by simp)
 ·simp only [kW]
  rw [if_pos (aY hk),aM hk,qA,M.Bucket.lT _ (hx.2 _ (qG hk)) (by have:=bO (f:=M.Bucket.sz) (qG hk);omega),qA,aM (by omega),qA,bC (by omega),qH]
 ·simp only [kW]
  rw [if_neg (by rw [aO];simp)]
theorem M.aD8.lP (xs:List M.Bucket) (hx:(xs.length≤maxLen ∧ ∀y∈xs,M.Bucket.ok y)):xK xs xs=some true:=by
 have hm:=le_max hx.1
 unfold xK
 rw [if_neg (by simp)]
 refine aBR hx.1 (fun n k hk => ?_) (fun n => ?_) fuel 0 (by unfold fuel;omega) (by omega)
 ·simp only [kH]
  rw [if_pos (aY hk),aM hk]
  simp [bC (show k<9223372036854775807 by omega),M.Bucket.lP _ (hx.2 _ (qG hk))]
 ·simp only [kH]
  rw [if_neg (by rw [aO];simp)]
structure M.aC.ok (x:M.aC):Prop where
 Buckets:(x.Buckets.length≤maxLen ∧ ∀y∈x.Buckets,M.Bucket.ok y)
def M.aC.sh:List Shp:=[.sl M.Bucket.sh]
theorem M.aC.cZ (d:List D) (h:oC M.aC.sh d) : ∃x,d=M.aC.en x∧M.aC.ok x:=by
 simp only [M.aC.sh,oC,Has] at h
 obtain ⟨_,_,rfl,⟨_,rfl,w1,q1⟩,rfl⟩:=h
 obtain ⟨a1,rfl,e1⟩:=bE M.Bucket.cZ q1
 exact ⟨⟨a1⟩,rfl,⟨⟨by simpa using w1,e1⟩⟩⟩
def M.aC.sz (x:M.aC):Nat:=(x.Buckets.length+aF M.Bucket.sz x.Buckets)
theorem M.aC.nB (x:M.aC) (hx:M.aC.ok x):Sz (wA x) (M.aC.sz x):=by
 intro l a b
 unfold wA M.aC.sz
 exact (Sz.call (M.aD8.nB _ hx.Buckets)) l a b
theorem M.aC.lT (x:M.aC) (hx:M.aC.ok x) (hs:M.aC.sz x≤1048576):wS x=some x:=by
 unfold M.aC.sz at hs
 unfold wS
 rw [M.aD8.lT _ hx.Buckets (by omega),qA]
theorem M.aC.lP (x:M.aC) (hx:M.aC.ok x):xJ x x=some true:=by
 simp [xJ,M.aD8.lP _ hx.Buckets]
structure M.aN.ok (x:M.aN):Prop where
 Path:x.Path.size≤maxLen
 Version:inI x.Version
def M.aN.sh:List Shp:=[.str,.int .i64]
theorem M.aN.cZ (d:List D) (h:oC M.aN.sh d) : ∃x,d=M.aN.en x∧M.aN.ok x:=by
 simp only [M.aN.sh,oC,Has] at h
 obtain ⟨_,_,rfl,⟨a1,rfl,w1⟩,_,_,rfl,⟨a2,rfl,w2⟩,rfl⟩:=h
 exact ⟨⟨a1,a2⟩,rfl,⟨w1,wf_i64 w2⟩⟩
def M.aN.sz (x:M.aN):Nat:=x.Path.size
theorem M.aN.nB (x:M.aN) (hx:M.aN.ok x):Sz (yZ x) (M.aN.sz x):=by
 intro l a b
 unfold yZ M.aN.sz
 exact (Sz.str hx.Path) l a b
theorem M.aN.lT (x:M.aN) (hx:M.aN.ok x) (hs:M.aN.sz x≤1048576):yS x=some x:=by
 unfold M.aN.sz at hs
 unfold yS
 rfl
theorem M.aN.lP (x:M.aN) (hx:M.aN.ok x):yT x x=some true:=by
 simp [yT]
theorem M.aD6.nB (xs:List M.aN) (hx:(xs.length≤maxLen ∧ ∀y∈xs,M.aN.ok y)):Sz (wN xs) ((xs.length+aF M.aN.sz xs)):=by
 intro l a b
 unfold wN
 exact (Sz.aGW hx.1 (fun x h=>M.aN.nB x (hx.2 x h)) (fun _ _ _=>rfl)) l a b
theorem M.aD6.lT (xs:List M.aN) (hx:(xs.length≤maxLen ∧ ∀y∈xs,M.aN.ok y)) (hs:(xs.length+aF M.aN.sz xs)≤1048576):wO xs=some xs:=by
 have hm:=le_max hx.1
 unfold wO
 rw [aCA (by omega) (by omega),qA]
 refine aBV hx.1 (fun n k r hk hr => ?_) (fun n r => ?_) fuel 0 _ (by unfold fuel;omega) (by omega) (by simp) (by simp)
 ·simp only [kV]
  rw [if_pos (aY hk),aM hk,qA,M.aN.lT _ (hx.2 _ (qG hk)) (by have:=bO (f:=M.aN.sz) (qG hk);omega),qA,aM (by omega),qA,bC (by omega),qH]
 ·simp only [kV]
  rw [if_neg (by rw [aO];simp)]
theorem M.aD6.lP (xs:List M.aN) (hx:(xs.length≤maxLen ∧ ∀y∈xs,M.aN.ok y)):xM xs xs=some true:=by
 have hm:=le_max hx.1
 unfold xM
 rw [if_neg (by simp)]
 refine aBR hx.1 (fun n k hk => ?_) (fun n => ?_) fuel 0 (by unfold fuel;omega) (by omega)
 ·simp only [kU]
  rw [if_pos (aY hk),aM hk]
  simp [bC (show k<9223372036854775807 by omega),M.aN.lP _ (hx.2 _ (qG hk))]
 ·simp only [kU]
  rw [if_neg (by rw [aO];simp)]
structure M.Instr.ok (x:M.Instr):Prop where
 Kind:inI x.Kind
 R:inI x.R
 N:inI x.N
 Text:x.Text.size≤maxLen
def M.Instr.sh:List Shp:=[.int .i64,.int .i64,.int .i64,.str]
theorem M.Instr.cZ (d:List D) (h:oC M.Instr.sh d) : ∃x,d=M.Instr.en x∧M.Instr.ok x:=by
 simp only [M.Instr.sh,oC,Has] at h
 obtain ⟨_,_,rfl,⟨a1,rfl,w1⟩,_,_,rfl,⟨a2,rfl,w2⟩,_,_,rfl,⟨a3,rfl,w3⟩,_,_,rfl,⟨a4,rfl,w4⟩,rfl⟩:=h
 exact ⟨⟨a1,a2,a3,a4⟩,rfl,⟨wf_i64 w1,wf_i64 w2,wf_i64 w3,w4⟩⟩
def M.Instr.sz (x:M.Instr):Nat:=x.Text.size
theorem M.Instr.nB (x:M.Instr) (hx:M.Instr.ok x):Sz (aAb x) (M.Instr.sz x):=by
 intro l a b
 unfold aAb M.Instr.sz
 exact (Sz.str hx.Text) l a b
theorem M.Instr.lT (x:M.Instr) (hx:M.Instr.ok x) (hs:M.Instr.sz x≤1048576):aBA x=some x:=by
 unfold M.Instr.sz at hs
 unfold aBA
 rfl
theorem M.Instr.lP (x:M.Instr) (hx:M.Instr.ok x):aAa x x=some true:=by
 simp [aAa]
theorem M.aGR.nB (xs:List M.Instr) (hx:(xs.length≤maxLen ∧ ∀y∈xs,M.Instr.ok y)):Sz (zX xs) ((xs.length+aF M.Instr.sz xs)):=by
 intro l a b
 unfold zX
 exact (Sz.aGW hx.1 (fun x h=>M.Instr.nB x (hx.2 x h)) (fun _ _ _=>rfl)) l a b
theorem M.aGR.lT (xs:List M.Instr) (hx:(xs.length≤maxLen ∧ ∀y∈xs,M.Instr.ok y)) (hs:(xs.length+aF M.Instr.sz xs)≤1048576):aAK xs=some xs:=by
 have hm:=le_max hx.1
 unfold aAK
 rw [aCA (by omega) (by omega),qA]
 refine aBV hx.1 (fun n k r hk hr => ?_) (fun n r => ?_) fuel 0 _ (by unfold fuel;omega) (by omega) (by simp) (by simp)
 ·simp only [lQ]
  rw [if_pos (aY hk),aM hk,qA,M.Instr.lT _ (hx.2 _ (qG hk)) (by have:=bO (f:=M.Instr.sz) (qG hk);omega),qA,aM (by omega),qA,bC (by omega),qH]
 ·simp only [lQ]
  rw [if_neg (by rw [aO];simp)]
theorem M.aGR.lP (xs:List M.Instr) (hx:(xs.length≤maxLen ∧ ∀y∈xs,M.Instr.ok y)):zU xs xs=some true:=by
 have hm:=le_max hx.1
 unfold zU
 rw [if_neg (by simp)]
 refine aBR hx.1 (fun n k hk => ?_) (fun n => ?_) fuel 0 (by unfold fuel;omega) (by omega)
 ·simp only [lY]
  rw [if_pos (aY hk),aM hk]
  simp [bC (show k<9223372036854775807 by omega),M.Instr.lP _ (hx.2 _ (qG hk))]
 ·simp only [lY]
  rw [if_neg (by rw [aO];simp)]
theorem M.aMo.nB (xs:List Int) (hx:okI xs):Sz (aCC xs) (xs.length):=by
 intro l a b
 unfold aCC
 exact (Sz.str hx.1) l a b
theorem M.aMo.lT (xs:List Int) (hx:okI xs) (hs:xs.length≤1048576):aBp xs=some xs:=by
 have hm:=le_max hx.1
 unfold aBp
 rw [aCA (by omega) (by omega),qA]
 refine aBV hx.1 (fun n k r hk hr => ?_) (fun n r => ?_) fuel 0 _ (by unfold fuel;omega) (by omega) (by simp) (by simp)
 ·simp only [pJ]
  rw [if_pos (aY hk),aM hk,qA,aM (by omega),qA,bC (by omega),qH]
 ·simp only [pJ]
  rw [if_neg (by rw [aO];simp)]
theorem M.aMo.lP (xs:List Int) (hx:okI xs):aB7 xs xs=some true:=by
 have hm:=le_max hx.1
 unfold aB7
 rw [if_neg (by simp)]
 refine aBR hx.1 (fun n k hk => ?_) (fun n => ?_) fuel 0 (by unfold fuel;omega) (by omega)
 ·simp only [oZ]
  rw [if_pos (aY hk),aM hk]
  simp [bC (show k<9223372036854775807 by omega)]
 ·simp only [oZ]
  rw [if_neg (by rw [aO];simp)]
structure M.Machine.ok (x:M.Machine):Prop where
 Script:(x.Script.length≤maxLen ∧ ∀y∈x.Script,M.Instr.ok y)
 Pc:inI x.Pc
 Regs:okI x.Regs
 Steps:inI x.Steps
def M.Machine.sh:List Shp:=[.sl M.Instr.sh,.int .i64,.sl [.int .i64],.int .i64,.bool,.bool]
theorem M.Machine.cZ (d:List D) (h:oC M.Machine.sh d) : ∃x,d=M.Machine.en x∧M.Machine.ok x:=by
 simp only [M.Machine.sh,oC,Has] at h
 obtain ⟨_,_,rfl,⟨_,rfl,w1,q1⟩,_,_,rfl,⟨a2,rfl,w2⟩,_,_,rfl,⟨_,rfl,w3,q3⟩,_,_,rfl,⟨a4,rfl,w4⟩,_,_,rfl,⟨a5,rfl⟩,_,_,rfl,⟨a6,rfl⟩,rfl⟩:=h
 obtain ⟨a1,rfl,e1⟩:=bE M.Instr.cZ q1
 obtain ⟨a3,rfl,e3⟩:=bE aR8 q3
 exact ⟨⟨a1,a2,a3,a4,a5,a6⟩,rfl,⟨⟨by simpa using w1,e1⟩,wf_i64 w2,⟨by simpa using w3,e3⟩,wf_i64 w4⟩⟩
def M.Machine.sz (x:M.Machine):Nat:=(x.Script.length+aF M.Instr.sz x.Script)+(x.Regs.length)
theorem M.Machine.nB (x:M.Machine) (hx:M.Machine.ok x):Sz (xP x) (M.Machine.sz x):=by
 intro l a b
 unfold xP M.Machine.sz
 exact (Sz.vG (M.aGR.nB _ hx.Script) (Sz.call (M.aMo.nB _ hx.Regs))) l a b
theorem M.Machine.lT (x:M.Machine) (hx:M.Machine.ok x) (hs:M.Machine.sz x≤1048576):wJ x=some x:=by
 unfold M.Machine.sz at hs
 unfold wJ
 rw [M.aGR.lT _ hx.Script (by omega),qA,M.aMo.lT _ hx.Regs (by omega),qA]
theorem M.Machine.lP (x:M.Machine) (hx:M.Machine.ok x):vU x x=some true:=by
 simp [vU,M.aGR.lP _ hx.Script,M.aMo.lP _ hx.Regs]
structure M.bJ.ok (x:M.bJ):Prop where
 Id:inI x.Id
 Site:x.Site.size≤maxLen
 Top:x.Top.size≤maxLen
 Version:inI x.Version
 aN:(x.aN.length≤maxLen ∧ ∀y∈x.aN,M.aN.ok y)
 Machine:M.Machine.ok x.Machine
def M.bJ.sh:List Shp:=[.int .i64,.str,.str,.int .i64,.sl M.aN.sh,.sl M.Instr.sh,.int .i64,.sl [.int .i64],.int .i64,.bool,.bool]
theorem M.bJ.cZ (d:List D) (h:oC M.bJ.sh d) : ∃x,d=M.bJ.en x∧M.bJ.ok x:=by
 simp only [M.bJ.sh,oC,Has] at h
 obtain ⟨_,_,rfl,⟨a1,rfl,w1⟩,_,_,rfl,⟨a2,rfl,w2⟩,_,_,rfl,⟨a3,rfl,w3⟩,_,_,rfl,⟨a4,rfl,w4⟩,_,_,rfl,⟨_,rfl,w5,q5⟩,_,_,rfl,⟨_,rfl,w6,q6⟩,_,_,rfl,⟨a7,rfl,w7⟩,_,_,rfl,⟨_,rfl,w8,q8⟩,_,_,rfl,⟨a9,rfl,w9⟩,_,_,rfl,⟨a10,rfl⟩,_,_,rfl,⟨a11,rfl⟩,rfl⟩:=h
 obtain ⟨a5,rfl,e5⟩:=bE M.aN.cZ q5
 obtain ⟨a6,rfl,e6⟩:=bE M.Instr.cZ q6
 obtain ⟨a8,rfl,e8⟩:=bE aR8 q8
 exact ⟨⟨a1,a2,a3,a4,a5,⟨a6,a7,a8,a9,a10,a11⟩⟩,rfl,⟨wf_i64 w1,w2,w3,wf_i64 w4,⟨by simpa using w5,e5⟩,⟨⟨by simpa using w6,e6⟩,wf_i64 w7,⟨by simpa using w8,e8⟩,wf_i64 w9⟩⟩⟩
def M.bJ.sz (x:M.bJ):Nat:=x.Site.size+(x.Top.size+((x.aN.length+aF M.aN.sz x.aN)+(M.Machine.sz x.Machine)))
theorem M.bJ.nB (x:M.bJ) (hx:M.bJ.ok x):Sz (aB9 x) (M.bJ.sz x):=by
 intro l a b
 unfold aB9 M.bJ.sz
 exact (Sz.aDK hx.Site (Sz.aDK hx.Top (Sz.vG (M.aD6.nB _ hx.aN) (Sz.call (M.Machine.nB _ hx.Machine))))) l a b
theorem M.bJ.lT (x:M.bJ) (hx:M.bJ.ok x) (hs:M.bJ.sz x≤1048576):aBf x=some x:=by
 unfold M.bJ.sz at hs
 unfold aBf
 rw [M.aD6.lT _ hx.aN (by omega),qA,M.Machine.lT _ hx.Machine (by omega),qA]
theorem M.bJ.lP (x:M.bJ) (hx:M.bJ.ok x):aBu x x=some true:=by
 simp [aBu,M.aD6.lP _ hx.aN,M.Machine.lP _ hx.Machine]
theorem M.aKT.nB (xs:List M.bJ) (hx:(xs.length≤maxLen ∧ ∀y∈xs,M.bJ.ok y)):Sz (aAs xs) ((xs.length+aF M.bJ.sz xs)):=by
 intro l a b
 unfold aAs
 exact (Sz.aGW hx.1 (fun x h=>M.bJ.nB x (hx.2 x h)) (fun _ _ _=>rfl)) l a b
theorem M.aKT.lT (xs:List M.bJ) (hx:(xs.length≤maxLen ∧ ∀y∈xs,M.bJ.ok y)) (hs:(xs.length+aF M.bJ.sz xs)≤1048576):aAu xs=some xs:=by
 have hm:=le_max hx.1
 unfold aAu
 rw [aCA (by omega) (by omega),qA]
 refine aBV hx.1 (fun n k r hk hr => ?_) (fun n r => ?_) fuel 0 _ (by unfold fuel;omega) (by omega) (by simp) (by simp)
 ·simp only [nR]
  rw [if_pos (aY hk),aM hk,qA,M.bJ.lT _ (hx.2 _ (qG hk)) (by have:=bO (f:=M.bJ.sz) (qG hk);omega),qA,aM (by omega),qA,bC (by omega),qH]
 ·simp only [nR]
  rw [if_neg (by rw [aO];simp)]
theorem M.aKT.lP (xs:List M.bJ) (hx:(xs.length≤maxLen ∧ ∀y∈xs,M.bJ.ok y)):aAy xs xs=some true:=by
 have hm:=le_max hx.1
 unfold aAy
 rw [if_neg (by simp)]
 refine aBR hx.1 (fun n k hk => ?_) (fun n => ?_) fuel 0 (by unfold fuel;omega) (by omega)
 ·simp only [nT]
  rw [if_pos (aY hk),aM hk]
  simp [bC (show k<9223372036854775807 by omega),M.bJ.lP _ (hx.2 _ (qG hk))]
 ·simp only [nT]
  rw [if_neg (by rw [aO];simp)]
structure M.dA.ok (x:M.dA):Prop where
 Name:x.Name.size≤maxLen
 bJ:inI x.bJ
def M.dA.sh:List Shp:=[.str,.int .i64,.bool,.bool]
theorem M.dA.cZ (d:List D) (h:oC M.dA.sh d) : ∃x,d=M.dA.en x∧M.dA.ok x:=by
 simp only [M.dA.sh,oC,Has] at h
 obtain ⟨_,_,rfl,⟨a1,rfl,w1⟩,_,_,rfl,⟨a2,rfl,w2⟩,_,_,rfl,⟨a3,rfl⟩,_,_,rfl,⟨a4,rfl⟩,rfl⟩:=h
 exact ⟨⟨a1,a2,a3,a4⟩,rfl,⟨w1,wf_i64 w2⟩⟩
def M.dA.sz (x:M.dA):Nat:=x.Name.size
theorem M.dA.nB (x:M.dA) (hx:M.dA.ok x):Sz (aCN x) (M.dA.sz x):=by
 intro l a b
 unfold aCN M.dA.sz
 exact (Sz.str hx.Name) l a b
theorem M.dA.lT (x:M.dA) (hx:M.dA.ok x) (hs:M.dA.sz x≤1048576):aBs x=some x:=by
 unfold M.dA.sz at hs
 unfold aBs
 rfl
theorem M.dA.lP (x:M.dA) (hx:M.dA.ok x):aCF x x=some true:=by
 simp [aCF]
theorem M.aKW.nB (xs:List M.dA) (hx:(xs.length≤maxLen ∧ ∀y∈xs,M.dA.ok y)):Sz (aAm xs) ((xs.length+aF M.dA.sz xs)):=by
 intro l a b
 unfold aAm
 exact (Sz.aGW hx.1 (fun x h=>M.dA.nB x (hx.2 x h)) (fun _ _ _=>rfl)) l a b
theorem M.aKW.lT (xs:List M.dA) (hx:(xs.length≤maxLen ∧ ∀y∈xs,M.dA.ok y)) (hs:(xs.length+aF M.dA.sz xs)≤1048576):aAl xs=some xs:=by
 have hm:=le_max hx.1
 unfold aAl
 rw [aCA (by omega) (by omega),qA]
 refine aBV hx.1 (fun n k r hk hr => ?_) (fun n r => ?_) fuel 0 _ (by unfold fuel;omega) (by omega) (by simp) (by simp)
 ·simp only [nH]
  rw [if_pos (aY hk),aM hk,qA,M.dA.lT _ (hx.2 _ (qG hk)) (by have:=bO (f:=M.dA.sz) (qG hk);omega),qA,aM (by omega),qA,bC (by omega),qH]
 ·simp only [nH]
  rw [if_neg (by rw [aO];simp)]
theorem M.aKW.lP (xs:List M.dA) (hx:(xs.length≤maxLen ∧ ∀y∈xs,M.dA.ok y)):aAi xs xs=some true:=by
 have hm:=le_max hx.1
 unfold aAi
 rw [if_neg (by simp)]
 refine aBR hx.1 (fun n k hk => ?_) (fun n => ?_) fuel 0 (by unfold fuel;omega) (by omega)
 ·simp only [nV]
  rw [if_pos (aY hk),aM hk]
  simp [bC (show k<9223372036854775807 by omega),M.dA.lP _ (hx.2 _ (qG hk))]
 ·simp only [nV]
  rw [if_neg (by rw [aO];simp)]
structure M.aP.ok (x:M.aP):Prop where
 Locks:(x.Locks.length≤maxLen ∧ ∀y∈x.Locks,M.dA.ok y)
def M.aP.sh:List Shp:=[.sl M.dA.sh]
theorem M.aP.cZ (d:List D) (h:oC M.aP.sh d) : ∃x,d=M.aP.en x∧M.aP.ok x:=by
 simp only [M.aP.sh,oC,Has] at h
 obtain ⟨_,_,rfl,⟨_,rfl,w1,q1⟩,rfl⟩:=h
 obtain ⟨a1,rfl,e1⟩:=bE M.dA.cZ q1
 exact ⟨⟨a1⟩,rfl,⟨⟨by simpa using w1,e1⟩⟩⟩
def M.aP.sz (x:M.aP):Nat:=(x.Locks.length+aF M.dA.sz x.Locks)
theorem M.aP.nB (x:M.aP) (hx:M.aP.ok x):Sz (rD x) (M.aP.sz x):=by
 intro l a b
 unfold rD M.aP.sz
 exact (Sz.call (M.aKW.nB _ hx.Locks)) l a b
theorem M.aP.lT (x:M.aP) (hx:M.aP.ok x) (hs:M.aP.sz x≤1048576):rE x=some x:=by
 unfold M.aP.sz at hs
 unfold rE
 rw [M.aKW.lT _ hx.Locks (by omega),qA]
theorem M.aP.lP (x:M.aP) (hx:M.aP.ok x):rK x x=some true:=by
 simp [rK,M.aKW.lP _ hx.Locks]
structure M.fW.ok (x:M.fW):Prop where
 To:inI x.To
 From:inI x.From
 N:inI x.N
def M.fW.sh:List Shp:=[.int .i64,.int .i64,.int .i64]
theorem M.fW.cZ (d:List D) (h:oC M.fW.sh d) : ∃x,d=M.fW.en x∧M.fW.ok x:=by
 simp only [M.fW.sh,oC,Has] at h
 obtain ⟨_,_,rfl,⟨a1,rfl,w1⟩,_,_,rfl,⟨a2,rfl,w2⟩,_,_,rfl,⟨a3,rfl,w3⟩,rfl⟩:=h
 exact ⟨⟨a1,a2,a3⟩,rfl,⟨wf_i64 w1,wf_i64 w2,wf_i64 w3⟩⟩
theorem M.fW.lT (x:M.fW) (hx:M.fW.ok x):aB3 x=some x:=by
 unfold aB3
 rfl
theorem M.fW.lP (x:M.fW) (hx:M.fW.ok x):aCI x x=some true:=by
 simp [aCI]
theorem M.aKz.nB (xs:List M.fW) (hx:(xs.length≤maxLen ∧ ∀y∈xs,M.fW.ok y)):Sz (aA0 xs) (xs.length):=by
 intro l a b
 unfold aA0
 exact (Sz.str hx.1) l a b
theorem M.aKz.lT (xs:List M.fW) (hx:(xs.length≤maxLen ∧ ∀y∈xs,M.fW.ok y)) (hs:xs.length≤1048576):aAe xs=some xs:=by
 have hm:=le_max hx.1
 unfold aAe
 rw [aCA (by omega) (by omega),qA]
 refine aBV hx.1 (fun n k r hk hr => ?_) (fun n r => ?_) fuel 0 _ (by unfold fuel;omega) (by omega) (by simp) (by simp)
 ·simp only [nJ]
  rw [if_pos (aY hk),aM hk,qA,M.fW.lT _ (hx.2 _ (qG hk)),qA,aM (by omega),qA,bC (by omega),qH]
 ·simp only [nJ]
  rw [if_neg (by rw [aO];simp)]
theorem M.aKz.lP (xs:List M.fW) (hx:(xs.length≤maxLen ∧ ∀y∈xs,M.fW.ok y)):aA7 xs xs=some true:=by
 have hm:=le_max hx.1
 unfold aA7
 rw [if_neg (by simp)]
 refine aBR hx.1 (fun n k hk => ?_) (fun n => ?_) fuel 0 (by unfold fuel;omega) (by omega)
 ·simp only [nX]
  rw [if_pos (aY hk),aM hk]
  simp [bC (show k<9223372036854775807 by omega),M.fW.lP _ (hx.2 _ (qG hk))]
 ·simp only [nX]
  rw [if_neg (by rw [aO];simp)]
structure M.Channel.ok (x:M.Channel):Prop where
 Mails:(x.Mails.length≤maxLen ∧ ∀y∈x.Mails,M.fW.ok y)
def M.Channel.sh:List Shp:=[.sl M.fW.sh]
theorem M.Channel.cZ (d:List D) (h:oC M.Channel.sh d) : ∃x,d=M.Channel.en x∧M.Channel.ok x:=by
 simp only [M.Channel.sh,oC,Has] at h
 obtain ⟨_,_,rfl,⟨_,rfl,w1,q1⟩,rfl⟩:=h
 obtain ⟨a1,rfl,e1⟩:=bE M.fW.cZ q1
 exact ⟨⟨a1⟩,rfl,⟨⟨by simpa using w1,e1⟩⟩⟩
def M.Channel.sz (x:M.Channel):Nat:=x.Mails.length
theorem M.Channel.nB (x:M.Channel) (hx:M.Channel.ok x):Sz (xL x) (M.Channel.sz x):=by
 intro l a b
 unfold xL M.Channel.sz
 exact (Sz.call (M.aKz.nB _ hx.Mails)) l a b
theorem M.Channel.lT (x:M.Channel) (hx:M.Channel.ok x) (hs:M.Channel.sz x≤1048576):wC x=some x:=by
 unfold M.Channel.sz at hs
 unfold wC
 rw [M.aKz.lT _ hx.Mails (by omega),qA]
theorem M.Channel.lP (x:M.Channel) (hx:M.Channel.ok x):wU x x=some true:=by
 simp [wU,M.aKz.lP _ hx.Mails]
theorem M.aBd.nB (xs:List ByteArray) (hx:okS xs):Sz (vQ xs) ((xs.length+aF ByteArray.size xs)):=by
 intro l a b
 unfold vQ
 exact (Sz.strs hx (fun _ _ _=>rfl)) l a b
theorem M.aBd.lT (xs:List ByteArray) (hx:okS xs) (hs:(xs.length+aF ByteArray.size xs)≤1048576):xO xs=some xs:=by
 have hm:=le_max hx.1
 unfold xO
 rw [aCA (by omega) (by omega),qA]
 refine aBV hx.1 (fun n k r hk hr => ?_) (fun n r => ?_) fuel 0 _ (by unfold fuel;omega) (by omega) (by simp) (by simp)
 ·simp only [kL]
  rw [if_pos (aY hk),aM hk,qA,aM (by omega),qA,bC (by omega),qH]
 ·simp only [kL]
  rw [if_neg (by rw [aO];simp)]
theorem M.aBd.lP (xs:List ByteArray) (hx:okS xs):xH xs xs=some true:=by
 have hm:=le_max hx.1
 unfold xH
 rw [if_neg (by simp)]
 refine aBR hx.1 (fun n k hk => ?_) (fun n => ?_) fuel 0 (by unfold fuel;omega) (by omega)
 ·simp only [kO]
  rw [if_pos (aY hk),aM hk]
  simp [bC (show k<9223372036854775807 by omega)]
 ·simp only [kO]
  rw [if_neg (by rw [aO];simp)]
structure M.Site.ok (x:M.Site):Prop where
 Name:x.Name.size≤maxLen
 Version:inI x.Version
 Files:okS x.Files
def M.Site.sh:List Shp:=[.str,.int .i64,.sl [.str],.bool]
theorem M.Site.cZ (d:List D) (h:oC M.Site.sh d) : ∃x,d=M.Site.en x∧M.Site.ok x:=by
 simp only [M.Site.sh,oC,Has] at h
 obtain ⟨_,_,rfl,⟨a1,rfl,w1⟩,_,_,rfl,⟨a2,rfl,w2⟩,_,_,rfl,⟨_,rfl,w3,q3⟩,_,_,rfl,⟨a4,rfl⟩,rfl⟩:=h
 obtain ⟨a3,rfl,e3⟩:=bE aRx q3
 exact ⟨⟨a1,a2,a3,a4⟩,rfl,⟨w1,wf_i64 w2,⟨by simpa using w3,e3⟩⟩⟩
def M.Site.sz (x:M.Site):Nat:=x.Name.size+((x.Files.length+aF ByteArray.size x.Files))
theorem M.Site.nB (x:M.Site) (hx:M.Site.ok x):Sz (aBj x) (M.Site.sz x):=by
 intro l a b
 unfold aBj M.Site.sz
 exact (Sz.aDK hx.Name (Sz.call (M.aBd.nB _ hx.Files))) l a b
theorem M.Site.lT (x:M.Site) (hx:M.Site.ok x) (hs:M.Site.sz x≤1048576):aBz x=some x:=by
 unfold M.Site.sz at hs
 unfold aBz
 rw [M.aBd.lT _ hx.Files (by omega),qA]
theorem M.Site.lP (x:M.Site) (hx:M.Site.ok x):aBe x x=some true:=by
 simp [aBe,M.aBd.lP _ hx.Files]
theorem M.aKN.nB (xs:List M.Site) (hx:(xs.length≤maxLen ∧ ∀y∈xs,M.Site.ok y)):Sz (aBK xs) ((xs.length+aF M.Site.sz xs)):=by
 intro l a b
 unfold aBK
 exact (Sz.aGW hx.1 (fun x h=>M.Site.nB x (hx.2 x h)) (fun _ _ _=>rfl)) l a b
theorem M.aKN.lT (xs:List M.Site) (hx:(xs.length≤maxLen ∧ ∀y∈xs,M.Site.ok y)) (hs:(xs.length+aF M.Site.sz xs)≤1048576):aA1 xs=some xs:=by
 have hm:=le_max hx.1
 unfold aA1
 rw [aCA (by omega) (by omega),qA]
 refine aBV hx.1 (fun n k r hk hr => ?_) (fun n r => ?_) fuel 0 _ (by unfold fuel;omega) (by omega) (by simp) (by simp)
 ·simp only [nS]
  rw [if_pos (aY hk),aM hk,qA,M.Site.lT _ (hx.2 _ (qG hk)) (by have:=bO (f:=M.Site.sz) (qG hk);omega),qA,aM (by omega),qA,bC (by omega),qH]
 ·simp only [nS]
  rw [if_neg (by rw [aO];simp)]
theorem M.aKN.lP (xs:List M.Site) (hx:(xs.length≤maxLen ∧ ∀y∈xs,M.Site.ok y)):aBL xs xs=some true:=by
 have hm:=le_max hx.1
 unfold aBL
 rw [if_neg (by simp)]
 refine aBR hx.1 (fun n k hk => ?_) (fun n => ?_) fuel 0 (by unfold fuel;omega) (by omega)
 ·simp only [nP]
  rw [if_pos (aY hk),aM hk]
  simp [bC (show k<9223372036854775807 by omega),M.Site.lP _ (hx.2 _ (qG hk))]
 ·simp only [nP]
  rw [if_neg (by rw [aO];simp)]
structure M.aK.ok (x:M.aK):Prop where
 Device:inI x.Device
 Seq:inI x.Seq
def M.aK.sh:List Shp:=[.int .i64,.int .i64]
theorem M.aK.cZ (d:List D) (h:oC M.aK.sh d) : ∃x,d=M.aK.en x∧M.aK.ok x:=by
 simp only [M.aK.sh,oC,Has] at h
 obtain ⟨_,_,rfl,⟨a1,rfl,w1⟩,_,_,rfl,⟨a2,rfl,w2⟩,rfl⟩:=h
 exact ⟨⟨a1,a2⟩,rfl,⟨wf_i64 w1,wf_i64 w2⟩⟩
theorem M.aK.lT (x:M.aK) (hx:M.aK.ok x):xI x=some x:=by
 unfold xI
 rfl
theorem M.aK.lP (x:M.aK) (hx:M.aK.ok x):wE x x=some true:=by
 simp [wE]
theorem M.aC3.nB (xs:List M.aK) (hx:(xs.length≤maxLen ∧ ∀y∈xs,M.aK.ok y)):Sz (tV xs) (xs.length):=by
 intro l a b
 unfold tV
 exact (Sz.str hx.1) l a b
theorem M.aC3.lT (xs:List M.aK) (hx:(xs.length≤maxLen ∧ ∀y∈xs,M.aK.ok y)) (hs:xs.length≤1048576):uD xs=some xs:=by
 have hm:=le_max hx.1
 unfold uD
 rw [aCA (by omega) (by omega),qA]
 refine aBV hx.1 (fun n k r hk hr => ?_) (fun n r => ?_) fuel 0 _ (by unfold fuel;omega) (by omega) (by simp) (by simp)
 ·simp only [jZ]
  rw [if_pos (aY hk),aM hk,qA,M.aK.lT _ (hx.2 _ (qG hk)),qA,aM (by omega),qA,bC (by omega),qH]
 ·simp only [jZ]
  rw [if_neg (by rw [aO];simp)]
theorem M.aC3.lP (xs:List M.aK) (hx:(xs.length≤maxLen ∧ ∀y∈xs,M.aK.ok y)):tJ xs xs=some true:=by
 have hm:=le_max hx.1
 unfold tJ
 rw [if_neg (by simp)]
 refine aBR hx.1 (fun n k hk => ?_) (fun n => ?_) fuel 0 (by unfold fuel;omega) (by omega)
 ·simp only [jX]
  rw [if_pos (aY hk),aM hk]
  simp [bC (show k<9223372036854775807 by omega),M.aK.lP _ (hx.2 _ (qG hk))]
 ·simp only [jX]
  rw [if_neg (by rw [aO];simp)]
structure M.Server.ok (x:M.Server):Prop where
 aJ:M.aJ.ok x.aJ
 aK:(x.aK.length≤maxLen ∧ ∀y∈x.aK,M.aK.ok y)
 Changes:(x.Changes.length≤maxLen ∧ ∀y∈x.Changes,M.aW.ok y)
def M.Server.sh:List Shp:=[.str,.sl M.Item.sh,.int .i64,.sl M.aK.sh,.sl M.aW.sh]
theorem M.Server.cZ (d:List D) (h:oC M.Server.sh d) : ∃x,d=M.Server.en x∧M.Server.ok x:=by
 simp only [M.Server.sh,oC,Has] at h
 obtain ⟨_,_,rfl,⟨a1,rfl,w1⟩,_,_,rfl,⟨_,rfl,w2,q2⟩,_,_,rfl,⟨a3,rfl,w3⟩,_,_,rfl,⟨_,rfl,w4,q4⟩,_,_,rfl,⟨_,rfl,w5,q5⟩,rfl⟩:=h
 obtain ⟨a2,rfl,e2⟩:=bE M.Item.cZ q2
 obtain ⟨a4,rfl,e4⟩:=bE M.aK.cZ q4
 obtain ⟨a5,rfl,e5⟩:=bE M.aW.cZ q5
 exact ⟨⟨⟨a1,a2,a3⟩,a4,a5⟩,rfl,⟨⟨w1,⟨by simpa using w2,e2⟩,wf_i64 w3⟩,⟨by simpa using w4,e4⟩,⟨by simpa using w5,e5⟩⟩⟩
def M.Server.sz (x:M.Server):Nat:=M.aJ.sz x.aJ+(x.aK.length+((x.Changes.length+aF M.aW.sz x.Changes)))
theorem M.Server.nB (x:M.Server) (hx:M.Server.ok x):Sz (yU x) (M.Server.sz x):=by
 intro l a b
 unfold yU M.Server.sz
 exact (Sz.vG (M.aJ.nB _ hx.aJ) (Sz.vG (M.aC3.nB _ hx.aK) (Sz.call (M.aDN.nB _ hx.Changes)))) l a b
theorem M.Server.lT (x:M.Server) (hx:M.Server.ok x) (hs:M.Server.sz x≤1048576):aAH x=some x:=by
 unfold M.Server.sz at hs
 unfold aAH
 rw [M.aJ.lT _ hx.aJ (by omega),qA,M.aC3.lT _ hx.aK (by omega),qA,M.aDN.lT _ hx.Changes (by omega),qA]
theorem M.Server.lP (x:M.Server) (hx:M.Server.ok x):zE x x=some true:=by
 simp [zE,M.aJ.lP _ hx.aJ,M.aC3.lP _ hx.aK,M.aDN.lP _ hx.Changes]
theorem M.aEC.nB (xs:List M.Server) (hx:(xs.length≤maxLen ∧ ∀y∈xs,M.Server.ok y)):Sz (xT xs) ((xs.length+aF M.Server.sz xs)):=by
 intro l a b
 unfold xT
 exact (Sz.aGW hx.1 (fun x h=>M.Server.nB x (hx.2 x h)) (fun _ _ _=>rfl)) l a b
theorem M.aEC.lT (xs:List M.Server) (hx:(xs.length≤maxLen ∧ ∀y∈xs,M.Server.ok y)) (hs:(xs.length+aF M.Server.sz xs)≤1048576):wP xs=some xs:=by
 have hm:=le_max hx.1
 unfold wP
 rw [aCA (by omega) (by omega),qA]
 refine aBV hx.1 (fun n k r hk hr => ?_) (fun n r => ?_) fuel 0 _ (by unfold fuel;omega) (by omega) (by simp) (by simp)
 ·simp only [kR]
  rw [if_pos (aY hk),aM hk,qA,M.Server.lT _ (hx.2 _ (qG hk)) (by have:=bO (f:=M.Server.sz) (qG hk);omega),qA,aM (by omega),qA,bC (by omega),qH]
 ·simp only [kR]
  rw [if_neg (by rw [aO];simp)]
theorem M.aEC.lP (xs:List M.Server) (hx:(xs.length≤maxLen ∧ ∀y∈xs,M.Server.ok y)):xF xs xs=some true:=by
 have hm:=le_max hx.1
 unfold xF
 rw [if_neg (by simp)]
 refine aBR hx.1 (fun n k hk => ?_) (fun n => ?_) fuel 0 (by unfold fuel;omega) (by omega)
 ·simp only [kN]
  rw [if_pos (aY hk),aM hk]
  simp [bC (show k<9223372036854775807 by omega),M.Server.lP _ (hx.2 _ (qG hk))]
 ·simp only [kN]
  rw [if_neg (by rw [aO];simp)]
structure M.World.ok (x:M.World):Prop where
 Now:inI x.Now
 Device:inI x.Device
 aC:M.aC.ok x.aC
 Pages:(x.Pages.length≤maxLen ∧ ∀y∈x.Pages,M.bJ.ok y)
 NextPage:inI x.NextPage
 Locks:M.aP.ok x.Locks
 Channel:M.Channel.ok x.Channel
 Sites:(x.Sites.length≤maxLen ∧ ∀y∈x.Sites,M.Site.ok y)
 Servers:(x.Servers.length≤maxLen ∧ ∀y∈x.Servers,M.Server.ok y)
def M.World.sh:List Shp:=[.int .i64,.bool,.int .i64,.sl M.Bucket.sh,.sl M.bJ.sh,.int .i64,.sl M.dA.sh,.sl M.fW.sh,.sl M.Site.sh,.sl M.Server.sh]
theorem M.World.cZ (d:List D) (h:oC M.World.sh d) : ∃x,d=M.World.en x∧M.World.ok x:=by
 simp only [M.World.sh,oC,Has] at h
 obtain ⟨_,_,rfl,⟨a1,rfl,w1⟩,_,_,rfl,⟨a2,rfl⟩,_,_,rfl,⟨a3,rfl,w3⟩,_,_,rfl,⟨_,rfl,w4,q4⟩,_,_,rfl,⟨_,rfl,w5,q5⟩,_,_,rfl,⟨a6,rfl,w6⟩,_,_,rfl,⟨_,rfl,w7,q7⟩,_,_,rfl,⟨_,rfl,w8,q8⟩,_,_,rfl,⟨_,rfl,w9,q9⟩,_,_,rfl,⟨_,rfl,w10,q10⟩,rfl⟩:=h
 obtain ⟨a4,rfl,e4⟩:=bE M.Bucket.cZ q4
 obtain ⟨a5,rfl,e5⟩:=bE M.bJ.cZ q5
 obtain ⟨a7,rfl,e7⟩:=bE M.dA.cZ q7
 obtain ⟨a8,rfl,e8⟩:=bE M.fW.cZ q8
 obtain ⟨a9,rfl,e9⟩:=bE M.Site.cZ q9
 obtain ⟨a10,rfl,e10⟩:=bE M.Server.cZ q10
 exact ⟨⟨a1,a2,a3,⟨a4⟩,a5,a6,⟨a7⟩,⟨a8⟩,a9,a10⟩,rfl,⟨wf_i64 w1,wf_i64 w3,⟨⟨by simpa using w4,e4⟩⟩,⟨by simpa using w5,e5⟩,wf_i64 w6,⟨⟨by simpa using w7,e7⟩⟩,⟨⟨by simpa using w8,e8⟩⟩,⟨by simpa using w9,e9⟩,⟨by simpa using w10,e10⟩⟩⟩
def M.World.sz (x:M.World):Nat:=M.aC.sz x.aC+((x.Pages.length+aF M.bJ.sz x.Pages)+(M.aP.sz x.Locks+(M.Channel.sz x.Channel+((x.Sites.length+aF M.Site.sz x.Sites)+((x.Servers.length+aF M.Server.sz x.Servers))))))
theorem M.World.nB (x:M.World) (hx:M.World.ok x):Sz (aAv x) (M.World.sz x):=by
 intro l a b
 unfold aAv M.World.sz
 exact (Sz.vG (M.aC.nB _ hx.aC) (Sz.vG (M.aKT.nB _ hx.Pages) (Sz.vG (M.aP.nB _ hx.Locks) (Sz.vG (M.Channel.nB _ hx.Channel) (Sz.vG (M.aKN.nB _ hx.Sites) (Sz.call (M.aEC.nB _ hx.Servers))))))) l a b
theorem M.World.lT (x:M.World) (hx:M.World.ok x) (hs:M.World.sz x≤1048576):nG x=some x:=by
 unfold M.World.sz at hs
 unfold nG
 rw [M.aC.lT _ hx.aC (by omega),qA,M.aKT.lT _ hx.Pages (by omega),qA,M.aP.lT _ hx.Locks (by omega),qA,M.Channel.lT _ hx.Channel (by omega),qA,M.aKN.lT _ hx.Sites (by omega),qA,M.aEC.lT _ hx.Servers (by omega),qA]
theorem M.World.lP (x:M.World) (hx:M.World.ok x):nE x x=some true:=by
 simp [nE,M.aC.lP _ hx.aC,M.aKT.lP _ hx.Pages,M.aP.lP _ hx.Locks,M.Channel.lP _ hx.Channel,M.aKN.lP _ hx.Sites,M.aEC.lP _ hx.Servers]
end Go.Proofs.YtidhkhdnjonjfaaGreat.gen
