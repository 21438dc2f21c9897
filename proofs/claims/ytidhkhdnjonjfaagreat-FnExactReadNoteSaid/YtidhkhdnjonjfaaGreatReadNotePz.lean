/-
  Helper text. No conditions.
-/
import Derived.Test.YtidhkhdnjonjfaaGreatReadNoteMod
set_option linter.unusedVariables false
set_option linter.unusedSimpArgs false
namespace Go.Proofs.YtidhkhdnjonjfaaGreat.gen
open Go Go.Sh
structure M.Registration.ok (x:M.Registration):Prop where
 Site:x.Site.size≤maxLen
 Installing:inI x.Installing
 Waiting:inI x.Waiting
 Active:inI x.Active
def M.Registration.sh:List Shp:=[.str,.int .i64,.int .i64,.int .i64]
theorem M.Registration.bV (d:List D) (h:jP M.Registration.sh d) : ∃x,d=M.Registration.en x∧M.Registration.ok x:=by
 simp only [M.Registration.sh,jP,Has] at h
 obtain ⟨_,_,rfl,⟨a1,rfl,w1⟩,_,_,rfl,⟨a2,rfl,w2⟩,_,_,rfl,⟨a3,rfl,w3⟩,_,_,rfl,⟨a4,rfl,w4⟩,rfl⟩:=h
 exact ⟨⟨a1,a2,a3,a4⟩,rfl,⟨w1,wf_i64 w2,wf_i64 w3,wf_i64 w4⟩⟩
def M.Registration.sz (x:M.Registration):Nat:=x.Site.size
theorem M.Registration.iR (x:M.Registration) (hx:M.Registration.ok x):Sz (gW x) (M.Registration.sz x):=by
 intro l a b
 unfold gW M.Registration.sz
 exact (Sz.str hx.Site) l a b
theorem M.Registration.hH (x:M.Registration) (hx:M.Registration.ok x) (hs:M.Registration.sz x≤1048576):gY x=some x:=by
 unfold M.Registration.sz at hs
 unfold gY
 rfl
theorem M.Registration.hJ (x:M.Registration) (hx:M.Registration.ok x):hE x x=some true:=by
 simp [hE]
theorem M.aFF.iR (xs:List Int) (hx:okB xs):Sz (oQ xs) (xs.length):=by
 intro l a b
 unfold oQ
 exact (Sz.str hx.1) l a b
theorem M.aFF.hH (xs:List Int) (hx:okB xs) (hs:xs.length≤1048576):oR xs=some xs:=by
 have hm:=le_max hx.1
 unfold oR
 rw [wG (by omega) (by omega),qA]
 refine vF hx.1 (fun n k r hk hr => ?_) (fun n r => ?_) fuel 0 _ (by unfold fuel;omega) (by omega) (by simp) (by simp)
 ·simp only [jI]
  rw [if_pos (bD hk),aF hk,qA,aF (by omega),qA,bR (by omega),qH]
 ·simp only [jI]
  rw [if_neg (by rw [aJ];simp)]
theorem M.aFF.hJ (xs:List Int) (hx:okB xs):oS xs xs=some true:=by
 have hm:=le_max hx.1
 unfold oS
 rw [if_neg (by simp)]
 refine uZ hx.1 (fun n k hk => ?_) (fun n => ?_) fuel 0 (by unfold fuel;omega) (by omega)
 ·simp only [jC]
  rw [if_pos (bD hk),aF hk]
  simp [bR (show k<9223372036854775807 by omega)]
 ·simp only [jC]
  rw [if_neg (by rw [aJ];simp)]
structure M.Response.ok (x:M.Response):Prop where
 Type_:inI x.Type_
 Status:inI x.Status
 Version:inI x.Version
 Body:okB x.Body
def M.Response.sh:List Shp:=[.int .i64,.int .i64,.int .i64,.sl [.int .u8],.bool]
theorem M.Response.bV (d:List D) (h:jP M.Response.sh d) : ∃x,d=M.Response.en x∧M.Response.ok x:=by
 simp only [M.Response.sh,jP,Has] at h
 obtain ⟨_,_,rfl,⟨a1,rfl,w1⟩,_,_,rfl,⟨a2,rfl,w2⟩,_,_,rfl,⟨a3,rfl,w3⟩,_,_,rfl,⟨_,rfl,w4,q4⟩,_,_,rfl,⟨a5,rfl⟩,rfl⟩:=h
 obtain ⟨a4,rfl,e4⟩:=aQ aKT q4
 exact ⟨⟨a1,a2,a3,a4,a5⟩,rfl,⟨wf_i64 w1,wf_i64 w2,wf_i64 w3,⟨by simpa using w4,e4⟩⟩⟩
def M.Response.sz (x:M.Response):Nat:=x.Body.length
theorem M.Response.iR (x:M.Response) (hx:M.Response.ok x):Sz (mF x) (M.Response.sz x):=by
 intro l a b
 unfold mF M.Response.sz
 exact (Sz.call (M.aFF.iR _ hx.Body)) l a b
theorem M.Response.hH (x:M.Response) (hx:M.Response.ok x) (hs:M.Response.sz x≤1048576):lZ x=some x:=by
 unfold M.Response.sz at hs
 unfold lZ
 rw [M.aFF.hH _ hx.Body (by omega),qA]
theorem M.Response.hJ (x:M.Response) (hx:M.Response.ok x):mI x x=some true:=by
 simp [mI,M.aFF.hJ _ hx.Body]
structure M.Cached.ok (x:M.Cached):Prop where
 Site:x.Site.size≤maxLen
 Path:x.Path.size≤maxLen
 Response:M.Response.ok x.Response
def M.Cached.sh:List Shp:=[.str,.str,.int .i64,.int .i64,.int .i64,.sl [.int .u8],.bool]
theorem M.Cached.bV (d:List D) (h:jP M.Cached.sh d) : ∃x,d=M.Cached.en x∧M.Cached.ok x:=by
 simp only [M.Cached.sh,jP,Has] at h
 obtain ⟨_,_,rfl,⟨a1,rfl,w1⟩,_,_,rfl,⟨a2,rfl,w2⟩,_,_,rfl,⟨a3,rfl,w3⟩,_,_,rfl,⟨a4,rfl,w4⟩,_,_,rfl,⟨a5,rfl,w5⟩,_,_,rfl,⟨_,rfl,w6,q6⟩,_,_,rfl,⟨a7,rfl⟩,rfl⟩:=h
 obtain ⟨a6,rfl,e6⟩:=aQ aKT q6
 exact ⟨⟨a1,a2,⟨a3,a4,a5,a6,a7⟩⟩,rfl,⟨w1,w2,⟨wf_i64 w3,wf_i64 w4,wf_i64 w5,⟨by simpa using w6,e6⟩⟩⟩⟩
def M.Cached.sz (x:M.Cached):Nat:=x.Site.size+(x.Path.size+(M.Response.sz x.Response))
theorem M.Cached.iR (x:M.Cached) (hx:M.Cached.ok x):Sz (pK x) (M.Cached.sz x):=by
 intro l a b
 unfold pK M.Cached.sz
 exact (Sz.zB hx.Site (Sz.zB hx.Path (Sz.call (M.Response.iR _ hx.Response)))) l a b
theorem M.Cached.hH (x:M.Cached) (hx:M.Cached.ok x) (hs:M.Cached.sz x≤1048576):rC x=some x:=by
 unfold M.Cached.sz at hs
 unfold rC
 rw [M.Response.hH _ hx.Response (by omega),qA]
theorem M.Cached.hJ (x:M.Cached) (hx:M.Cached.ok x):rD x x=some true:=by
 simp [rD,M.Response.hJ _ hx.Response]
theorem M.aCw.iR (xs:List M.Cached) (hx:(xs.length≤maxLen ∧ ∀y∈xs,M.Cached.ok y)):Sz (nM xs) ((xs.length+eA M.Cached.sz xs)):=by
 intro l a b
 unfold nM
 exact (Sz.aBp hx.1 (fun x h=>M.Cached.iR x (hx.2 x h)) (fun _ _ _=>rfl)) l a b
theorem M.aCw.hH (xs:List M.Cached) (hx:(xs.length≤maxLen ∧ ∀y∈xs,M.Cached.ok y)) (hs:(xs.length+eA M.Cached.sz xs)≤1048576):nX xs=some xs:=by
 have hm:=le_max hx.1
 unfold nX
 rw [wG (by omega) (by omega),qA]
 refine vF hx.1 (fun n k r hk hr => ?_) (fun n r => ?_) fuel 0 _ (by unfold fuel;omega) (by omega) (by simp) (by simp)
 ·simp only [gB]
  rw [if_pos (bD hk),aF hk,qA,M.Cached.hH _ (hx.2 _ (qG hk)) (by have:=eP (f:=M.Cached.sz) (qG hk);omega),qA,aF (by omega),qA,bR (by omega),qH]
 ·simp only [gB]
  rw [if_neg (by rw [aJ];simp)]
theorem M.aCw.hJ (xs:List M.Cached) (hx:(xs.length≤maxLen ∧ ∀y∈xs,M.Cached.ok y)):nT xs xs=some true:=by
 have hm:=le_max hx.1
 unfold nT
 rw [if_neg (by simp)]
 refine uZ hx.1 (fun n k hk => ?_) (fun n => ?_) fuel 0 (by unfold fuel;omega) (by omega)
 ·simp only [gJ]
  rw [if_pos (bD hk),aF hk]
  simp [bR (show k<9223372036854775807 by omega),M.Cached.hJ _ (hx.2 _ (qG hk))]
 ·simp only [gJ]
  rw [if_neg (by rw [aJ];simp)]
structure M.Cache.ok (x:M.Cache):Prop where
 Version:inI x.Version
 Entries:(x.Entries.length≤maxLen ∧ ∀y∈x.Entries,M.Cached.ok y)
def M.Cache.sh:List Shp:=[.int .i64,.sl M.Cached.sh]
theorem M.Cache.bV (d:List D) (h:jP M.Cache.sh d) : ∃x,d=M.Cache.en x∧M.Cache.ok x:=by
 simp only [M.Cache.sh,jP,Has] at h
 obtain ⟨_,_,rfl,⟨a1,rfl,w1⟩,_,_,rfl,⟨_,rfl,w2,q2⟩,rfl⟩:=h
 obtain ⟨a2,rfl,e2⟩:=aQ M.Cached.bV q2
 exact ⟨⟨a1,a2⟩,rfl,⟨wf_i64 w1,⟨by simpa using w2,e2⟩⟩⟩
def M.Cache.sz (x:M.Cache):Nat:=(x.Entries.length+eA M.Cached.sz x.Entries)
theorem M.Cache.iR (x:M.Cache) (hx:M.Cache.ok x):Sz (uE x) (M.Cache.sz x):=by
 intro l a b
 unfold uE M.Cache.sz
 exact (Sz.call (M.aCw.iR _ hx.Entries)) l a b
theorem M.Cache.hH (x:M.Cache) (hx:M.Cache.ok x) (hs:M.Cache.sz x≤1048576):tK x=some x:=by
 unfold M.Cache.sz at hs
 unfold tK
 rw [M.aCw.hH _ hx.Entries (by omega),qA]
theorem M.Cache.hJ (x:M.Cache) (hx:M.Cache.ok x):uI x x=some true:=by
 simp [uI,M.aCw.hJ _ hx.Entries]
theorem M.aFW.iR (xs:List M.Cache) (hx:(xs.length≤maxLen ∧ ∀y∈xs,M.Cache.ok y)):Sz (rQ xs) ((xs.length+eA M.Cache.sz xs)):=by
 intro l a b
 unfold rQ
 exact (Sz.aBp hx.1 (fun x h=>M.Cache.iR x (hx.2 x h)) (fun _ _ _=>rfl)) l a b
theorem M.aFW.hH (xs:List M.Cache) (hx:(xs.length≤maxLen ∧ ∀y∈xs,M.Cache.ok y)) (hs:(xs.length+eA M.Cache.sz xs)≤1048576):rH xs=some xs:=by
 have hm:=le_max hx.1
 unfold rH
 rw [wG (by omega) (by omega),qA]
 refine vF hx.1 (fun n k r hk hr => ?_) (fun n r => ?_) fuel 0 _ (by unfold fuel;omega) (by omega) (by simp) (by simp)
 ·simp only [iG]
  rw [if_pos (bD hk),aF hk,qA,M.Cache.hH _ (hx.2 _ (qG hk)) (by have:=eP (f:=M.Cache.sz) (qG hk);omega),qA,aF (by omega),qA,bR (by omega),qH]
 ·simp only [iG]
  rw [if_neg (by rw [aJ];simp)]
theorem M.aFW.hJ (xs:List M.Cache) (hx:(xs.length≤maxLen ∧ ∀y∈xs,M.Cache.ok y)):rG xs xs=some true:=by
 have hm:=le_max hx.1
 unfold rG
 rw [if_neg (by simp)]
 refine uZ hx.1 (fun n k hk => ?_) (fun n => ?_) fuel 0 (by unfold fuel;omega) (by omega)
 ·simp only [iC]
  rw [if_pos (bD hk),aF hk]
  simp [bR (show k<9223372036854775807 by omega),M.Cache.hJ _ (hx.2 _ (qG hk))]
 ·simp only [iC]
  rw [if_neg (by rw [aJ];simp)]
structure M.bF.ok (x:M.bF):Prop where
 Caches:(x.Caches.length≤maxLen ∧ ∀y∈x.Caches,M.Cache.ok y)
def M.bF.sh:List Shp:=[.sl M.Cache.sh]
theorem M.bF.bV (d:List D) (h:jP M.bF.sh d) : ∃x,d=M.bF.en x∧M.bF.ok x:=by
 simp only [M.bF.sh,jP,Has] at h
 obtain ⟨_,_,rfl,⟨_,rfl,w1,q1⟩,rfl⟩:=h
 obtain ⟨a1,rfl,e1⟩:=aQ M.Cache.bV q1
 exact ⟨⟨a1⟩,rfl,⟨⟨by simpa using w1,e1⟩⟩⟩
def M.bF.sz (x:M.bF):Nat:=(x.Caches.length+eA M.Cache.sz x.Caches)
theorem M.bF.iR (x:M.bF) (hx:M.bF.ok x):Sz (mT x) (M.bF.sz x):=by
 intro l a b
 unfold mT M.bF.sz
 exact (Sz.call (M.aFW.iR _ hx.Caches)) l a b
theorem M.bF.hH (x:M.bF) (hx:M.bF.ok x) (hs:M.bF.sz x≤1048576):mD x=some x:=by
 unfold M.bF.sz at hs
 unfold mD
 rw [M.aFW.hH _ hx.Caches (by omega),qA]
theorem M.bF.hJ (x:M.bF) (hx:M.bF.ok x):mC x x=some true:=by
 simp [mC,M.aFW.hJ _ hx.Caches]
structure M.Key.ok (x:M.Key):Prop where
 Kind:inI x.Kind
 N:inI x.N
 Text:x.Text.size≤maxLen
def M.Key.sh:List Shp:=[.int .i64,.int .i64,.str]
theorem M.Key.bV (d:List D) (h:jP M.Key.sh d) : ∃x,d=M.Key.en x∧M.Key.ok x:=by
 simp only [M.Key.sh,jP,Has] at h
 obtain ⟨_,_,rfl,⟨a1,rfl,w1⟩,_,_,rfl,⟨a2,rfl,w2⟩,_,_,rfl,⟨a3,rfl,w3⟩,rfl⟩:=h
 exact ⟨⟨a1,a2,a3⟩,rfl,⟨wf_i64 w1,wf_i64 w2,w3⟩⟩
def M.Key.sz (x:M.Key):Nat:=x.Text.size
theorem M.Key.iR (x:M.Key) (hx:M.Key.ok x):Sz (vG x) (M.Key.sz x):=by
 intro l a b
 unfold vG M.Key.sz
 exact (Sz.str hx.Text) l a b
theorem M.Key.hH (x:M.Key) (hx:M.Key.ok x) (hs:M.Key.sz x≤1048576):vC x=some x:=by
 unfold M.Key.sz at hs
 unfold vC
 rfl
theorem M.Key.hJ (x:M.Key) (hx:M.Key.ok x):vE x x=some true:=by
 simp [vE]
structure M.Field.ok (x:M.Field):Prop where
 Name:x.Name.size≤maxLen
 N:inI x.N
def M.Field.sh:List Shp:=[.str,.int .i64]
theorem M.Field.bV (d:List D) (h:jP M.Field.sh d) : ∃x,d=M.Field.en x∧M.Field.ok x:=by
 simp only [M.Field.sh,jP,Has] at h
 obtain ⟨_,_,rfl,⟨a1,rfl,w1⟩,_,_,rfl,⟨a2,rfl,w2⟩,rfl⟩:=h
 exact ⟨⟨a1,a2⟩,rfl,⟨w1,wf_i64 w2⟩⟩
def M.Field.sz (x:M.Field):Nat:=x.Name.size
theorem M.Field.iR (x:M.Field) (hx:M.Field.ok x):Sz (tW x) (M.Field.sz x):=by
 intro l a b
 unfold tW M.Field.sz
 exact (Sz.str hx.Name) l a b
theorem M.Field.hH (x:M.Field) (hx:M.Field.ok x) (hs:M.Field.sz x≤1048576):uG x=some x:=by
 unfold M.Field.sz at hs
 unfold uG
 rfl
theorem M.Field.hJ (x:M.Field) (hx:M.Field.ok x):tB x x=some true:=by
 simp [tB]
theorem M.aF5.iR (xs:List M.Field) (hx:(xs.length≤maxLen ∧ ∀y∈xs,M.Field.ok y)):Sz (pI xs) ((xs.length+eA M.Field.sz xs)):=by
 intro l a b
 unfold pI
 exact (Sz.aBp hx.1 (fun x h=>M.Field.iR x (hx.2 x h)) (fun _ _ _=>rfl)) l a b
theorem M.aF5.hH (xs:List M.Field) (hx:(xs.length≤maxLen ∧ ∀y∈xs,M.Field.ok y)) (hs:(xs.length+eA M.Field.sz xs)≤1048576):rV xs=some xs:=by
 have hm:=le_max hx.1
 unfold rV
 rw [wG (by omega) (by omega),qA]
 refine vF hx.1 (fun n k r hk hr => ?_) (fun n r => ?_) fuel 0 _ (by unfold fuel;omega) (by omega) (by simp) (by simp)
 ·simp only [hT]
  rw [if_pos (bD hk),aF hk,qA,M.Field.hH _ (hx.2 _ (qG hk)) (by have:=eP (f:=M.Field.sz) (qG hk);omega),qA,aF (by omega),qA,bR (by omega),qH]
 ·simp only [hT]
  rw [if_neg (by rw [aJ];simp)]
theorem M.aF5.hJ (xs:List M.Field) (hx:(xs.length≤maxLen ∧ ∀y∈xs,M.Field.ok y)):rL xs xs=some true:=by
 have hm:=le_max hx.1
 unfold rL
 rw [if_neg (by simp)]
 refine uZ hx.1 (fun n k hk => ?_) (fun n => ?_) fuel 0 (by unfold fuel;omega) (by omega)
 ·simp only [hZ]
  rw [if_pos (bD hk),aF hk]
  simp [bR (show k<9223372036854775807 by omega),M.Field.hJ _ (hx.2 _ (qG hk))]
 ·simp only [hZ]
  rw [if_neg (by rw [aJ];simp)]
structure M.aA.ok (x:M.aA):Prop where
 Fields:(x.Fields.length≤maxLen ∧ ∀y∈x.Fields,M.Field.ok y)
def M.aA.sh:List Shp:=[.sl M.Field.sh]
theorem M.aA.bV (d:List D) (h:jP M.aA.sh d) : ∃x,d=M.aA.en x∧M.aA.ok x:=by
 simp only [M.aA.sh,jP,Has] at h
 obtain ⟨_,_,rfl,⟨_,rfl,w1,q1⟩,rfl⟩:=h
 obtain ⟨a1,rfl,e1⟩:=aQ M.Field.bV q1
 exact ⟨⟨a1⟩,rfl,⟨⟨by simpa using w1,e1⟩⟩⟩
def M.aA.sz (x:M.aA):Nat:=(x.Fields.length+eA M.Field.sz x.Fields)
theorem M.aA.iR (x:M.aA) (hx:M.aA.ok x):Sz (rP x) (M.aA.sz x):=by
 intro l a b
 unfold rP M.aA.sz
 exact (Sz.call (M.aF5.iR _ hx.Fields)) l a b
theorem M.aA.hH (x:M.aA) (hx:M.aA.ok x) (hs:M.aA.sz x≤1048576):pY x=some x:=by
 unfold M.aA.sz at hs
 unfold pY
 rw [M.aF5.hH _ hx.Fields (by omega),qA]
theorem M.aA.hJ (x:M.aA) (hx:M.aA.ok x):rM x x=some true:=by
 simp [rM,M.aF5.hJ _ hx.Fields]
structure M.Item.ok (x:M.Item):Prop where
 Key:M.Key.ok x.Key
 aA:M.aA.ok x.aA
def M.Item.sh:List Shp:=[.int .i64,.int .i64,.str,.sl M.Field.sh]
theorem M.Item.bV (d:List D) (h:jP M.Item.sh d) : ∃x,d=M.Item.en x∧M.Item.ok x:=by
 simp only [M.Item.sh,jP,Has] at h
 obtain ⟨_,_,rfl,⟨a1,rfl,w1⟩,_,_,rfl,⟨a2,rfl,w2⟩,_,_,rfl,⟨a3,rfl,w3⟩,_,_,rfl,⟨_,rfl,w4,q4⟩,rfl⟩:=h
 obtain ⟨a4,rfl,e4⟩:=aQ M.Field.bV q4
 exact ⟨⟨⟨a1,a2,a3⟩,⟨a4⟩⟩,rfl,⟨⟨wf_i64 w1,wf_i64 w2,w3⟩,⟨⟨by simpa using w4,e4⟩⟩⟩⟩
def M.Item.sz (x:M.Item):Nat:=M.Key.sz x.Key+(M.aA.sz x.aA)
theorem M.Item.iR (x:M.Item) (hx:M.Item.ok x):Sz (wD x) (M.Item.sz x):=by
 intro l a b
 unfold wD M.Item.sz
 exact (Sz.nA (M.Key.iR _ hx.Key) (Sz.call (M.aA.iR _ hx.aA))) l a b
theorem M.Item.hH (x:M.Item) (hx:M.Item.ok x) (hs:M.Item.sz x≤1048576):vK x=some x:=by
 unfold M.Item.sz at hs
 unfold vK
 rw [M.Key.hH _ hx.Key (by omega),qA,M.aA.hH _ hx.aA (by omega),qA]
theorem M.Item.hJ (x:M.Item) (hx:M.Item.ok x):vO x x=some true:=by
 simp [vO,M.Key.hJ _ hx.Key,M.aA.hJ _ hx.aA]
theorem M.aIp.iR (xs:List M.Item) (hx:(xs.length≤maxLen ∧ ∀y∈xs,M.Item.ok y)):Sz (uM xs) ((xs.length+eA M.Item.sz xs)):=by
 intro l a b
 unfold uM
 exact (Sz.aBp hx.1 (fun x h=>M.Item.iR x (hx.2 x h)) (fun _ _ _=>rfl)) l a b
theorem M.aIp.hH (xs:List M.Item) (hx:(xs.length≤maxLen ∧ ∀y∈xs,M.Item.ok y)) (hs:(xs.length+eA M.Item.sz xs)≤1048576):tJ xs=some xs:=by
 have hm:=le_max hx.1
 unfold tJ
 rw [wG (by omega) (by omega),qA]
 refine vF hx.1 (fun n k r hk hr => ?_) (fun n r => ?_) fuel 0 _ (by unfold fuel;omega) (by omega) (by simp) (by simp)
 ·simp only [jM]
  rw [if_pos (bD hk),aF hk,qA,M.Item.hH _ (hx.2 _ (qG hk)) (by have:=eP (f:=M.Item.sz) (qG hk);omega),qA,aF (by omega),qA,bR (by omega),qH]
 ·simp only [jM]
  rw [if_neg (by rw [aJ];simp)]
theorem M.aIp.hJ (xs:List M.Item) (hx:(xs.length≤maxLen ∧ ∀y∈xs,M.Item.ok y)):uL xs xs=some true:=by
 have hm:=le_max hx.1
 unfold uL
 rw [if_neg (by simp)]
 refine uZ hx.1 (fun n k hk => ?_) (fun n => ?_) fuel 0 (by unfold fuel;omega) (by omega)
 ·simp only [jB]
  rw [if_pos (bD hk),aF hk]
  simp [bR (show k<9223372036854775807 by omega),M.Item.hJ _ (hx.2 _ (qG hk))]
 ·simp only [jB]
  rw [if_neg (by rw [aJ];simp)]
structure M.aC.ok (x:M.aC):Prop where
 Name:x.Name.size≤maxLen
 Items:(x.Items.length≤maxLen ∧ ∀y∈x.Items,M.Item.ok y)
 Auto:inI x.Auto
def M.aC.sh:List Shp:=[.str,.sl M.Item.sh,.int .i64]
theorem M.aC.bV (d:List D) (h:jP M.aC.sh d) : ∃x,d=M.aC.en x∧M.aC.ok x:=by
 simp only [M.aC.sh,jP,Has] at h
 obtain ⟨_,_,rfl,⟨a1,rfl,w1⟩,_,_,rfl,⟨_,rfl,w2,q2⟩,_,_,rfl,⟨a3,rfl,w3⟩,rfl⟩:=h
 obtain ⟨a2,rfl,e2⟩:=aQ M.Item.bV q2
 exact ⟨⟨a1,a2,a3⟩,rfl,⟨w1,⟨by simpa using w2,e2⟩,wf_i64 w3⟩⟩
def M.aC.sz (x:M.aC):Nat:=x.Name.size+((x.Items.length+eA M.Item.sz x.Items))
theorem M.aC.iR (x:M.aC) (hx:M.aC.ok x):Sz (lI x) (M.aC.sz x):=by
 intro l a b
 unfold lI M.aC.sz
 exact (Sz.zB hx.Name (Sz.call (M.aIp.iR _ hx.Items))) l a b
theorem M.aC.hH (x:M.aC) (hx:M.aC.ok x) (hs:M.aC.sz x≤1048576):lQ x=some x:=by
 unfold M.aC.sz at hs
 unfold lQ
 rw [M.aIp.hH _ hx.Items (by omega),qA]
theorem M.aC.hJ (x:M.aC) (hx:M.aC.ok x):lP x x=some true:=by
 simp [lP,M.aIp.hJ _ hx.Items]
theorem M.aFG.iR (xs:List M.aC) (hx:(xs.length≤maxLen ∧ ∀y∈xs,M.aC.ok y)):Sz (rE xs) ((xs.length+eA M.aC.sz xs)):=by
 intro l a b
 unfold rE
 exact (Sz.aBp hx.1 (fun x h=>M.aC.iR x (hx.2 x h)) (fun _ _ _=>rfl)) l a b
theorem M.aFG.hH (xs:List M.aC) (hx:(xs.length≤maxLen ∧ ∀y∈xs,M.aC.ok y)) (hs:(xs.length+eA M.aC.sz xs)≤1048576):pQ xs=some xs:=by
 have hm:=le_max hx.1
 unfold pQ
 rw [wG (by omega) (by omega),qA]
 refine vF hx.1 (fun n k r hk hr => ?_) (fun n r => ?_) fuel 0 _ (by unfold fuel;omega) (by omega) (by simp) (by simp)
 ·simp only [iD]
  rw [if_pos (bD hk),aF hk,qA,M.aC.hH _ (hx.2 _ (qG hk)) (by have:=eP (f:=M.aC.sz) (qG hk);omega),qA,aF (by omega),qA,bR (by omega),qH]
 ·simp only [iD]
  rw [if_neg (by rw [aJ];simp)]
theorem M.aFG.hJ (xs:List M.aC) (hx:(xs.length≤maxLen ∧ ∀y∈xs,M.aC.ok y)):pH xs xs=some true:=by
 have hm:=le_max hx.1
 unfold pH
 rw [if_neg (by simp)]
 refine uZ hx.1 (fun n k hk => ?_) (fun n => ?_) fuel 0 (by unfold fuel;omega) (by omega)
 ·simp only [hU]
  rw [if_pos (bD hk),aF hk]
  simp [bR (show k<9223372036854775807 by omega),M.aC.hJ _ (hx.2 _ (qG hk))]
 ·simp only [hU]
  rw [if_neg (by rw [aJ];simp)]
structure M.aE.ok (x:M.aE):Prop where
 aC:x.aC.size≤maxLen
 Field:x.Field.size≤maxLen
def M.aE.sh:List Shp:=[.str,.str]
theorem M.aE.bV (d:List D) (h:jP M.aE.sh d) : ∃x,d=M.aE.en x∧M.aE.ok x:=by
 simp only [M.aE.sh,jP,Has] at h
 obtain ⟨_,_,rfl,⟨a1,rfl,w1⟩,_,_,rfl,⟨a2,rfl,w2⟩,rfl⟩:=h
 exact ⟨⟨a1,a2⟩,rfl,⟨w1,w2⟩⟩
def M.aE.sz (x:M.aE):Nat:=x.aC.size+(x.Field.size)
theorem M.aE.iR (x:M.aE) (hx:M.aE.ok x):Sz (lV x) (M.aE.sz x):=by
 intro l a b
 unfold lV M.aE.sz
 exact (Sz.zB hx.aC (Sz.str hx.Field)) l a b
theorem M.aE.hH (x:M.aE) (hx:M.aE.ok x) (hs:M.aE.sz x≤1048576):mO x=some x:=by
 unfold M.aE.sz at hs
 unfold mO
 rfl
theorem M.aE.hJ (x:M.aE) (hx:M.aE.ok x):mL x x=some true:=by
 simp [mL]
theorem M.aAu.iR (xs:List M.aE) (hx:(xs.length≤maxLen ∧ ∀y∈xs,M.aE.ok y)):Sz (kR xs) ((xs.length+eA M.aE.sz xs)):=by
 intro l a b
 unfold kR
 exact (Sz.aBp hx.1 (fun x h=>M.aE.iR x (hx.2 x h)) (fun _ _ _=>rfl)) l a b
theorem M.aAu.hH (xs:List M.aE) (hx:(xs.length≤maxLen ∧ ∀y∈xs,M.aE.ok y)) (hs:(xs.length+eA M.aE.sz xs)≤1048576):kY xs=some xs:=by
 have hm:=le_max hx.1
 unfold kY
 rw [wG (by omega) (by omega),qA]
 refine vF hx.1 (fun n k r hk hr => ?_) (fun n r => ?_) fuel 0 _ (by unfold fuel;omega) (by omega) (by simp) (by simp)
 ·simp only [eX]
  rw [if_pos (bD hk),aF hk,qA,M.aE.hH _ (hx.2 _ (qG hk)) (by have:=eP (f:=M.aE.sz) (qG hk);omega),qA,aF (by omega),qA,bR (by omega),qH]
 ·simp only [eX]
  rw [if_neg (by rw [aJ];simp)]
theorem M.aAu.hJ (xs:List M.aE) (hx:(xs.length≤maxLen ∧ ∀y∈xs,M.aE.ok y)):kW xs xs=some true:=by
 have hm:=le_max hx.1
 unfold kW
 rw [if_neg (by simp)]
 refine uZ hx.1 (fun n k hk => ?_) (fun n => ?_) fuel 0 (by unfold fuel;omega) (by omega)
 ·simp only [eZ]
  rw [if_pos (bD hk),aF hk]
  simp [bR (show k<9223372036854775807 by omega),M.aE.hJ _ (hx.2 _ (qG hk))]
 ·simp only [eZ]
  rw [if_neg (by rw [aJ];simp)]
structure M.Database.ok (x:M.Database):Prop where
 Name:x.Name.size≤maxLen
 Version:inI x.Version
 Stores:(x.Stores.length≤maxLen ∧ ∀y∈x.Stores,M.aC.ok y)
 Unique:(x.Unique.length≤maxLen ∧ ∀y∈x.Unique,M.aE.ok y)
def M.Database.sh:List Shp:=[.str,.int .i64,.sl M.aC.sh,.sl M.aE.sh]
theorem M.Database.bV (d:List D) (h:jP M.Database.sh d) : ∃x,d=M.Database.en x∧M.Database.ok x:=by
 simp only [M.Database.sh,jP,Has] at h
 obtain ⟨_,_,rfl,⟨a1,rfl,w1⟩,_,_,rfl,⟨a2,rfl,w2⟩,_,_,rfl,⟨_,rfl,w3,q3⟩,_,_,rfl,⟨_,rfl,w4,q4⟩,rfl⟩:=h
 obtain ⟨a3,rfl,e3⟩:=aQ M.aC.bV q3
 obtain ⟨a4,rfl,e4⟩:=aQ M.aE.bV q4
 exact ⟨⟨a1,a2,a3,a4⟩,rfl,⟨w1,wf_i64 w2,⟨by simpa using w3,e3⟩,⟨by simpa using w4,e4⟩⟩⟩
def M.Database.sz (x:M.Database):Nat:=x.Name.size+((x.Stores.length+eA M.aC.sz x.Stores)+((x.Unique.length+eA M.aE.sz x.Unique)))
theorem M.Database.iR (x:M.Database) (hx:M.Database.ok x):Sz (mN x) (M.Database.sz x):=by
 intro l a b
 unfold mN M.Database.sz
 exact (Sz.zB hx.Name (Sz.nA (M.aFG.iR _ hx.Stores) (Sz.call (M.aAu.iR _ hx.Unique)))) l a b
theorem M.Database.hH (x:M.Database) (hx:M.Database.ok x) (hs:M.Database.sz x≤1048576):lT x=some x:=by
 unfold M.Database.sz at hs
 unfold lT
 rw [M.aFG.hH _ hx.Stores (by omega),qA,M.aAu.hH _ hx.Unique (by omega),qA]
theorem M.Database.hJ (x:M.Database) (hx:M.Database.ok x):mQ x x=some true:=by
 simp [mQ,M.aFG.hJ _ hx.Stores,M.aAu.hJ _ hx.Unique]
structure M.fQ.ok (x:M.fQ):Prop where
 Base:M.Database.ok x.Base
 Log:okB x.Log
 Count:inI x.Count
def M.fQ.sh:List Shp:=[.str,.int .i64,.sl M.aC.sh,.sl M.aE.sh,.sl [.int .u8],.int .i64]
theorem M.fQ.bV (d:List D) (h:jP M.fQ.sh d) : ∃x,d=M.fQ.en x∧M.fQ.ok x:=by
 simp only [M.fQ.sh,jP,Has] at h
 obtain ⟨_,_,rfl,⟨a1,rfl,w1⟩,_,_,rfl,⟨a2,rfl,w2⟩,_,_,rfl,⟨_,rfl,w3,q3⟩,_,_,rfl,⟨_,rfl,w4,q4⟩,_,_,rfl,⟨_,rfl,w5,q5⟩,_,_,rfl,⟨a6,rfl,w6⟩,rfl⟩:=h
 obtain ⟨a3,rfl,e3⟩:=aQ M.aC.bV q3
 obtain ⟨a4,rfl,e4⟩:=aQ M.aE.bV q4
 obtain ⟨a5,rfl,e5⟩:=aQ aKT q5
 exact ⟨⟨⟨a1,a2,a3,a4⟩,a5,a6⟩,rfl,⟨⟨w1,wf_i64 w2,⟨by simpa using w3,e3⟩,⟨by simpa using w4,e4⟩⟩,⟨by simpa using w5,e5⟩,wf_i64 w6⟩⟩
def M.fQ.sz (x:M.fQ):Nat:=M.Database.sz x.Base+(x.Log.length)
theorem M.fQ.iR (x:M.fQ) (hx:M.fQ.ok x):Sz (vJ x) (M.fQ.sz x):=by
 intro l a b
 unfold vJ M.fQ.sz
 exact (Sz.nA (M.Database.iR _ hx.Base) (Sz.call (M.aFF.iR _ hx.Log))) l a b
theorem M.fQ.hH (x:M.fQ) (hx:M.fQ.ok x) (hs:M.fQ.sz x≤1048576):wM x=some x:=by
 unfold M.fQ.sz at hs
 unfold wM
 rw [M.Database.hH _ hx.Base (by omega),qA,M.aFF.hH _ hx.Log (by omega),qA]
theorem M.fQ.hJ (x:M.fQ) (hx:M.fQ.ok x):wE x x=some true:=by
 simp [wE,M.Database.hJ _ hx.Base,M.aFF.hJ _ hx.Log]
structure M.bM.ok (x:M.bM):Prop where
 Device:inI x.Device
 Seq:inI x.Seq
 Key:M.Key.ok x.Key
 Field:x.Field.size≤maxLen
 N:inI x.N
def M.bM.sh:List Shp:=[.int .i64,.int .i64,.int .i64,.int .i64,.str,.str,.int .i64]
theorem M.bM.bV (d:List D) (h:jP M.bM.sh d) : ∃x,d=M.bM.en x∧M.bM.ok x:=by
 simp only [M.bM.sh,jP,Has] at h
 obtain ⟨_,_,rfl,⟨a1,rfl,w1⟩,_,_,rfl,⟨a2,rfl,w2⟩,_,_,rfl,⟨a3,rfl,w3⟩,_,_,rfl,⟨a4,rfl,w4⟩,_,_,rfl,⟨a5,rfl,w5⟩,_,_,rfl,⟨a6,rfl,w6⟩,_,_,rfl,⟨a7,rfl,w7⟩,rfl⟩:=h
 exact ⟨⟨a1,a2,⟨a3,a4,a5⟩,a6,a7⟩,rfl,⟨wf_i64 w1,wf_i64 w2,⟨wf_i64 w3,wf_i64 w4,w5⟩,w6,wf_i64 w7⟩⟩
def M.bM.sz (x:M.bM):Nat:=M.Key.sz x.Key+(x.Field.size)
theorem M.bM.iR (x:M.bM) (hx:M.bM.ok x):Sz (uC x) (M.bM.sz x):=by
 intro l a b
 unfold uC M.bM.sz
 exact (Sz.nA (M.Key.iR _ hx.Key) (Sz.str hx.Field)) l a b
theorem M.bM.hH (x:M.bM) (hx:M.bM.ok x) (hs:M.bM.sz x≤1048576):tU x=some x:=by
 unfold M.bM.sz at hs
 unfold tU
 rw [M.Key.hH _ hx.Key (by omega),qA]
theorem M.bM.hJ (x:M.bM) (hx:M.bM.ok x):tH x x=some true:=by
 simp [tH,M.Key.hJ _ hx.Key]
theorem M.aCP.iR (xs:List M.bM) (hx:(xs.length≤maxLen ∧ ∀y∈xs,M.bM.ok y)):Sz (mG xs) ((xs.length+eA M.bM.sz xs)):=by
 intro l a b
 unfold mG
 exact (Sz.aBp hx.1 (fun x h=>M.bM.iR x (hx.2 x h)) (fun _ _ _=>rfl)) l a b
theorem M.aCP.hH (xs:List M.bM) (hx:(xs.length≤maxLen ∧ ∀y∈xs,M.bM.ok y)) (hs:(xs.length+eA M.bM.sz xs)≤1048576):mH xs=some xs:=by
 have hm:=le_max hx.1
 unfold mH
 rw [wG (by omega) (by omega),qA]
 refine vF hx.1 (fun n k r hk hr => ?_) (fun n r => ?_) fuel 0 _ (by unfold fuel;omega) (by omega) (by simp) (by simp)
 ·simp only [iJ]
  rw [if_pos (bD hk),aF hk,qA,M.bM.hH _ (hx.2 _ (qG hk)) (by have:=eP (f:=M.bM.sz) (qG hk);omega),qA,aF (by omega),qA,bR (by omega),qH]
 ·simp only [iJ]
  rw [if_neg (by rw [aJ];simp)]
theorem M.aCP.hJ (xs:List M.bM) (hx:(xs.length≤maxLen ∧ ∀y∈xs,M.bM.ok y)):mS xs xs=some true:=by
 have hm:=le_max hx.1
 unfold mS
 rw [if_neg (by simp)]
 refine uZ hx.1 (fun n k hk => ?_) (fun n => ?_) fuel 0 (by unfold fuel;omega) (by omega)
 ·simp only [iE]
  rw [if_pos (bD hk),aF hk]
  simp [bR (show k<9223372036854775807 by omega),M.bM.hJ _ (hx.2 _ (qG hk))]
 ·simp only [iE]
  rw [if_neg (by rw [aJ];simp)]
structure M.bH.ok (x:M.bH):Prop where
 Device:inI x.Device
 Next:inI x.Next
 Writes:(x.Writes.length≤maxLen ∧ ∀y∈x.Writes,M.bM.ok y)
def M.bH.sh:List Shp:=[.int .i64,.int .i64,.sl M.bM.sh]
theorem M.bH.bV (d:List D) (h:jP M.bH.sh d) : ∃x,d=M.bH.en x∧M.bH.ok x:=by
 simp only [M.bH.sh,jP,Has] at h
 obtain ⟨_,_,rfl,⟨a1,rfl,w1⟩,_,_,rfl,⟨a2,rfl,w2⟩,_,_,rfl,⟨_,rfl,w3,q3⟩,rfl⟩:=h
 obtain ⟨a3,rfl,e3⟩:=aQ M.bM.bV q3
 exact ⟨⟨a1,a2,a3⟩,rfl,⟨wf_i64 w1,wf_i64 w2,⟨by simpa using w3,e3⟩⟩⟩
def M.bH.sz (x:M.bH):Nat:=(x.Writes.length+eA M.bM.sz x.Writes)
theorem M.bH.iR (x:M.bH) (hx:M.bH.ok x):Sz (pX x) (M.bH.sz x):=by
 intro l a b
 unfold pX M.bH.sz
 exact (Sz.call (M.aCP.iR _ hx.Writes)) l a b
theorem M.bH.hH (x:M.bH) (hx:M.bH.ok x) (hs:M.bH.sz x≤1048576):pJ x=some x:=by
 unfold M.bH.sz at hs
 unfold pJ
 rw [M.aCP.hH _ hx.Writes (by omega),qA]
theorem M.bH.hJ (x:M.bH) (hx:M.bH.ok x):rO x x=some true:=by
 simp [rO,M.aCP.hJ _ hx.Writes]
structure M.Sync.ok (x:M.Sync):Prop where
 bH:M.bH.ok x.bH
 Tries:inI x.Tries
 WaitUntil:inI x.WaitUntil
def M.Sync.sh:List Shp:=[.int .i64,.int .i64,.sl M.bM.sh,.int .i64,.int .i64]
theorem M.Sync.bV (d:List D) (h:jP M.Sync.sh d) : ∃x,d=M.Sync.en x∧M.Sync.ok x:=by
 simp only [M.Sync.sh,jP,Has] at h
 obtain ⟨_,_,rfl,⟨a1,rfl,w1⟩,_,_,rfl,⟨a2,rfl,w2⟩,_,_,rfl,⟨_,rfl,w3,q3⟩,_,_,rfl,⟨a4,rfl,w4⟩,_,_,rfl,⟨a5,rfl,w5⟩,rfl⟩:=h
 obtain ⟨a3,rfl,e3⟩:=aQ M.bM.bV q3
 exact ⟨⟨⟨a1,a2,a3⟩,a4,a5⟩,rfl,⟨⟨wf_i64 w1,wf_i64 w2,⟨by simpa using w3,e3⟩⟩,wf_i64 w4,wf_i64 w5⟩⟩
def M.Sync.sz (x:M.Sync):Nat:=M.bH.sz x.bH
theorem M.Sync.iR (x:M.Sync) (hx:M.Sync.ok x):Sz (wP x) (M.Sync.sz x):=by
 intro l a b
 unfold wP M.Sync.sz
 exact (Sz.call (M.bH.iR _ hx.bH)) l a b
theorem M.Sync.hH (x:M.Sync) (hx:M.Sync.ok x) (hs:M.Sync.sz x≤1048576):wH x=some x:=by
 unfold M.Sync.sz at hs
 unfold wH
 rw [M.bH.hH _ hx.bH (by omega),qA]
theorem M.Sync.hJ (x:M.Sync) (hx:M.Sync.ok x):vW x x=some true:=by
 simp [vW,M.bH.hJ _ hx.bH]
structure M.aK.ok (x:M.aK):Prop where
 Base:M.aC.ok x.Base
 Seen:inI x.Seen
 Sync:M.Sync.ok x.Sync
def M.aK.sh:List Shp:=[.str,.sl M.Item.sh,.int .i64,.int .i64,.int .i64,.int .i64,.sl M.bM.sh,.int .i64,.int .i64]
theorem M.aK.bV (d:List D) (h:jP M.aK.sh d) : ∃x,d=M.aK.en x∧M.aK.ok x:=by
 simp only [M.aK.sh,jP,Has] at h
 obtain ⟨_,_,rfl,⟨a1,rfl,w1⟩,_,_,rfl,⟨_,rfl,w2,q2⟩,_,_,rfl,⟨a3,rfl,w3⟩,_,_,rfl,⟨a4,rfl,w4⟩,_,_,rfl,⟨a5,rfl,w5⟩,_,_,rfl,⟨a6,rfl,w6⟩,_,_,rfl,⟨_,rfl,w7,q7⟩,_,_,rfl,⟨a8,rfl,w8⟩,_,_,rfl,⟨a9,rfl,w9⟩,rfl⟩:=h
 obtain ⟨a2,rfl,e2⟩:=aQ M.Item.bV q2
 obtain ⟨a7,rfl,e7⟩:=aQ M.bM.bV q7
 exact ⟨⟨⟨a1,a2,a3⟩,a4,⟨⟨a5,a6,a7⟩,a8,a9⟩⟩,rfl,⟨⟨w1,⟨by simpa using w2,e2⟩,wf_i64 w3⟩,wf_i64 w4,⟨⟨wf_i64 w5,wf_i64 w6,⟨by simpa using w7,e7⟩⟩,wf_i64 w8,wf_i64 w9⟩⟩⟩
def M.aK.sz (x:M.aK):Nat:=M.aC.sz x.Base+(M.Sync.sz x.Sync)
theorem M.aK.iR (x:M.aK) (hx:M.aK.ok x):Sz (oI x) (M.aK.sz x):=by
 intro l a b
 unfold oI M.aK.sz
 exact (Sz.nA (M.aC.iR _ hx.Base) (Sz.call (M.Sync.iR _ hx.Sync))) l a b
theorem M.aK.hH (x:M.aK) (hx:M.aK.ok x) (hs:M.aK.sz x≤1048576):nY x=some x:=by
 unfold M.aK.sz at hs
 unfold nY
 rw [M.aC.hH _ hx.Base (by omega),qA,M.Sync.hH _ hx.Sync (by omega),qA]
theorem M.aK.hJ (x:M.aK) (hx:M.aK.ok x):nW x x=some true:=by
 simp [nW,M.aC.hJ _ hx.Base,M.Sync.hJ _ hx.Sync]
structure M.Bucket.ok (x:M.Bucket):Prop where
 Site:x.Site.size≤maxLen
 Top:x.Top.size≤maxLen
 Registration:M.Registration.ok x.Registration
 Caches:M.bF.ok x.Caches
 fQ:M.fQ.ok x.fQ
 aK:M.aK.ok x.aK
 LastUsed:inI x.LastUsed
def M.Bucket.sh:List Shp:=[.str,.str,.str,.int .i64,.int .i64,.int .i64,.sl M.Cache.sh,.str,.int .i64,.sl M.aC.sh,.sl M.aE.sh,.sl [.int .u8],.int .i64,.str,.sl M.Item.sh,.int .i64,.int .i64,.int .i64,.int .i64,.sl M.bM.sh,.int .i64,.int .i64,.int .i64,.bool]
theorem M.Bucket.bV (d:List D) (h:jP M.Bucket.sh d) : ∃x,d=M.Bucket.en x∧M.Bucket.ok x:=by
 simp only [M.Bucket.sh,jP,Has] at h
 obtain ⟨_,_,rfl,⟨a1,rfl,w1⟩,_,_,rfl,⟨a2,rfl,w2⟩,_,_,rfl,⟨a3,rfl,w3⟩,_,_,rfl,⟨a4,rfl,w4⟩,_,_,rfl,⟨a5,rfl,w5⟩,_,_,rfl,⟨a6,rfl,w6⟩,_,_,rfl,⟨_,rfl,w7,q7⟩,_,_,rfl,⟨a8,rfl,w8⟩,_,_,rfl,⟨a9,rfl,w9⟩,_,_,rfl,⟨_,rfl,w10,q10⟩,_,_,rfl,⟨_,rfl,w11,q11⟩,_,_,rfl,⟨_,rfl,w12,q12⟩,_,_,rfl,⟨a13,rfl,w13⟩,_,_,rfl,⟨a14,rfl,w14⟩,_,_,rfl,⟨_,rfl,w15,q15⟩,_,_,rfl,⟨a16,rfl,w16⟩,_,_,rfl,⟨a17,rfl,w17⟩,_,_,rfl,⟨a18,rfl,w18⟩,_,_,rfl,⟨a19,rfl,w19⟩,_,_,rfl,⟨_,rfl,w20,q20⟩,_,_,rfl,⟨a21,rfl,w21⟩,_,_,rfl,⟨a22,rfl,w22⟩,_,_,rfl,⟨a23,rfl,w23⟩,_,_,rfl,⟨a24,rfl⟩,rfl⟩:=h
 obtain ⟨a7,rfl,e7⟩:=aQ M.Cache.bV q7
 obtain ⟨a10,rfl,e10⟩:=aQ M.aC.bV q10
 obtain ⟨a11,rfl,e11⟩:=aQ M.aE.bV q11
 obtain ⟨a12,rfl,e12⟩:=aQ aKT q12
 obtain ⟨a15,rfl,e15⟩:=aQ M.Item.bV q15
 obtain ⟨a20,rfl,e20⟩:=aQ M.bM.bV q20
 exact ⟨⟨a1,a2,⟨a3,a4,a5,a6⟩,⟨a7⟩,⟨⟨a8,a9,a10,a11⟩,a12,a13⟩,⟨⟨a14,a15,a16⟩,a17,⟨⟨a18,a19,a20⟩,a21,a22⟩⟩,a23,a24⟩,rfl,⟨w1,w2,⟨w3,wf_i64 w4,wf_i64 w5,wf_i64 w6⟩,⟨⟨by simpa using w7,e7⟩⟩,⟨⟨w8,wf_i64 w9,⟨by simpa using w10,e10⟩,⟨by simpa using w11,e11⟩⟩,⟨by simpa using w12,e12⟩,wf_i64 w13⟩,⟨⟨w14,⟨by simpa using w15,e15⟩,wf_i64 w16⟩,wf_i64 w17,⟨⟨wf_i64 w18,wf_i64 w19,⟨by simpa using w20,e20⟩⟩,wf_i64 w21,wf_i64 w22⟩⟩,wf_i64 w23⟩⟩
def M.Bucket.sz (x:M.Bucket):Nat:=x.Site.size+(x.Top.size+(M.Registration.sz x.Registration+(M.bF.sz x.Caches+(M.fQ.sz x.fQ+(M.aK.sz x.aK)))))
theorem M.Bucket.iR (x:M.Bucket) (hx:M.Bucket.ok x):Sz (rU x) (M.Bucket.sz x):=by
 intro l a b
 unfold rU M.Bucket.sz
 exact (Sz.zB hx.Site (Sz.zB hx.Top (Sz.nA (M.Registration.iR _ hx.Registration) (Sz.nA (M.bF.iR _ hx.Caches) (Sz.nA (M.fQ.iR _ hx.fQ) (Sz.call (M.aK.iR _ hx.aK))))))) l a b
theorem M.Bucket.hH (x:M.Bucket) (hx:M.Bucket.ok x) (hs:M.Bucket.sz x≤1048576):rK x=some x:=by
 unfold M.Bucket.sz at hs
 unfold rK
 rw [M.Registration.hH _ hx.Registration (by omega),qA,M.bF.hH _ hx.Caches (by omega),qA,M.fQ.hH _ hx.fQ (by omega),qA,M.aK.hH _ hx.aK (by omega),qA]
theorem M.Bucket.hJ (x:M.Bucket) (hx:M.Bucket.ok x):pR x x=some true:=by
 simp [pR,M.Registration.hJ _ hx.Registration,M.bF.hJ _ hx.Caches,M.fQ.hJ _ hx.fQ,M.aK.hJ _ hx.aK]
theorem M.aC7.iR (xs:List M.Bucket) (hx:(xs.length≤maxLen ∧ ∀y∈xs,M.Bucket.ok y)):Sz (nP xs) ((xs.length+eA M.Bucket.sz xs)):=by
 intro l a b
 unfold nP
 exact (Sz.aBp hx.1 (fun x h=>M.Bucket.iR x (hx.2 x h)) (fun _ _ _=>rfl)) l a b
theorem M.aC7.hH (xs:List M.Bucket) (hx:(xs.length≤maxLen ∧ ∀y∈xs,M.Bucket.ok y)) (hs:(xs.length+eA M.Bucket.sz xs)≤1048576):oN xs=some xs:=by
 have hm:=le_max hx.1
 unfold oN
 rw [wG (by omega) (by omega),qA]
 refine vF hx.1 (fun n k r hk hr => ?_) (fun n r => ?_) fuel 0 _ (by unfold fuel;omega) (by omega) (by simp) (by simp)
 ·simp only [gQ]
  rw [if_pos (bD hk),aF hk,qA,M.Bucket.hH _ (hx.2 _ (qG hk)) (by have:=eP (f:=M.Bucket.sz) (qG hk);omega),qA,aF (by omega),qA,bR (by omega),qH]
 ·simp only [gQ]
  rw [if_neg (by rw [aJ];simp)]
theorem M.aC7.hJ (xs:List M.Bucket) (hx:(xs.length≤maxLen ∧ ∀y∈xs,M.Bucket.ok y)):oF xs xs=some true:=by
 have hm:=le_max hx.1
 unfold oF
 rw [if_neg (by simp)]
 refine uZ hx.1 (fun n k hk => ?_) (fun n => ?_) fuel 0 (by unfold fuel;omega) (by omega)
 ·simp only [fY]
  rw [if_pos (bD hk),aF hk]
  simp [bR (show k<9223372036854775807 by omega),M.Bucket.hJ _ (hx.2 _ (qG hk))]
 ·simp only [fY]
  rw [if_neg (by rw [aJ];simp)]
structure M.aM.ok (x:M.aM):Prop where
 Buckets:(x.Buckets.length≤maxLen ∧ ∀y∈x.Buckets,M.Bucket.ok y)
def M.aM.sh:List Shp:=[.sl M.Bucket.sh]
theorem M.aM.bV (d:List D) (h:jP M.aM.sh d) : ∃x,d=M.aM.en x∧M.aM.ok x:=by
 simp only [M.aM.sh,jP,Has] at h
 obtain ⟨_,_,rfl,⟨_,rfl,w1,q1⟩,rfl⟩:=h
 obtain ⟨a1,rfl,e1⟩:=aQ M.Bucket.bV q1
 exact ⟨⟨a1⟩,rfl,⟨⟨by simpa using w1,e1⟩⟩⟩
def M.aM.sz (x:M.aM):Nat:=(x.Buckets.length+eA M.Bucket.sz x.Buckets)
theorem M.aM.iR (x:M.aM) (hx:M.aM.ok x):Sz (nH x) (M.aM.sz x):=by
 intro l a b
 unfold nH M.aM.sz
 exact (Sz.call (M.aC7.iR _ hx.Buckets)) l a b
theorem M.aM.hH (x:M.aM) (hx:M.aM.ok x) (hs:M.aM.sz x≤1048576):nU x=some x:=by
 unfold M.aM.sz at hs
 unfold nU
 rw [M.aC7.hH _ hx.Buckets (by omega),qA]
theorem M.aM.hJ (x:M.aM) (hx:M.aM.ok x):oE x x=some true:=by
 simp [oE,M.aC7.hJ _ hx.Buckets]
structure M.aT.ok (x:M.aT):Prop where
 Path:x.Path.size≤maxLen
 Version:inI x.Version
def M.aT.sh:List Shp:=[.str,.int .i64]
theorem M.aT.bV (d:List D) (h:jP M.aT.sh d) : ∃x,d=M.aT.en x∧M.aT.ok x:=by
 simp only [M.aT.sh,jP,Has] at h
 obtain ⟨_,_,rfl,⟨a1,rfl,w1⟩,_,_,rfl,⟨a2,rfl,w2⟩,rfl⟩:=h
 exact ⟨⟨a1,a2⟩,rfl,⟨w1,wf_i64 w2⟩⟩
def M.aT.sz (x:M.aT):Nat:=x.Path.size
theorem M.aT.iR (x:M.aT) (hx:M.aT.ok x):Sz (pL x) (M.aT.sz x):=by
 intro l a b
 unfold pL M.aT.sz
 exact (Sz.str hx.Path) l a b
theorem M.aT.hH (x:M.aT) (hx:M.aT.ok x) (hs:M.aT.sz x≤1048576):pD x=some x:=by
 unfold M.aT.sz at hs
 unfold pD
 rfl
theorem M.aT.hJ (x:M.aT) (hx:M.aT.ok x):pE x x=some true:=by
 simp [pE]
theorem M.aCy.iR (xs:List M.aT) (hx:(xs.length≤maxLen ∧ ∀y∈xs,M.aT.ok y)):Sz (nQ xs) ((xs.length+eA M.aT.sz xs)):=by
 intro l a b
 unfold nQ
 exact (Sz.aBp hx.1 (fun x h=>M.aT.iR x (hx.2 x h)) (fun _ _ _=>rfl)) l a b
theorem M.aCy.hH (xs:List M.aT) (hx:(xs.length≤maxLen ∧ ∀y∈xs,M.aT.ok y)) (hs:(xs.length+eA M.aT.sz xs)≤1048576):nR xs=some xs:=by
 have hm:=le_max hx.1
 unfold nR
 rw [wG (by omega) (by omega),qA]
 refine vF hx.1 (fun n k r hk hr => ?_) (fun n r => ?_) fuel 0 _ (by unfold fuel;omega) (by omega) (by simp) (by simp)
 ·simp only [gP]
  rw [if_pos (bD hk),aF hk,qA,M.aT.hH _ (hx.2 _ (qG hk)) (by have:=eP (f:=M.aT.sz) (qG hk);omega),qA,aF (by omega),qA,bR (by omega),qH]
 ·simp only [gP]
  rw [if_neg (by rw [aJ];simp)]
theorem M.aCy.hJ (xs:List M.aT) (hx:(xs.length≤maxLen ∧ ∀y∈xs,M.aT.ok y)):oH xs xs=some true:=by
 have hm:=le_max hx.1
 unfold oH
 rw [if_neg (by simp)]
 refine uZ hx.1 (fun n k hk => ?_) (fun n => ?_) fuel 0 (by unfold fuel;omega) (by omega)
 ·simp only [gO]
  rw [if_pos (bD hk),aF hk]
  simp [bR (show k<9223372036854775807 by omega),M.aT.hJ _ (hx.2 _ (qG hk))]
 ·simp only [gO]
  rw [if_neg (by rw [aJ];simp)]
structure M.Instr.ok (x:M.Instr):Prop where
 Kind:inI x.Kind
 R:inI x.R
 N:inI x.N
 Text:x.Text.size≤maxLen
def M.Instr.sh:List Shp:=[.int .i64,.int .i64,.int .i64,.str]
theorem M.Instr.bV (d:List D) (h:jP M.Instr.sh d) : ∃x,d=M.Instr.en x∧M.Instr.ok x:=by
 simp only [M.Instr.sh,jP,Has] at h
 obtain ⟨_,_,rfl,⟨a1,rfl,w1⟩,_,_,rfl,⟨a2,rfl,w2⟩,_,_,rfl,⟨a3,rfl,w3⟩,_,_,rfl,⟨a4,rfl,w4⟩,rfl⟩:=h
 exact ⟨⟨a1,a2,a3,a4⟩,rfl,⟨wf_i64 w1,wf_i64 w2,wf_i64 w3,w4⟩⟩
def M.Instr.sz (x:M.Instr):Nat:=x.Text.size
theorem M.Instr.iR (x:M.Instr) (hx:M.Instr.ok x):Sz (tA x) (M.Instr.sz x):=by
 intro l a b
 unfold tA M.Instr.sz
 exact (Sz.str hx.Text) l a b
theorem M.Instr.hH (x:M.Instr) (hx:M.Instr.ok x) (hs:M.Instr.sz x≤1048576):uH x=some x:=by
 unfold M.Instr.sz at hs
 unfold uH
 rfl
theorem M.Instr.hJ (x:M.Instr) (hx:M.Instr.ok x):sZ x x=some true:=by
 simp [sZ]
theorem M.aFn.iR (xs:List M.Instr) (hx:(xs.length≤maxLen ∧ ∀y∈xs,M.Instr.ok y)):Sz (rJ xs) ((xs.length+eA M.Instr.sz xs)):=by
 intro l a b
 unfold rJ
 exact (Sz.aBp hx.1 (fun x h=>M.Instr.iR x (hx.2 x h)) (fun _ _ _=>rfl)) l a b
theorem M.aFn.hH (xs:List M.Instr) (hx:(xs.length≤maxLen ∧ ∀y∈xs,M.Instr.ok y)) (hs:(xs.length+eA M.Instr.sz xs)≤1048576):rX xs=some xs:=by
 have hm:=le_max hx.1
 unfold rX
 rw [wG (by omega) (by omega),qA]
 refine vF hx.1 (fun n k r hk hr => ?_) (fun n r => ?_) fuel 0 _ (by unfold fuel;omega) (by omega) (by simp) (by simp)
 ·simp only [hP]
  rw [if_pos (bD hk),aF hk,qA,M.Instr.hH _ (hx.2 _ (qG hk)) (by have:=eP (f:=M.Instr.sz) (qG hk);omega),qA,aF (by omega),qA,bR (by omega),qH]
 ·simp only [hP]
  rw [if_neg (by rw [aJ];simp)]
theorem M.aFn.hJ (xs:List M.Instr) (hx:(xs.length≤maxLen ∧ ∀y∈xs,M.Instr.ok y)):rF xs xs=some true:=by
 have hm:=le_max hx.1
 unfold rF
 rw [if_neg (by simp)]
 refine uZ hx.1 (fun n k hk => ?_) (fun n => ?_) fuel 0 (by unfold fuel;omega) (by omega)
 ·simp only [iA]
  rw [if_pos (bD hk),aF hk]
  simp [bR (show k<9223372036854775807 by omega),M.Instr.hJ _ (hx.2 _ (qG hk))]
 ·simp only [iA]
  rw [if_neg (by rw [aJ];simp)]
theorem M.aLr.iR (xs:List Int) (hx:okI xs):Sz (wI xs) (xs.length):=by
 intro l a b
 unfold wI
 exact (Sz.str hx.1) l a b
theorem M.aLr.hH (xs:List Int) (hx:okI xs) (hs:xs.length≤1048576):vX xs=some xs:=by
 have hm:=le_max hx.1
 unfold vX
 rw [wG (by omega) (by omega),qA]
 refine vF hx.1 (fun n k r hk hr => ?_) (fun n r => ?_) fuel 0 _ (by unfold fuel;omega) (by omega) (by simp) (by simp)
 ·simp only [kK]
  rw [if_pos (bD hk),aF hk,qA,aF (by omega),qA,bR (by omega),qH]
 ·simp only [kK]
  rw [if_neg (by rw [aJ];simp)]
theorem M.aLr.hJ (xs:List Int) (hx:okI xs):wF xs xs=some true:=by
 have hm:=le_max hx.1
 unfold wF
 rw [if_neg (by simp)]
 refine uZ hx.1 (fun n k hk => ?_) (fun n => ?_) fuel 0 (by unfold fuel;omega) (by omega)
 ·simp only [kD]
  rw [if_pos (bD hk),aF hk]
  simp [bR (show k<9223372036854775807 by omega)]
 ·simp only [kD]
  rw [if_neg (by rw [aJ];simp)]
structure M.Machine.ok (x:M.Machine):Prop where
 Script:(x.Script.length≤maxLen ∧ ∀y∈x.Script,M.Instr.ok y)
 Pc:inI x.Pc
 Regs:okI x.Regs
 Steps:inI x.Steps
def M.Machine.sh:List Shp:=[.sl M.Instr.sh,.int .i64,.sl [.int .i64],.int .i64,.bool,.bool]
theorem M.Machine.bV (d:List D) (h:jP M.Machine.sh d) : ∃x,d=M.Machine.en x∧M.Machine.ok x:=by
 simp only [M.Machine.sh,jP,Has] at h
 obtain ⟨_,_,rfl,⟨_,rfl,w1,q1⟩,_,_,rfl,⟨a2,rfl,w2⟩,_,_,rfl,⟨_,rfl,w3,q3⟩,_,_,rfl,⟨a4,rfl,w4⟩,_,_,rfl,⟨a5,rfl⟩,_,_,rfl,⟨a6,rfl⟩,rfl⟩:=h
 obtain ⟨a1,rfl,e1⟩:=aQ M.Instr.bV q1
 obtain ⟨a3,rfl,e3⟩:=aQ aLE q3
 exact ⟨⟨a1,a2,a3,a4,a5,a6⟩,rfl,⟨⟨by simpa using w1,e1⟩,wf_i64 w2,⟨by simpa using w3,e3⟩,wf_i64 w4⟩⟩
def M.Machine.sz (x:M.Machine):Nat:=(x.Script.length+eA M.Instr.sz x.Script)+(x.Regs.length)
theorem M.Machine.iR (x:M.Machine) (hx:M.Machine.ok x):Sz (oL x) (M.Machine.sz x):=by
 intro l a b
 unfold oL M.Machine.sz
 exact (Sz.nA (M.aFn.iR _ hx.Script) (Sz.call (M.aLr.iR _ hx.Regs))) l a b
theorem M.Machine.hH (x:M.Machine) (hx:M.Machine.ok x) (hs:M.Machine.sz x≤1048576):nN x=some x:=by
 unfold M.Machine.sz at hs
 unfold nN
 rw [M.aFn.hH _ hx.Script (by omega),qA,M.aLr.hH _ hx.Regs (by omega),qA]
theorem M.Machine.hJ (x:M.Machine) (hx:M.Machine.ok x):nF x x=some true:=by
 simp [nF,M.aFn.hJ _ hx.Script,M.aLr.hJ _ hx.Regs]
structure M.gX.ok (x:M.gX):Prop where
 Id:inI x.Id
 Site:x.Site.size≤maxLen
 Top:x.Top.size≤maxLen
 Version:inI x.Version
 aT:(x.aT.length≤maxLen ∧ ∀y∈x.aT,M.aT.ok y)
 Machine:M.Machine.ok x.Machine
def M.gX.sh:List Shp:=[.int .i64,.str,.str,.int .i64,.sl M.aT.sh,.sl M.Instr.sh,.int .i64,.sl [.int .i64],.int .i64,.bool,.bool]
theorem M.gX.bV (d:List D) (h:jP M.gX.sh d) : ∃x,d=M.gX.en x∧M.gX.ok x:=by
 simp only [M.gX.sh,jP,Has] at h
 obtain ⟨_,_,rfl,⟨a1,rfl,w1⟩,_,_,rfl,⟨a2,rfl,w2⟩,_,_,rfl,⟨a3,rfl,w3⟩,_,_,rfl,⟨a4,rfl,w4⟩,_,_,rfl,⟨_,rfl,w5,q5⟩,_,_,rfl,⟨_,rfl,w6,q6⟩,_,_,rfl,⟨a7,rfl,w7⟩,_,_,rfl,⟨_,rfl,w8,q8⟩,_,_,rfl,⟨a9,rfl,w9⟩,_,_,rfl,⟨a10,rfl⟩,_,_,rfl,⟨a11,rfl⟩,rfl⟩:=h
 obtain ⟨a5,rfl,e5⟩:=aQ M.aT.bV q5
 obtain ⟨a6,rfl,e6⟩:=aQ M.Instr.bV q6
 obtain ⟨a8,rfl,e8⟩:=aQ aLE q8
 exact ⟨⟨a1,a2,a3,a4,a5,⟨a6,a7,a8,a9,a10,a11⟩⟩,rfl,⟨wf_i64 w1,w2,w3,wf_i64 w4,⟨by simpa using w5,e5⟩,⟨⟨by simpa using w6,e6⟩,wf_i64 w7,⟨by simpa using w8,e8⟩,wf_i64 w9⟩⟩⟩
def M.gX.sz (x:M.gX):Nat:=x.Site.size+(x.Top.size+((x.aT.length+eA M.aT.sz x.aT)+(M.Machine.sz x.Machine)))
theorem M.gX.iR (x:M.gX) (hx:M.gX.ok x):Sz (sN x) (M.gX.sz x):=by
 intro l a b
 unfold sN M.gX.sz
 exact (Sz.zB hx.Site (Sz.zB hx.Top (Sz.nA (M.aCy.iR _ hx.aT) (Sz.call (M.Machine.iR _ hx.Machine))))) l a b
theorem M.gX.hH (x:M.gX) (hx:M.gX.ok x) (hs:M.gX.sz x≤1048576):kO x=some x:=by
 unfold M.gX.sz at hs
 unfold kO
 rw [M.aCy.hH _ hx.aT (by omega),qA,M.Machine.hH _ hx.Machine (by omega),qA]
theorem M.gX.hJ (x:M.gX) (hx:M.gX.ok x):sE x x=some true:=by
 simp [sE,M.aCy.hJ _ hx.aT,M.Machine.hJ _ hx.Machine]
theorem M.aIf.iR (xs:List M.gX) (hx:(xs.length≤maxLen ∧ ∀y∈xs,M.gX.ok y)):Sz (tP xs) ((xs.length+eA M.gX.sz xs)):=by
 intro l a b
 unfold tP
 exact (Sz.aBp hx.1 (fun x h=>M.gX.iR x (hx.2 x h)) (fun _ _ _=>rfl)) l a b
theorem M.aIf.hH (xs:List M.gX) (hx:(xs.length≤maxLen ∧ ∀y∈xs,M.gX.ok y)) (hs:(xs.length+eA M.gX.sz xs)≤1048576):tR xs=some xs:=by
 have hm:=le_max hx.1
 unfold tR
 rw [wG (by omega) (by omega),qA]
 refine vF hx.1 (fun n k r hk hr => ?_) (fun n r => ?_) fuel 0 _ (by unfold fuel;omega) (by omega) (by simp) (by simp)
 ·simp only [jF]
  rw [if_pos (bD hk),aF hk,qA,M.gX.hH _ (hx.2 _ (qG hk)) (by have:=eP (f:=M.gX.sz) (qG hk);omega),qA,aF (by omega),qA,bR (by omega),qH]
 ·simp only [jF]
  rw [if_neg (by rw [aJ];simp)]
theorem M.aIf.hJ (xs:List M.gX) (hx:(xs.length≤maxLen ∧ ∀y∈xs,M.gX.ok y)):tV xs xs=some true:=by
 have hm:=le_max hx.1
 unfold tV
 rw [if_neg (by simp)]
 refine uZ hx.1 (fun n k hk => ?_) (fun n => ?_) fuel 0 (by unfold fuel;omega) (by omega)
 ·simp only [jH]
  rw [if_pos (bD hk),aF hk]
  simp [bR (show k<9223372036854775807 by omega),M.gX.hJ _ (hx.2 _ (qG hk))]
 ·simp only [jH]
  rw [if_neg (by rw [aJ];simp)]
structure M.kI.ok (x:M.kI):Prop where
 Name:x.Name.size≤maxLen
 gX:inI x.gX
def M.kI.sh:List Shp:=[.str,.int .i64,.bool,.bool]
theorem M.kI.bV (d:List D) (h:jP M.kI.sh d) : ∃x,d=M.kI.en x∧M.kI.ok x:=by
 simp only [M.kI.sh,jP,Has] at h
 obtain ⟨_,_,rfl,⟨a1,rfl,w1⟩,_,_,rfl,⟨a2,rfl,w2⟩,_,_,rfl,⟨a3,rfl⟩,_,_,rfl,⟨a4,rfl⟩,rfl⟩:=h
 exact ⟨⟨a1,a2,a3,a4⟩,rfl,⟨w1,wf_i64 w2⟩⟩
def M.kI.sz (x:M.kI):Nat:=x.Name.size
theorem M.kI.iR (x:M.kI) (hx:M.kI.ok x):Sz (wQ x) (M.kI.sz x):=by
 intro l a b
 unfold wQ M.kI.sz
 exact (Sz.str hx.Name) l a b
theorem M.kI.hH (x:M.kI) (hx:M.kI.ok x) (hs:M.kI.sz x≤1048576):vZ x=some x:=by
 unfold M.kI.sz at hs
 unfold vZ
 rfl
theorem M.kI.hJ (x:M.kI) (hx:M.kI.ok x):wL x x=some true:=by
 simp [wL]
theorem M.aIt.iR (xs:List M.kI) (hx:(xs.length≤maxLen ∧ ∀y∈xs,M.kI.ok y)):Sz (tM xs) ((xs.length+eA M.kI.sz xs)):=by
 intro l a b
 unfold tM
 exact (Sz.aBp hx.1 (fun x h=>M.kI.iR x (hx.2 x h)) (fun _ _ _=>rfl)) l a b
theorem M.aIt.hH (xs:List M.kI) (hx:(xs.length≤maxLen ∧ ∀y∈xs,M.kI.ok y)) (hs:(xs.length+eA M.kI.sz xs)≤1048576):tL xs=some xs:=by
 have hm:=le_max hx.1
 unfold tL
 rw [wG (by omega) (by omega),qA]
 refine vF hx.1 (fun n k r hk hr => ?_) (fun n r => ?_) fuel 0 _ (by unfold fuel;omega) (by omega) (by simp) (by simp)
 ·simp only [iZ]
  rw [if_pos (bD hk),aF hk,qA,M.kI.hH _ (hx.2 _ (qG hk)) (by have:=eP (f:=M.kI.sz) (qG hk);omega),qA,aF (by omega),qA,bR (by omega),qH]
 ·simp only [iZ]
  rw [if_neg (by rw [aJ];simp)]
theorem M.aIt.hJ (xs:List M.kI) (hx:(xs.length≤maxLen ∧ ∀y∈xs,M.kI.ok y)):tI xs xs=some true:=by
 have hm:=le_max hx.1
 unfold tI
 rw [if_neg (by simp)]
 refine uZ hx.1 (fun n k hk => ?_) (fun n => ?_) fuel 0 (by unfold fuel;omega) (by omega)
 ·simp only [jJ]
  rw [if_pos (bD hk),aF hk]
  simp [bR (show k<9223372036854775807 by omega),M.kI.hJ _ (hx.2 _ (qG hk))]
 ·simp only [jJ]
  rw [if_neg (by rw [aJ];simp)]
structure M.bA.ok (x:M.bA):Prop where
 Locks:(x.Locks.length≤maxLen ∧ ∀y∈x.Locks,M.kI.ok y)
def M.bA.sh:List Shp:=[.sl M.kI.sh]
theorem M.bA.bV (d:List D) (h:jP M.bA.sh d) : ∃x,d=M.bA.en x∧M.bA.ok x:=by
 simp only [M.bA.sh,jP,Has] at h
 obtain ⟨_,_,rfl,⟨_,rfl,w1,q1⟩,rfl⟩:=h
 obtain ⟨a1,rfl,e1⟩:=aQ M.kI.bV q1
 exact ⟨⟨a1⟩,rfl,⟨⟨by simpa using w1,e1⟩⟩⟩
def M.bA.sz (x:M.bA):Nat:=(x.Locks.length+eA M.kI.sz x.Locks)
theorem M.bA.iR (x:M.bA) (hx:M.bA.ok x):Sz (kT x) (M.bA.sz x):=by
 intro l a b
 unfold kT M.bA.sz
 exact (Sz.call (M.aIt.iR _ hx.Locks)) l a b
theorem M.bA.hH (x:M.bA) (hx:M.bA.ok x) (hs:M.bA.sz x≤1048576):kV x=some x:=by
 unfold M.bA.sz at hs
 unfold kV
 rw [M.aIt.hH _ hx.Locks (by omega),qA]
theorem M.bA.hJ (x:M.bA) (hx:M.bA.ok x):kX x x=some true:=by
 simp [kX,M.aIt.hJ _ hx.Locks]
structure M.pC.ok (x:M.pC):Prop where
 To:inI x.To
 From:inI x.From
 N:inI x.N
def M.pC.sh:List Shp:=[.int .i64,.int .i64,.int .i64]
theorem M.pC.bV (d:List D) (h:jP M.pC.sh d) : ∃x,d=M.pC.en x∧M.pC.ok x:=by
 simp only [M.pC.sh,jP,Has] at h
 obtain ⟨_,_,rfl,⟨a1,rfl,w1⟩,_,_,rfl,⟨a2,rfl,w2⟩,_,_,rfl,⟨a3,rfl,w3⟩,rfl⟩:=h
 exact ⟨⟨a1,a2,a3⟩,rfl,⟨wf_i64 w1,wf_i64 w2,wf_i64 w3⟩⟩
theorem M.pC.hH (x:M.pC) (hx:M.pC.ok x):wC x=some x:=by
 unfold wC
 rfl
theorem M.pC.hJ (x:M.pC) (hx:M.pC.ok x):wN x x=some true:=by
 simp [wN]
theorem M.aJe.iR (xs:List M.pC) (hx:(xs.length≤maxLen ∧ ∀y∈xs,M.pC.ok y)):Sz (tX xs) (xs.length):=by
 intro l a b
 unfold tX
 exact (Sz.str hx.1) l a b
theorem M.aJe.hH (xs:List M.pC) (hx:(xs.length≤maxLen ∧ ∀y∈xs,M.pC.ok y)) (hs:xs.length≤1048576):tC xs=some xs:=by
 have hm:=le_max hx.1
 unfold tC
 rw [wG (by omega) (by omega),qA]
 refine vF hx.1 (fun n k r hk hr => ?_) (fun n r => ?_) fuel 0 _ (by unfold fuel;omega) (by omega) (by simp) (by simp)
 ·simp only [jA]
  rw [if_pos (bD hk),aF hk,qA,M.pC.hH _ (hx.2 _ (qG hk)),qA,aF (by omega),qA,bR (by omega),qH]
 ·simp only [jA]
  rw [if_neg (by rw [aJ];simp)]
theorem M.aJe.hJ (xs:List M.pC) (hx:(xs.length≤maxLen ∧ ∀y∈xs,M.pC.ok y)):uD xs xs=some true:=by
 have hm:=le_max hx.1
 unfold uD
 rw [if_neg (by simp)]
 refine uZ hx.1 (fun n k hk => ?_) (fun n => ?_) fuel 0 (by unfold fuel;omega) (by omega)
 ·simp only [jN]
  rw [if_pos (bD hk),aF hk]
  simp [bR (show k<9223372036854775807 by omega),M.pC.hJ _ (hx.2 _ (qG hk))]
 ·simp only [jN]
  rw [if_neg (by rw [aJ];simp)]
structure M.Channel.ok (x:M.Channel):Prop where
 Mails:(x.Mails.length≤maxLen ∧ ∀y∈x.Mails,M.pC.ok y)
def M.Channel.sh:List Shp:=[.sl M.pC.sh]
theorem M.Channel.bV (d:List D) (h:jP M.Channel.sh d) : ∃x,d=M.Channel.en x∧M.Channel.ok x:=by
 simp only [M.Channel.sh,jP,Has] at h
 obtain ⟨_,_,rfl,⟨_,rfl,w1,q1⟩,rfl⟩:=h
 obtain ⟨a1,rfl,e1⟩:=aQ M.pC.bV q1
 exact ⟨⟨a1⟩,rfl,⟨⟨by simpa using w1,e1⟩⟩⟩
def M.Channel.sz (x:M.Channel):Nat:=x.Mails.length
theorem M.Channel.iR (x:M.Channel) (hx:M.Channel.ok x):Sz (oG x) (M.Channel.sz x):=by
 intro l a b
 unfold oG M.Channel.sz
 exact (Sz.call (M.aJe.iR _ hx.Mails)) l a b
theorem M.Channel.hH (x:M.Channel) (hx:M.Channel.ok x) (hs:M.Channel.sz x≤1048576):nK x=some x:=by
 unfold M.Channel.sz at hs
 unfold nK
 rw [M.aJe.hH _ hx.Mails (by omega),qA]
theorem M.Channel.hJ (x:M.Channel) (hx:M.Channel.ok x):nV x x=some true:=by
 simp [nV,M.aJe.hJ _ hx.Mails]
theorem M.aCt.iR (xs:List ByteArray) (hx:okS xs):Sz (nE xs) ((xs.length+eA ByteArray.size xs)):=by
 intro l a b
 unfold nE
 exact (Sz.strs hx (fun _ _ _=>rfl)) l a b
theorem M.aCt.hH (xs:List ByteArray) (hx:okS xs) (hs:(xs.length+eA ByteArray.size xs)≤1048576):oK xs=some xs:=by
 have hm:=le_max hx.1
 unfold oK
 rw [wG (by omega) (by omega),qA]
 refine vF hx.1 (fun n k r hk hr => ?_) (fun n r => ?_) fuel 0 _ (by unfold fuel;omega) (by omega) (by simp) (by simp)
 ·simp only [gC]
  rw [if_pos (bD hk),aF hk,qA,aF (by omega),qA,bR (by omega),qH]
 ·simp only [gC]
  rw [if_neg (by rw [aJ];simp)]
theorem M.aCt.hJ (xs:List ByteArray) (hx:okS xs):oC xs xs=some true:=by
 have hm:=le_max hx.1
 unfold oC
 rw [if_neg (by simp)]
 refine uZ hx.1 (fun n k hk => ?_) (fun n => ?_) fuel 0 (by unfold fuel;omega) (by omega)
 ·simp only [gF]
  rw [if_pos (bD hk),aF hk]
  simp [bR (show k<9223372036854775807 by omega)]
 ·simp only [gF]
  rw [if_neg (by rw [aJ];simp)]
structure M.Site.ok (x:M.Site):Prop where
 Name:x.Name.size≤maxLen
 Version:inI x.Version
 Files:okS x.Files
def M.Site.sh:List Shp:=[.str,.int .i64,.sl [.str],.bool]
theorem M.Site.bV (d:List D) (h:jP M.Site.sh d) : ∃x,d=M.Site.en x∧M.Site.ok x:=by
 simp only [M.Site.sh,jP,Has] at h
 obtain ⟨_,_,rfl,⟨a1,rfl,w1⟩,_,_,rfl,⟨a2,rfl,w2⟩,_,_,rfl,⟨_,rfl,w3,q3⟩,_,_,rfl,⟨a4,rfl⟩,rfl⟩:=h
 obtain ⟨a3,rfl,e3⟩:=aQ aMG q3
 exact ⟨⟨a1,a2,a3,a4⟩,rfl,⟨w1,wf_i64 w2,⟨by simpa using w3,e3⟩⟩⟩
def M.Site.sz (x:M.Site):Nat:=x.Name.size+((x.Files.length+eA ByteArray.size x.Files))
theorem M.Site.iR (x:M.Site) (hx:M.Site.ok x):Sz (vT x) (M.Site.sz x):=by
 intro l a b
 unfold vT M.Site.sz
 exact (Sz.zB hx.Name (Sz.call (M.aCt.iR _ hx.Files))) l a b
theorem M.Site.hH (x:M.Site) (hx:M.Site.ok x) (hs:M.Site.sz x≤1048576):wA x=some x:=by
 unfold M.Site.sz at hs
 unfold wA
 rw [M.aCt.hH _ hx.Files (by omega),qA]
theorem M.Site.hJ (x:M.Site) (hx:M.Site.ok x):vN x x=some true:=by
 simp [vN,M.aCt.hJ _ hx.Files]
theorem M.aIS.iR (xs:List M.Site) (hx:(xs.length≤maxLen ∧ ∀y∈xs,M.Site.ok y)):Sz (uO xs) ((xs.length+eA M.Site.sz xs)):=by
 intro l a b
 unfold uO
 exact (Sz.aBp hx.1 (fun x h=>M.Site.iR x (hx.2 x h)) (fun _ _ _=>rfl)) l a b
theorem M.aIS.hH (xs:List M.Site) (hx:(xs.length≤maxLen ∧ ∀y∈xs,M.Site.ok y)) (hs:(xs.length+eA M.Site.sz xs)≤1048576):tY xs=some xs:=by
 have hm:=le_max hx.1
 unfold tY
 rw [wG (by omega) (by omega),qA]
 refine vF hx.1 (fun n k r hk hr => ?_) (fun n r => ?_) fuel 0 _ (by unfold fuel;omega) (by omega) (by simp) (by simp)
 ·simp only [jG]
  rw [if_pos (bD hk),aF hk,qA,M.Site.hH _ (hx.2 _ (qG hk)) (by have:=eP (f:=M.Site.sz) (qG hk);omega),qA,aF (by omega),qA,bR (by omega),qH]
 ·simp only [jG]
  rw [if_neg (by rw [aJ];simp)]
theorem M.aIS.hJ (xs:List M.Site) (hx:(xs.length≤maxLen ∧ ∀y∈xs,M.Site.ok y)):uP xs xs=some true:=by
 have hm:=le_max hx.1
 unfold uP
 rw [if_neg (by simp)]
 refine uZ hx.1 (fun n k hk => ?_) (fun n => ?_) fuel 0 (by unfold fuel;omega) (by omega)
 ·simp only [jD]
  rw [if_pos (bD hk),aF hk]
  simp [bR (show k<9223372036854775807 by omega),M.Site.hJ _ (hx.2 _ (qG hk))]
 ·simp only [jD]
  rw [if_neg (by rw [aJ];simp)]
structure M.aO.ok (x:M.aO):Prop where
 Device:inI x.Device
 Seq:inI x.Seq
def M.aO.sh:List Shp:=[.int .i64,.int .i64]
theorem M.aO.bV (d:List D) (h:jP M.aO.sh d) : ∃x,d=M.aO.en x∧M.aO.ok x:=by
 simp only [M.aO.sh,jP,Has] at h
 obtain ⟨_,_,rfl,⟨a1,rfl,w1⟩,_,_,rfl,⟨a2,rfl,w2⟩,rfl⟩:=h
 exact ⟨⟨a1,a2⟩,rfl,⟨wf_i64 w1,wf_i64 w2⟩⟩
theorem M.aO.hH (x:M.aO) (hx:M.aO.ok x):oD x=some x:=by
 unfold oD
 rfl
theorem M.aO.hJ (x:M.aO) (hx:M.aO.ok x):nL x x=some true:=by
 simp [nL]
theorem M.aBs.iR (xs:List M.aO) (hx:(xs.length≤maxLen ∧ ∀y∈xs,M.aO.ok y)):Sz (mE xs) (xs.length):=by
 intro l a b
 unfold mE
 exact (Sz.str hx.1) l a b
theorem M.aBs.hH (xs:List M.aO) (hx:(xs.length≤maxLen ∧ ∀y∈xs,M.aO.ok y)) (hs:xs.length≤1048576):mJ xs=some xs:=by
 have hm:=le_max hx.1
 unfold mJ
 rw [wG (by omega) (by omega),qA]
 refine vF hx.1 (fun n k r hk hr => ?_) (fun n r => ?_) fuel 0 _ (by unfold fuel;omega) (by omega) (by simp) (by simp)
 ·simp only [fP]
  rw [if_pos (bD hk),aF hk,qA,M.aO.hH _ (hx.2 _ (qG hk)),qA,aF (by omega),qA,bR (by omega),qH]
 ·simp only [fP]
  rw [if_neg (by rw [aJ];simp)]
theorem M.aBs.hJ (xs:List M.aO) (hx:(xs.length≤maxLen ∧ ∀y∈xs,M.aO.ok y)):lY xs xs=some true:=by
 have hm:=le_max hx.1
 unfold lY
 rw [if_neg (by simp)]
 refine uZ hx.1 (fun n k hk => ?_) (fun n => ?_) fuel 0 (by unfold fuel;omega) (by omega)
 ·simp only [fO]
  rw [if_pos (bD hk),aF hk]
  simp [bR (show k<9223372036854775807 by omega),M.aO.hJ _ (hx.2 _ (qG hk))]
 ·simp only [fO]
  rw [if_neg (by rw [aJ];simp)]
structure M.Server.ok (x:M.Server):Prop where
 aC:M.aC.ok x.aC
 aO:(x.aO.length≤maxLen ∧ ∀y∈x.aO,M.aO.ok y)
 Changes:(x.Changes.length≤maxLen ∧ ∀y∈x.Changes,M.bM.ok y)
def M.Server.sh:List Shp:=[.str,.sl M.Item.sh,.int .i64,.sl M.aO.sh,.sl M.bM.sh]
theorem M.Server.bV (d:List D) (h:jP M.Server.sh d) : ∃x,d=M.Server.en x∧M.Server.ok x:=by
 simp only [M.Server.sh,jP,Has] at h
 obtain ⟨_,_,rfl,⟨a1,rfl,w1⟩,_,_,rfl,⟨_,rfl,w2,q2⟩,_,_,rfl,⟨a3,rfl,w3⟩,_,_,rfl,⟨_,rfl,w4,q4⟩,_,_,rfl,⟨_,rfl,w5,q5⟩,rfl⟩:=h
 obtain ⟨a2,rfl,e2⟩:=aQ M.Item.bV q2
 obtain ⟨a4,rfl,e4⟩:=aQ M.aO.bV q4
 obtain ⟨a5,rfl,e5⟩:=aQ M.bM.bV q5
 exact ⟨⟨⟨a1,a2,a3⟩,a4,a5⟩,rfl,⟨⟨w1,⟨by simpa using w2,e2⟩,wf_i64 w3⟩,⟨by simpa using w4,e4⟩,⟨by simpa using w5,e5⟩⟩⟩
def M.Server.sz (x:M.Server):Nat:=M.aC.sz x.aC+(x.aO.length+((x.Changes.length+eA M.bM.sz x.Changes)))
theorem M.Server.iR (x:M.Server) (hx:M.Server.ok x):Sz (pG x) (M.Server.sz x):=by
 intro l a b
 unfold pG M.Server.sz
 exact (Sz.nA (M.aC.iR _ hx.aC) (Sz.nA (M.aBs.iR _ hx.aO) (Sz.call (M.aCP.iR _ hx.Changes)))) l a b
theorem M.Server.hH (x:M.Server) (hx:M.Server.ok x) (hs:M.Server.sz x≤1048576):rR x=some x:=by
 unfold M.Server.sz at hs
 unfold rR
 rw [M.aC.hH _ hx.aC (by omega),qA,M.aBs.hH _ hx.aO (by omega),qA,M.aCP.hH _ hx.Changes (by omega),qA]
theorem M.Server.hJ (x:M.Server) (hx:M.Server.ok x):pS x x=some true:=by
 simp [pS,M.aC.hJ _ hx.aC,M.aBs.hJ _ hx.aO,M.aCP.hJ _ hx.Changes]
theorem M.aDD.iR (xs:List M.Server) (hx:(xs.length≤maxLen ∧ ∀y∈xs,M.Server.ok y)):Sz (oP xs) ((xs.length+eA M.Server.sz xs)):=by
 intro l a b
 unfold oP
 exact (Sz.aBp hx.1 (fun x h=>M.Server.iR x (hx.2 x h)) (fun _ _ _=>rfl)) l a b
theorem M.aDD.hH (xs:List M.Server) (hx:(xs.length≤maxLen ∧ ∀y∈xs,M.Server.ok y)) (hs:(xs.length+eA M.Server.sz xs)≤1048576):nS xs=some xs:=by
 have hm:=le_max hx.1
 unfold nS
 rw [wG (by omega) (by omega),qA]
 refine vF hx.1 (fun n k r hk hr => ?_) (fun n r => ?_) fuel 0 _ (by unfold fuel;omega) (by omega) (by simp) (by simp)
 ·simp only [gK]
  rw [if_pos (bD hk),aF hk,qA,M.Server.hH _ (hx.2 _ (qG hk)) (by have:=eP (f:=M.Server.sz) (qG hk);omega),qA,aF (by omega),qA,bR (by omega),qH]
 ·simp only [gK]
  rw [if_neg (by rw [aJ];simp)]
theorem M.aDD.hJ (xs:List M.Server) (hx:(xs.length≤maxLen ∧ ∀y∈xs,M.Server.ok y)):nZ xs xs=some true:=by
 have hm:=le_max hx.1
 unfold nZ
 rw [if_neg (by simp)]
 refine uZ hx.1 (fun n k hk => ?_) (fun n => ?_) fuel 0 (by unfold fuel;omega) (by omega)
 ·simp only [gE]
  rw [if_pos (bD hk),aF hk]
  simp [bR (show k<9223372036854775807 by omega),M.Server.hJ _ (hx.2 _ (qG hk))]
 ·simp only [gE]
  rw [if_neg (by rw [aJ];simp)]
structure M.World.ok (x:M.World):Prop where
 Now:inI x.Now
 Device:inI x.Device
 aM:M.aM.ok x.aM
 Pages:(x.Pages.length≤maxLen ∧ ∀y∈x.Pages,M.gX.ok y)
 NextPage:inI x.NextPage
 Locks:M.bA.ok x.Locks
 Channel:M.Channel.ok x.Channel
 Sites:(x.Sites.length≤maxLen ∧ ∀y∈x.Sites,M.Site.ok y)
 Servers:(x.Servers.length≤maxLen ∧ ∀y∈x.Servers,M.Server.ok y)
def M.World.sh:List Shp:=[.int .i64,.bool,.int .i64,.sl M.Bucket.sh,.sl M.gX.sh,.int .i64,.sl M.kI.sh,.sl M.pC.sh,.sl M.Site.sh,.sl M.Server.sh]
theorem M.World.bV (d:List D) (h:jP M.World.sh d) : ∃x,d=M.World.en x∧M.World.ok x:=by
 simp only [M.World.sh,jP,Has] at h
 obtain ⟨_,_,rfl,⟨a1,rfl,w1⟩,_,_,rfl,⟨a2,rfl⟩,_,_,rfl,⟨a3,rfl,w3⟩,_,_,rfl,⟨_,rfl,w4,q4⟩,_,_,rfl,⟨_,rfl,w5,q5⟩,_,_,rfl,⟨a6,rfl,w6⟩,_,_,rfl,⟨_,rfl,w7,q7⟩,_,_,rfl,⟨_,rfl,w8,q8⟩,_,_,rfl,⟨_,rfl,w9,q9⟩,_,_,rfl,⟨_,rfl,w10,q10⟩,rfl⟩:=h
 obtain ⟨a4,rfl,e4⟩:=aQ M.Bucket.bV q4
 obtain ⟨a5,rfl,e5⟩:=aQ M.gX.bV q5
 obtain ⟨a7,rfl,e7⟩:=aQ M.kI.bV q7
 obtain ⟨a8,rfl,e8⟩:=aQ M.pC.bV q8
 obtain ⟨a9,rfl,e9⟩:=aQ M.Site.bV q9
 obtain ⟨a10,rfl,e10⟩:=aQ M.Server.bV q10
 exact ⟨⟨a1,a2,a3,⟨a4⟩,a5,a6,⟨a7⟩,⟨a8⟩,a9,a10⟩,rfl,⟨wf_i64 w1,wf_i64 w3,⟨⟨by simpa using w4,e4⟩⟩,⟨by simpa using w5,e5⟩,wf_i64 w6,⟨⟨by simpa using w7,e7⟩⟩,⟨⟨by simpa using w8,e8⟩⟩,⟨by simpa using w9,e9⟩,⟨by simpa using w10,e10⟩⟩⟩
def M.World.sz (x:M.World):Nat:=M.aM.sz x.aM+((x.Pages.length+eA M.gX.sz x.Pages)+(M.bA.sz x.Locks+(M.Channel.sz x.Channel+((x.Sites.length+eA M.Site.sz x.Sites)+((x.Servers.length+eA M.Server.sz x.Servers))))))
theorem M.World.iR (x:M.World) (hx:M.World.ok x):Sz (tT x) (M.World.sz x):=by
 intro l a b
 unfold tT M.World.sz
 exact (Sz.nA (M.aM.iR _ hx.aM) (Sz.nA (M.aIf.iR _ hx.Pages) (Sz.nA (M.bA.iR _ hx.Locks) (Sz.nA (M.Channel.iR _ hx.Channel) (Sz.nA (M.aIS.iR _ hx.Sites) (Sz.call (M.aDD.iR _ hx.Servers))))))) l a b
theorem M.World.hH (x:M.World) (hx:M.World.ok x) (hs:M.World.sz x≤1048576):lR x=some x:=by
 unfold M.World.sz at hs
 unfold lR
 rw [M.aM.hH _ hx.aM (by omega),qA,M.aIf.hH _ hx.Pages (by omega),qA,M.bA.hH _ hx.Locks (by omega),qA,M.Channel.hH _ hx.Channel (by omega),qA,M.aIS.hH _ hx.Sites (by omega),qA,M.aDD.hH _ hx.Servers (by omega),qA]
theorem M.World.hJ (x:M.World) (hx:M.World.ok x):uF x x=some true:=by
 simp [uF,M.aM.hJ _ hx.aM,M.aIf.hJ _ hx.Pages,M.bA.hJ _ hx.Locks,M.Channel.hJ _ hx.Channel,M.aIS.hJ _ hx.Sites,M.aDD.hJ _ hx.Servers]
end Go.Proofs.YtidhkhdnjonjfaaGreat.gen
