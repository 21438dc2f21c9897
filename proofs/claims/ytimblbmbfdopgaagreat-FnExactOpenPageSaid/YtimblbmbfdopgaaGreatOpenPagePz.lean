/-
  Helper text. No conditions.
-/
import Derived.Test.YtimblbmbfdopgaaGreatOpenPageMod
set_option linter.unusedVariables false
set_option linter.unusedSimpArgs false
namespace Go.Proofs.YtimblbmbfdopgaaGreat.gen
open Go Go.Sh
structure M.Registration.ok (x:M.Registration):Prop where
 Site:x.Site.size≤maxLen
 Installing:inI x.Installing
 Waiting:inI x.Waiting
 Active:inI x.Active
def M.Registration.sh:List Shp:=[.str,.int .i64,.int .i64,.int .i64]
theorem M.Registration.cO (d:List D) (h:nR M.Registration.sh d) : ∃x,d=M.Registration.en x∧M.Registration.ok x:=by
 simp only [M.Registration.sh,nR,Has] at h
 obtain ⟨_,_,rfl,⟨a1,rfl,w1⟩,_,_,rfl,⟨a2,rfl,w2⟩,_,_,rfl,⟨a3,rfl,w3⟩,_,_,rfl,⟨a4,rfl,w4⟩,rfl⟩:=h
 exact ⟨⟨a1,a2,a3,a4⟩,rfl,⟨w1,wf_i64 w2,wf_i64 w3,wf_i64 w4⟩⟩
def M.Registration.sz (x:M.Registration):Nat:=x.Site.size
theorem M.Registration.mN (x:M.Registration) (hx:M.Registration.ok x):Sz (lE x) (M.Registration.sz x):=by
 intro l a b
 unfold lE M.Registration.sz
 exact (Sz.str hx.Site) l a b
theorem M.Registration.lJ (x:M.Registration) (hx:M.Registration.ok x) (hs:M.Registration.sz x≤1048576):lG x=some x:=by
 unfold M.Registration.sz at hs
 unfold lG
 rfl
theorem M.Registration.lI (x:M.Registration) (hx:M.Registration.ok x):lH x x=some true:=by
 simp [lH]
theorem M.aDy.mN (xs:List Int) (hx:okB xs):Sz (xR xs) (xs.length):=by
 intro l a b
 unfold xR
 exact (Sz.str hx.1) l a b
theorem M.aDy.lJ (xs:List Int) (hx:okB xs) (hs:xs.length≤1048576):xT xs=some xs:=by
 have hm:=le_max hx.1
 unfold xT
 rw [aB5 (by omega) (by omega),qA]
 refine aBW hx.1 (fun n k r hk hr => ?_) (fun n r => ?_) fuel 0 _ (by unfold fuel;omega) (by omega) (by simp) (by simp)
 ·simp only [nM]
  rw [if_pos (bB hk),aN hk,qA,aN (by omega),qA,bF (by omega),qH]
 ·simp only [nM]
  rw [if_neg (by rw [aP];simp)]
theorem M.aDy.lI (xs:List Int) (hx:okB xs):xU xs xs=some true:=by
 have hm:=le_max hx.1
 unfold xU
 rw [if_neg (by simp)]
 refine aBP hx.1 (fun n k hk => ?_) (fun n => ?_) fuel 0 (by unfold fuel;omega) (by omega)
 ·simp only [nG]
  rw [if_pos (bB hk),aN hk]
  simp [bF (show k<9223372036854775807 by omega)]
 ·simp only [nG]
  rw [if_neg (by rw [aP];simp)]
structure M.Response.ok (x:M.Response):Prop where
 Type_:inI x.Type_
 Status:inI x.Status
 Version:inI x.Version
 Body:okB x.Body
def M.Response.sh:List Shp:=[.int .i64,.int .i64,.int .i64,.sl [.int .u8],.bool]
theorem M.Response.cO (d:List D) (h:nR M.Response.sh d) : ∃x,d=M.Response.en x∧M.Response.ok x:=by
 simp only [M.Response.sh,nR,Has] at h
 obtain ⟨_,_,rfl,⟨a1,rfl,w1⟩,_,_,rfl,⟨a2,rfl,w2⟩,_,_,rfl,⟨a3,rfl,w3⟩,_,_,rfl,⟨_,rfl,w4,q4⟩,_,_,rfl,⟨a5,rfl⟩,rfl⟩:=h
 obtain ⟨a4,rfl,e4⟩:=bE aP3 q4
 exact ⟨⟨a1,a2,a3,a4,a5⟩,rfl,⟨wf_i64 w1,wf_i64 w2,wf_i64 w3,⟨by simpa using w4,e4⟩⟩⟩
def M.Response.sz (x:M.Response):Nat:=x.Body.length
theorem M.Response.mN (x:M.Response) (hx:M.Response.ok x):Sz (tO x) (M.Response.sz x):=by
 intro l a b
 unfold tO M.Response.sz
 exact (Sz.call (M.aDy.mN _ hx.Body)) l a b
theorem M.Response.lJ (x:M.Response) (hx:M.Response.ok x) (hs:M.Response.sz x≤1048576):tB x=some x:=by
 unfold M.Response.sz at hs
 unfold tB
 rw [M.aDy.lJ _ hx.Body (by omega),qA]
theorem M.Response.lI (x:M.Response) (hx:M.Response.ok x):tZ x x=some true:=by
 simp [tZ,M.aDy.lI _ hx.Body]
structure M.Cached.ok (x:M.Cached):Prop where
 Site:x.Site.size≤maxLen
 Path:x.Path.size≤maxLen
 Response:M.Response.ok x.Response
def M.Cached.sh:List Shp:=[.str,.str,.int .i64,.int .i64,.int .i64,.sl [.int .u8],.bool]
theorem M.Cached.cO (d:List D) (h:nR M.Cached.sh d) : ∃x,d=M.Cached.en x∧M.Cached.ok x:=by
 simp only [M.Cached.sh,nR,Has] at h
 obtain ⟨_,_,rfl,⟨a1,rfl,w1⟩,_,_,rfl,⟨a2,rfl,w2⟩,_,_,rfl,⟨a3,rfl,w3⟩,_,_,rfl,⟨a4,rfl,w4⟩,_,_,rfl,⟨a5,rfl,w5⟩,_,_,rfl,⟨_,rfl,w6,q6⟩,_,_,rfl,⟨a7,rfl⟩,rfl⟩:=h
 obtain ⟨a6,rfl,e6⟩:=bE aP3 q6
 exact ⟨⟨a1,a2,⟨a3,a4,a5,a6,a7⟩⟩,rfl,⟨w1,w2,⟨wf_i64 w3,wf_i64 w4,wf_i64 w5,⟨by simpa using w6,e6⟩⟩⟩⟩
def M.Cached.sz (x:M.Cached):Nat:=x.Site.size+(x.Path.size+(M.Response.sz x.Response))
theorem M.Cached.mN (x:M.Cached) (hx:M.Cached.ok x):Sz (yO x) (M.Cached.sz x):=by
 intro l a b
 unfold yO M.Cached.sz
 exact (Sz.aDG hx.Site (Sz.aDG hx.Path (Sz.call (M.Response.mN _ hx.Response)))) l a b
theorem M.Cached.lJ (x:M.Cached) (hx:M.Cached.ok x) (hs:M.Cached.sz x≤1048576):zE x=some x:=by
 unfold M.Cached.sz at hs
 unfold zE
 rw [M.Response.lJ _ hx.Response (by omega),qA]
theorem M.Cached.lI (x:M.Cached) (hx:M.Cached.ok x):zF x x=some true:=by
 simp [zF,M.Response.lI _ hx.Response]
theorem M.aD0.mN (xs:List M.Cached) (hx:(xs.length≤maxLen ∧ ∀y∈xs,M.Cached.ok y)):Sz (wE xs) ((xs.length+aF M.Cached.sz xs)):=by
 intro l a b
 unfold wE
 exact (Sz.aGN hx.1 (fun x h=>M.Cached.mN x (hx.2 x h)) (fun _ _ _=>rfl)) l a b
theorem M.aD0.lJ (xs:List M.Cached) (hx:(xs.length≤maxLen ∧ ∀y∈xs,M.Cached.ok y)) (hs:(xs.length+aF M.Cached.sz xs)≤1048576):wU xs=some xs:=by
 have hm:=le_max hx.1
 unfold wU
 rw [aB5 (by omega) (by omega),qA]
 refine aBW hx.1 (fun n k r hk hr => ?_) (fun n r => ?_) fuel 0 _ (by unfold fuel;omega) (by omega) (by simp) (by simp)
 ·simp only [kG]
  rw [if_pos (bB hk),aN hk,qA,M.Cached.lJ _ (hx.2 _ (qG hk)) (by have:=cF (f:=M.Cached.sz) (qG hk);omega),qA,aN (by omega),qA,bF (by omega),qH]
 ·simp only [kG]
  rw [if_neg (by rw [aP];simp)]
theorem M.aD0.lI (xs:List M.Cached) (hx:(xs.length≤maxLen ∧ ∀y∈xs,M.Cached.ok y)):wN xs xs=some true:=by
 have hm:=le_max hx.1
 unfold wN
 rw [if_neg (by simp)]
 refine aBP hx.1 (fun n k hk => ?_) (fun n => ?_) fuel 0 (by unfold fuel;omega) (by omega)
 ·simp only [kM]
  rw [if_pos (bB hk),aN hk]
  simp [bF (show k<9223372036854775807 by omega),M.Cached.lI _ (hx.2 _ (qG hk))]
 ·simp only [kM]
  rw [if_neg (by rw [aP];simp)]
structure M.Cache.ok (x:M.Cache):Prop where
 Version:inI x.Version
 Entries:(x.Entries.length≤maxLen ∧ ∀y∈x.Entries,M.Cached.ok y)
def M.Cache.sh:List Shp:=[.int .i64,.sl M.Cached.sh]
theorem M.Cache.cO (d:List D) (h:nR M.Cache.sh d) : ∃x,d=M.Cache.en x∧M.Cache.ok x:=by
 simp only [M.Cache.sh,nR,Has] at h
 obtain ⟨_,_,rfl,⟨a1,rfl,w1⟩,_,_,rfl,⟨_,rfl,w2,q2⟩,rfl⟩:=h
 obtain ⟨a2,rfl,e2⟩:=bE M.Cached.cO q2
 exact ⟨⟨a1,a2⟩,rfl,⟨wf_i64 w1,⟨by simpa using w2,e2⟩⟩⟩
def M.Cache.sz (x:M.Cache):Nat:=(x.Entries.length+aF M.Cached.sz x.Entries)
theorem M.Cache.mN (x:M.Cache) (hx:M.Cache.ok x):Sz (aA0 x) (M.Cache.sz x):=by
 intro l a b
 unfold aA0 M.Cache.sz
 exact (Sz.call (M.aD0.mN _ hx.Entries)) l a b
theorem M.Cache.lJ (x:M.Cache) (hx:M.Cache.ok x) (hs:M.Cache.sz x≤1048576):aAf x=some x:=by
 unfold M.Cache.sz at hs
 unfold aAf
 rw [M.aD0.lJ _ hx.Entries (by omega),qA]
theorem M.Cache.lI (x:M.Cache) (hx:M.Cache.ok x):aA3 x x=some true:=by
 simp [aA3,M.aD0.lI _ hx.Entries]
theorem M.aF4.mN (xs:List M.Cache) (hx:(xs.length≤maxLen ∧ ∀y∈xs,M.Cache.ok y)):Sz (zV xs) ((xs.length+aF M.Cache.sz xs)):=by
 intro l a b
 unfold zV
 exact (Sz.aGN hx.1 (fun x h=>M.Cache.mN x (hx.2 x h)) (fun _ _ _=>rfl)) l a b
theorem M.aF4.lJ (xs:List M.Cache) (hx:(xs.length≤maxLen ∧ ∀y∈xs,M.Cache.ok y)) (hs:(xs.length+aF M.Cache.sz xs)≤1048576):zN xs=some xs:=by
 have hm:=le_max hx.1
 unfold zN
 rw [aB5 (by omega) (by omega),qA]
 refine aBW hx.1 (fun n k r hk hr => ?_) (fun n r => ?_) fuel 0 _ (by unfold fuel;omega) (by omega) (by simp) (by simp)
 ·simp only [lY]
  rw [if_pos (bB hk),aN hk,qA,M.Cache.lJ _ (hx.2 _ (qG hk)) (by have:=cF (f:=M.Cache.sz) (qG hk);omega),qA,aN (by omega),qA,bF (by omega),qH]
 ·simp only [lY]
  rw [if_neg (by rw [aP];simp)]
theorem M.aF4.lI (xs:List M.Cache) (hx:(xs.length≤maxLen ∧ ∀y∈xs,M.Cache.ok y)):zM xs xs=some true:=by
 have hm:=le_max hx.1
 unfold zM
 rw [if_neg (by simp)]
 refine aBP hx.1 (fun n k hk => ?_) (fun n => ?_) fuel 0 (by unfold fuel;omega) (by omega)
 ·simp only [lT]
  rw [if_pos (bB hk),aN hk]
  simp [bF (show k<9223372036854775807 by omega),M.Cache.lI _ (hx.2 _ (qG hk))]
 ·simp only [lT]
  rw [if_neg (by rw [aP];simp)]
structure M.aO.ok (x:M.aO):Prop where
 Caches:(x.Caches.length≤maxLen ∧ ∀y∈x.Caches,M.Cache.ok y)
def M.aO.sh:List Shp:=[.sl M.Cache.sh]
theorem M.aO.cO (d:List D) (h:nR M.aO.sh d) : ∃x,d=M.aO.en x∧M.aO.ok x:=by
 simp only [M.aO.sh,nR,Has] at h
 obtain ⟨_,_,rfl,⟨_,rfl,w1,q1⟩,rfl⟩:=h
 obtain ⟨a1,rfl,e1⟩:=bE M.Cache.cO q1
 exact ⟨⟨a1⟩,rfl,⟨⟨by simpa using w1,e1⟩⟩⟩
def M.aO.sz (x:M.aO):Nat:=(x.Caches.length+aF M.Cache.sz x.Caches)
theorem M.aO.mN (x:M.aO) (hx:M.aO.ok x):Sz (uO x) (M.aO.sz x):=by
 intro l a b
 unfold uO M.aO.sz
 exact (Sz.call (M.aF4.mN _ hx.Caches)) l a b
theorem M.aO.lJ (x:M.aO) (hx:M.aO.ok x) (hs:M.aO.sz x≤1048576):tJ x=some x:=by
 unfold M.aO.sz at hs
 unfold tJ
 rw [M.aF4.lJ _ hx.Caches (by omega),qA]
theorem M.aO.lI (x:M.aO) (hx:M.aO.ok x):tH x x=some true:=by
 simp [tH,M.aF4.lI _ hx.Caches]
structure M.Key.ok (x:M.Key):Prop where
 Kind:inI x.Kind
 N:inI x.N
 Text:x.Text.size≤maxLen
def M.Key.sh:List Shp:=[.int .i64,.int .i64,.str]
theorem M.Key.cO (d:List D) (h:nR M.Key.sh d) : ∃x,d=M.Key.en x∧M.Key.ok x:=by
 simp only [M.Key.sh,nR,Has] at h
 obtain ⟨_,_,rfl,⟨a1,rfl,w1⟩,_,_,rfl,⟨a2,rfl,w2⟩,_,_,rfl,⟨a3,rfl,w3⟩,rfl⟩:=h
 exact ⟨⟨a1,a2,a3⟩,rfl,⟨wf_i64 w1,wf_i64 w2,w3⟩⟩
def M.Key.sz (x:M.Key):Nat:=x.Text.size
theorem M.Key.mN (x:M.Key) (hx:M.Key.ok x):Sz (aBX x) (M.Key.sz x):=by
 intro l a b
 unfold aBX M.Key.sz
 exact (Sz.str hx.Text) l a b
theorem M.Key.lJ (x:M.Key) (hx:M.Key.ok x) (hs:M.Key.sz x≤1048576):aBU x=some x:=by
 unfold M.Key.sz at hs
 unfold aBU
 rfl
theorem M.Key.lI (x:M.Key) (hx:M.Key.ok x):aBV x x=some true:=by
 simp [aBV]
structure M.Field.ok (x:M.Field):Prop where
 Name:x.Name.size≤maxLen
 N:inI x.N
def M.Field.sh:List Shp:=[.str,.int .i64]
theorem M.Field.cO (d:List D) (h:nR M.Field.sh d) : ∃x,d=M.Field.en x∧M.Field.ok x:=by
 simp only [M.Field.sh,nR,Has] at h
 obtain ⟨_,_,rfl,⟨a1,rfl,w1⟩,_,_,rfl,⟨a2,rfl,w2⟩,rfl⟩:=h
 exact ⟨⟨a1,a2⟩,rfl,⟨w1,wf_i64 w2⟩⟩
def M.Field.sz (x:M.Field):Nat:=x.Name.size
theorem M.Field.mN (x:M.Field) (hx:M.Field.ok x):Sz (aAs x) (M.Field.sz x):=by
 intro l a b
 unfold aAs M.Field.sz
 exact (Sz.str hx.Name) l a b
theorem M.Field.lJ (x:M.Field) (hx:M.Field.ok x) (hs:M.Field.sz x≤1048576):aA1 x=some x:=by
 unfold M.Field.sz at hs
 unfold aA1
 rfl
theorem M.Field.lI (x:M.Field) (hx:M.Field.ok x):aAW x x=some true:=by
 simp [aAW]
theorem M.aGY.mN (xs:List M.Field) (hx:(xs.length≤maxLen ∧ ∀y∈xs,M.Field.ok y)):Sz (yL xs) ((xs.length+aF M.Field.sz xs)):=by
 intro l a b
 unfold yL
 exact (Sz.aGN hx.1 (fun x h=>M.Field.mN x (hx.2 x h)) (fun _ _ _=>rfl)) l a b
theorem M.aGY.lJ (xs:List M.Field) (hx:(xs.length≤maxLen ∧ ∀y∈xs,M.Field.ok y)) (hs:(xs.length+aF M.Field.sz xs)≤1048576):zZ xs=some xs:=by
 have hm:=le_max hx.1
 unfold zZ
 rw [aB5 (by omega) (by omega),qA]
 refine aBW hx.1 (fun n k r hk hr => ?_) (fun n r => ?_) fuel 0 _ (by unfold fuel;omega) (by omega) (by simp) (by simp)
 ·simp only [lL]
  rw [if_pos (bB hk),aN hk,qA,M.Field.lJ _ (hx.2 _ (qG hk)) (by have:=cF (f:=M.Field.sz) (qG hk);omega),qA,aN (by omega),qA,bF (by omega),qH]
 ·simp only [lL]
  rw [if_neg (by rw [aP];simp)]
theorem M.aGY.lI (xs:List M.Field) (hx:(xs.length≤maxLen ∧ ∀y∈xs,M.Field.ok y)):zP xs xs=some true:=by
 have hm:=le_max hx.1
 unfold zP
 rw [if_neg (by simp)]
 refine aBP hx.1 (fun n k hk => ?_) (fun n => ?_) fuel 0 (by unfold fuel;omega) (by omega)
 ·simp only [lO]
  rw [if_pos (bB hk),aN hk]
  simp [bF (show k<9223372036854775807 by omega),M.Field.lI _ (hx.2 _ (qG hk))]
 ·simp only [lO]
  rw [if_neg (by rw [aP];simp)]
structure M.aW.ok (x:M.aW):Prop where
 Fields:(x.Fields.length≤maxLen ∧ ∀y∈x.Fields,M.Field.ok y)
def M.aW.sh:List Shp:=[.sl M.Field.sh]
theorem M.aW.cO (d:List D) (h:nR M.aW.sh d) : ∃x,d=M.aW.en x∧M.aW.ok x:=by
 simp only [M.aW.sh,nR,Has] at h
 obtain ⟨_,_,rfl,⟨_,rfl,w1,q1⟩,rfl⟩:=h
 obtain ⟨a1,rfl,e1⟩:=bE M.Field.cO q1
 exact ⟨⟨a1⟩,rfl,⟨⟨by simpa using w1,e1⟩⟩⟩
def M.aW.sz (x:M.aW):Nat:=(x.Fields.length+aF M.Field.sz x.Fields)
theorem M.aW.mN (x:M.aW) (hx:M.aW.ok x):Sz (zU x) (M.aW.sz x):=by
 intro l a b
 unfold zU M.aW.sz
 exact (Sz.call (M.aGY.mN _ hx.Fields)) l a b
theorem M.aW.lJ (x:M.aW) (hx:M.aW.ok x) (hs:M.aW.sz x≤1048576):yZ x=some x:=by
 unfold M.aW.sz at hs
 unfold yZ
 rw [M.aGY.lJ _ hx.Fields (by omega),qA]
theorem M.aW.lI (x:M.aW) (hx:M.aW.ok x):zQ x x=some true:=by
 simp [zQ,M.aGY.lI _ hx.Fields]
structure M.Item.ok (x:M.Item):Prop where
 Key:M.Key.ok x.Key
 aW:M.aW.ok x.aW
def M.Item.sh:List Shp:=[.int .i64,.int .i64,.str,.sl M.Field.sh]
theorem M.Item.cO (d:List D) (h:nR M.Item.sh d) : ∃x,d=M.Item.en x∧M.Item.ok x:=by
 simp only [M.Item.sh,nR,Has] at h
 obtain ⟨_,_,rfl,⟨a1,rfl,w1⟩,_,_,rfl,⟨a2,rfl,w2⟩,_,_,rfl,⟨a3,rfl,w3⟩,_,_,rfl,⟨_,rfl,w4,q4⟩,rfl⟩:=h
 obtain ⟨a4,rfl,e4⟩:=bE M.Field.cO q4
 exact ⟨⟨⟨a1,a2,a3⟩,⟨a4⟩⟩,rfl,⟨⟨wf_i64 w1,wf_i64 w2,w3⟩,⟨⟨by simpa using w4,e4⟩⟩⟩⟩
def M.Item.sz (x:M.Item):Nat:=M.Key.sz x.Key+(M.aW.sz x.aW)
theorem M.Item.mN (x:M.Item) (hx:M.Item.ok x):Sz (aB1 x) (M.Item.sz x):=by
 intro l a b
 unfold aB1 M.Item.sz
 exact (Sz.vE (M.Key.mN _ hx.Key) (Sz.call (M.aW.mN _ hx.aW))) l a b
theorem M.Item.lJ (x:M.Item) (hx:M.Item.ok x) (hs:M.Item.sz x≤1048576):aBa x=some x:=by
 unfold M.Item.sz at hs
 unfold aBa
 rw [M.Key.lJ _ hx.Key (by omega),qA,M.aW.lJ _ hx.aW (by omega),qA]
theorem M.Item.lI (x:M.Item) (hx:M.Item.ok x):aBf x x=some true:=by
 simp [aBf,M.Key.lI _ hx.Key,M.aW.lI _ hx.aW]
theorem M.aGr.mN (xs:List M.Item) (hx:(xs.length≤maxLen ∧ ∀y∈xs,M.Item.ok y)):Sz (aA7 xs) ((xs.length+aF M.Item.sz xs)):=by
 intro l a b
 unfold aA7
 exact (Sz.aGN hx.1 (fun x h=>M.Item.mN x (hx.2 x h)) (fun _ _ _=>rfl)) l a b
theorem M.aGr.lJ (xs:List M.Item) (hx:(xs.length≤maxLen ∧ ∀y∈xs,M.Item.ok y)) (hs:(xs.length+aF M.Item.sz xs)≤1048576):aAe xs=some xs:=by
 have hm:=le_max hx.1
 unfold aAe
 rw [aB5 (by omega) (by omega),qA]
 refine aBW hx.1 (fun n k r hk hr => ?_) (fun n r => ?_) fuel 0 _ (by unfold fuel;omega) (by omega) (by simp) (by simp)
 ·simp only [nP]
  rw [if_pos (bB hk),aN hk,qA,M.Item.lJ _ (hx.2 _ (qG hk)) (by have:=cF (f:=M.Item.sz) (qG hk);omega),qA,aN (by omega),qA,bF (by omega),qH]
 ·simp only [nP]
  rw [if_neg (by rw [aP];simp)]
theorem M.aGr.lI (xs:List M.Item) (hx:(xs.length≤maxLen ∧ ∀y∈xs,M.Item.ok y)):aA6 xs xs=some true:=by
 have hm:=le_max hx.1
 unfold aA6
 rw [if_neg (by simp)]
 refine aBP hx.1 (fun n k hk => ?_) (fun n => ?_) fuel 0 (by unfold fuel;omega) (by omega)
 ·simp only [nD]
  rw [if_pos (bB hk),aN hk]
  simp [bF (show k<9223372036854775807 by omega),M.Item.lI _ (hx.2 _ (qG hk))]
 ·simp only [nD]
  rw [if_neg (by rw [aP];simp)]
structure M.aH.ok (x:M.aH):Prop where
 Name:x.Name.size≤maxLen
 Items:(x.Items.length≤maxLen ∧ ∀y∈x.Items,M.Item.ok y)
 Auto:inI x.Auto
def M.aH.sh:List Shp:=[.str,.sl M.Item.sh,.int .i64]
theorem M.aH.cO (d:List D) (h:nR M.aH.sh d) : ∃x,d=M.aH.en x∧M.aH.ok x:=by
 simp only [M.aH.sh,nR,Has] at h
 obtain ⟨_,_,rfl,⟨a1,rfl,w1⟩,_,_,rfl,⟨_,rfl,w2,q2⟩,_,_,rfl,⟨a3,rfl,w3⟩,rfl⟩:=h
 obtain ⟨a2,rfl,e2⟩:=bE M.Item.cO q2
 exact ⟨⟨a1,a2,a3⟩,rfl,⟨w1,⟨by simpa using w2,e2⟩,wf_i64 w3⟩⟩
def M.aH.sz (x:M.aH):Nat:=x.Name.size+((x.Items.length+aF M.Item.sz x.Items))
theorem M.aH.mN (x:M.aH) (hx:M.aH.ok x):Sz (rO x) (M.aH.sz x):=by
 intro l a b
 unfold rO M.aH.sz
 exact (Sz.aDG hx.Name (Sz.call (M.aGr.mN _ hx.Items))) l a b
theorem M.aH.lJ (x:M.aH) (hx:M.aH.ok x) (hs:M.aH.sz x≤1048576):sA x=some x:=by
 unfold M.aH.sz at hs
 unfold sA
 rw [M.aGr.lJ _ hx.Items (by omega),qA]
theorem M.aH.lI (x:M.aH) (hx:M.aH.ok x):rZ x x=some true:=by
 simp [rZ,M.aGr.lI _ hx.Items]
theorem M.aFs.mN (xs:List M.aH) (hx:(xs.length≤maxLen ∧ ∀y∈xs,M.aH.ok y)):Sz (zI xs) ((xs.length+aF M.aH.sz xs)):=by
 intro l a b
 unfold zI
 exact (Sz.aGN hx.1 (fun x h=>M.aH.mN x (hx.2 x h)) (fun _ _ _=>rfl)) l a b
theorem M.aFs.lJ (xs:List M.aH) (hx:(xs.length≤maxLen ∧ ∀y∈xs,M.aH.ok y)) (hs:(xs.length+aF M.aH.sz xs)≤1048576):yS xs=some xs:=by
 have hm:=le_max hx.1
 unfold yS
 rw [aB5 (by omega) (by omega),qA]
 refine aBW hx.1 (fun n k r hk hr => ?_) (fun n r => ?_) fuel 0 _ (by unfold fuel;omega) (by omega) (by simp) (by simp)
 ·simp only [lU]
  rw [if_pos (bB hk),aN hk,qA,M.aH.lJ _ (hx.2 _ (qG hk)) (by have:=cF (f:=M.aH.sz) (qG hk);omega),qA,aN (by omega),qA,bF (by omega),qH]
 ·simp only [lU]
  rw [if_neg (by rw [aP];simp)]
theorem M.aFs.lI (xs:List M.aH) (hx:(xs.length≤maxLen ∧ ∀y∈xs,M.aH.ok y)):yK xs xs=some true:=by
 have hm:=le_max hx.1
 unfold yK
 rw [if_neg (by simp)]
 refine aBP hx.1 (fun n k hk => ?_) (fun n => ?_) fuel 0 (by unfold fuel;omega) (by omega)
 ·simp only [lM]
  rw [if_pos (bB hk),aN hk]
  simp [bF (show k<9223372036854775807 by omega),M.aH.lI _ (hx.2 _ (qG hk))]
 ·simp only [lM]
  rw [if_neg (by rw [aP];simp)]
structure M.aE.ok (x:M.aE):Prop where
 aH:x.aH.size≤maxLen
 Field:x.Field.size≤maxLen
def M.aE.sh:List Shp:=[.str,.str]
theorem M.aE.cO (d:List D) (h:nR M.aE.sh d) : ∃x,d=M.aE.en x∧M.aE.ok x:=by
 simp only [M.aE.sh,nR,Has] at h
 obtain ⟨_,_,rfl,⟨a1,rfl,w1⟩,_,_,rfl,⟨a2,rfl,w2⟩,rfl⟩:=h
 exact ⟨⟨a1,a2⟩,rfl,⟨w1,w2⟩⟩
def M.aE.sz (x:M.aE):Nat:=x.aH.size+(x.Field.size)
theorem M.aE.mN (x:M.aE) (hx:M.aE.ok x):Sz (sL x) (M.aE.sz x):=by
 intro l a b
 unfold sL M.aE.sz
 exact (Sz.aDG hx.aH (Sz.str hx.Field)) l a b
theorem M.aE.lJ (x:M.aE) (hx:M.aE.ok x) (hs:M.aE.sz x≤1048576):uK x=some x:=by
 unfold M.aE.sz at hs
 unfold uK
 rfl
theorem M.aE.lI (x:M.aE) (hx:M.aE.ok x):uE x x=some true:=by
 simp [uE]
theorem M.aCI.mN (xs:List M.aE) (hx:(xs.length≤maxLen ∧ ∀y∈xs,M.aE.ok y)):Sz (pQ xs) ((xs.length+aF M.aE.sz xs)):=by
 intro l a b
 unfold pQ
 exact (Sz.aGN hx.1 (fun x h=>M.aE.mN x (hx.2 x h)) (fun _ _ _=>rfl)) l a b
theorem M.aCI.lJ (xs:List M.aE) (hx:(xs.length≤maxLen ∧ ∀y∈xs,M.aE.ok y)) (hs:(xs.length+aF M.aE.sz xs)≤1048576):pZ xs=some xs:=by
 have hm:=le_max hx.1
 unfold pZ
 rw [aB5 (by omega) (by omega),qA]
 refine aBW hx.1 (fun n k r hk hr => ?_) (fun n r => ?_) fuel 0 _ (by unfold fuel;omega) (by omega) (by simp) (by simp)
 ·simp only [iS]
  rw [if_pos (bB hk),aN hk,qA,M.aE.lJ _ (hx.2 _ (qG hk)) (by have:=cF (f:=M.aE.sz) (qG hk);omega),qA,aN (by omega),qA,bF (by omega),qH]
 ·simp only [iS]
  rw [if_neg (by rw [aP];simp)]
theorem M.aCI.lI (xs:List M.aE) (hx:(xs.length≤maxLen ∧ ∀y∈xs,M.aE.ok y)):pU xs xs=some true:=by
 have hm:=le_max hx.1
 unfold pU
 rw [if_neg (by simp)]
 refine aBP hx.1 (fun n k hk => ?_) (fun n => ?_) fuel 0 (by unfold fuel;omega) (by omega)
 ·simp only [iU]
  rw [if_pos (bB hk),aN hk]
  simp [bF (show k<9223372036854775807 by omega),M.aE.lI _ (hx.2 _ (qG hk))]
 ·simp only [iU]
  rw [if_neg (by rw [aP];simp)]
structure M.Database.ok (x:M.Database):Prop where
 Name:x.Name.size≤maxLen
 Version:inI x.Version
 Stores:(x.Stores.length≤maxLen ∧ ∀y∈x.Stores,M.aH.ok y)
 Unique:(x.Unique.length≤maxLen ∧ ∀y∈x.Unique,M.aE.ok y)
def M.Database.sh:List Shp:=[.str,.int .i64,.sl M.aH.sh,.sl M.aE.sh]
theorem M.Database.cO (d:List D) (h:nR M.Database.sh d) : ∃x,d=M.Database.en x∧M.Database.ok x:=by
 simp only [M.Database.sh,nR,Has] at h
 obtain ⟨_,_,rfl,⟨a1,rfl,w1⟩,_,_,rfl,⟨a2,rfl,w2⟩,_,_,rfl,⟨_,rfl,w3,q3⟩,_,_,rfl,⟨_,rfl,w4,q4⟩,rfl⟩:=h
 obtain ⟨a3,rfl,e3⟩:=bE M.aH.cO q3
 obtain ⟨a4,rfl,e4⟩:=bE M.aE.cO q4
 exact ⟨⟨a1,a2,a3,a4⟩,rfl,⟨w1,wf_i64 w2,⟨by simpa using w3,e3⟩,⟨by simpa using w4,e4⟩⟩⟩
def M.Database.sz (x:M.Database):Nat:=x.Name.size+((x.Stores.length+aF M.aH.sz x.Stores)+((x.Unique.length+aF M.aE.sz x.Unique)))
theorem M.Database.mN (x:M.Database) (hx:M.Database.ok x):Sz (uI x) (M.Database.sz x):=by
 intro l a b
 unfold uI M.Database.sz
 exact (Sz.aDG hx.Name (Sz.vE (M.aFs.mN _ hx.Stores) (Sz.call (M.aCI.mN _ hx.Unique)))) l a b
theorem M.Database.lJ (x:M.Database) (hx:M.Database.ok x) (hs:M.Database.sz x≤1048576):sH x=some x:=by
 unfold M.Database.sz at hs
 unfold sH
 rw [M.aFs.lJ _ hx.Stores (by omega),qA,M.aCI.lJ _ hx.Unique (by omega),qA]
theorem M.Database.lI (x:M.Database) (hx:M.Database.ok x):uL x x=some true:=by
 simp [uL,M.aFs.lI _ hx.Stores,M.aCI.lI _ hx.Unique]
structure M.bC.ok (x:M.bC):Prop where
 Base:M.Database.ok x.Base
 Log:okB x.Log
 Count:inI x.Count
def M.bC.sh:List Shp:=[.str,.int .i64,.sl M.aH.sh,.sl M.aE.sh,.sl [.int .u8],.int .i64]
theorem M.bC.cO (d:List D) (h:nR M.bC.sh d) : ∃x,d=M.bC.en x∧M.bC.ok x:=by
 simp only [M.bC.sh,nR,Has] at h
 obtain ⟨_,_,rfl,⟨a1,rfl,w1⟩,_,_,rfl,⟨a2,rfl,w2⟩,_,_,rfl,⟨_,rfl,w3,q3⟩,_,_,rfl,⟨_,rfl,w4,q4⟩,_,_,rfl,⟨_,rfl,w5,q5⟩,_,_,rfl,⟨a6,rfl,w6⟩,rfl⟩:=h
 obtain ⟨a3,rfl,e3⟩:=bE M.aH.cO q3
 obtain ⟨a4,rfl,e4⟩:=bE M.aE.cO q4
 obtain ⟨a5,rfl,e5⟩:=bE aP3 q5
 exact ⟨⟨⟨a1,a2,a3,a4⟩,a5,a6⟩,rfl,⟨⟨w1,wf_i64 w2,⟨by simpa using w3,e3⟩,⟨by simpa using w4,e4⟩⟩,⟨by simpa using w5,e5⟩,wf_i64 w6⟩⟩
def M.bC.sz (x:M.bC):Nat:=M.Database.sz x.Base+(x.Log.length)
theorem M.bC.mN (x:M.bC) (hx:M.bC.ok x):Sz (aBZ x) (M.bC.sz x):=by
 intro l a b
 unfold aBZ M.bC.sz
 exact (Sz.vE (M.Database.mN _ hx.Base) (Sz.call (M.aDy.mN _ hx.Log))) l a b
theorem M.bC.lJ (x:M.bC) (hx:M.bC.ok x) (hs:M.bC.sz x≤1048576):aCC x=some x:=by
 unfold M.bC.sz at hs
 unfold aCC
 rw [M.Database.lJ _ hx.Base (by omega),qA,M.aDy.lJ _ hx.Log (by omega),qA]
theorem M.bC.lI (x:M.bC) (hx:M.bC.ok x):aB2 x x=some true:=by
 simp [aB2,M.Database.lI _ hx.Base,M.aDy.lI _ hx.Log]
structure M.aZ.ok (x:M.aZ):Prop where
 Device:inI x.Device
 Seq:inI x.Seq
 Key:M.Key.ok x.Key
 Field:x.Field.size≤maxLen
 N:inI x.N
def M.aZ.sh:List Shp:=[.int .i64,.int .i64,.int .i64,.int .i64,.str,.str,.int .i64]
theorem M.aZ.cO (d:List D) (h:nR M.aZ.sh d) : ∃x,d=M.aZ.en x∧M.aZ.ok x:=by
 simp only [M.aZ.sh,nR,Has] at h
 obtain ⟨_,_,rfl,⟨a1,rfl,w1⟩,_,_,rfl,⟨a2,rfl,w2⟩,_,_,rfl,⟨a3,rfl,w3⟩,_,_,rfl,⟨a4,rfl,w4⟩,_,_,rfl,⟨a5,rfl,w5⟩,_,_,rfl,⟨a6,rfl,w6⟩,_,_,rfl,⟨a7,rfl,w7⟩,rfl⟩:=h
 exact ⟨⟨a1,a2,⟨a3,a4,a5⟩,a6,a7⟩,rfl,⟨wf_i64 w1,wf_i64 w2,⟨wf_i64 w3,wf_i64 w4,w5⟩,w6,wf_i64 w7⟩⟩
def M.aZ.sz (x:M.aZ):Nat:=M.Key.sz x.Key+(x.Field.size)
theorem M.aZ.mN (x:M.aZ) (hx:M.aZ.ok x):Sz (aAy x) (M.aZ.sz x):=by
 intro l a b
 unfold aAy M.aZ.sz
 exact (Sz.vE (M.Key.mN _ hx.Key) (Sz.str hx.Field)) l a b
theorem M.aZ.lJ (x:M.aZ) (hx:M.aZ.ok x) (hs:M.aZ.sz x≤1048576):aAq x=some x:=by
 unfold M.aZ.sz at hs
 unfold aAq
 rw [M.Key.lJ _ hx.Key (by omega),qA]
theorem M.aZ.lI (x:M.aZ) (hx:M.aZ.ok x):aAb x x=some true:=by
 simp [aAb,M.Key.lI _ hx.Key]
theorem M.aDJ.mN (xs:List M.aZ) (hx:(xs.length≤maxLen ∧ ∀y∈xs,M.aZ.ok y)):Sz (tR xs) ((xs.length+aF M.aZ.sz xs)):=by
 intro l a b
 unfold tR
 exact (Sz.aGN hx.1 (fun x h=>M.aZ.mN x (hx.2 x h)) (fun _ _ _=>rfl)) l a b
theorem M.aDJ.lJ (xs:List M.aZ) (hx:(xs.length≤maxLen ∧ ∀y∈xs,M.aZ.ok y)) (hs:(xs.length+aF M.aZ.sz xs)≤1048576):tX xs=some xs:=by
 have hm:=le_max hx.1
 unfold tX
 rw [aB5 (by omega) (by omega),qA]
 refine aBW hx.1 (fun n k r hk hr => ?_) (fun n r => ?_) fuel 0 _ (by unfold fuel;omega) (by omega) (by simp) (by simp)
 ·simp only [lZ]
  rw [if_pos (bB hk),aN hk,qA,M.aZ.lJ _ (hx.2 _ (qG hk)) (by have:=cF (f:=M.aZ.sz) (qG hk);omega),qA,aN (by omega),qA,bF (by omega),qH]
 ·simp only [lZ]
  rw [if_neg (by rw [aP];simp)]
theorem M.aDJ.lI (xs:List M.aZ) (hx:(xs.length≤maxLen ∧ ∀y∈xs,M.aZ.ok y)):uN xs xs=some true:=by
 have hm:=le_max hx.1
 unfold uN
 rw [if_neg (by simp)]
 refine aBP hx.1 (fun n k hk => ?_) (fun n => ?_) fuel 0 (by unfold fuel;omega) (by omega)
 ·simp only [lX]
  rw [if_pos (bB hk),aN hk]
  simp [bF (show k<9223372036854775807 by omega),M.aZ.lI _ (hx.2 _ (qG hk))]
 ·simp only [lX]
  rw [if_neg (by rw [aP];simp)]
structure M.aR.ok (x:M.aR):Prop where
 Device:inI x.Device
 Next:inI x.Next
 Writes:(x.Writes.length≤maxLen ∧ ∀y∈x.Writes,M.aZ.ok y)
def M.aR.sh:List Shp:=[.int .i64,.int .i64,.sl M.aZ.sh]
theorem M.aR.cO (d:List D) (h:nR M.aR.sh d) : ∃x,d=M.aR.en x∧M.aR.ok x:=by
 simp only [M.aR.sh,nR,Has] at h
 obtain ⟨_,_,rfl,⟨a1,rfl,w1⟩,_,_,rfl,⟨a2,rfl,w2⟩,_,_,rfl,⟨_,rfl,w3,q3⟩,rfl⟩:=h
 obtain ⟨a3,rfl,e3⟩:=bE M.aZ.cO q3
 exact ⟨⟨a1,a2,a3⟩,rfl,⟨wf_i64 w1,wf_i64 w2,⟨by simpa using w3,e3⟩⟩⟩
def M.aR.sz (x:M.aR):Nat:=(x.Writes.length+aF M.aZ.sz x.Writes)
theorem M.aR.mN (x:M.aR) (hx:M.aR.ok x):Sz (yY x) (M.aR.sz x):=by
 intro l a b
 unfold yY M.aR.sz
 exact (Sz.call (M.aDJ.mN _ hx.Writes)) l a b
theorem M.aR.lJ (x:M.aR) (hx:M.aR.ok x) (hs:M.aR.sz x≤1048576):yM x=some x:=by
 unfold M.aR.sz at hs
 unfold yM
 rw [M.aDJ.lJ _ hx.Writes (by omega),qA]
theorem M.aR.lI (x:M.aR) (hx:M.aR.ok x):zT x x=some true:=by
 simp [zT,M.aDJ.lI _ hx.Writes]
structure M.Sync.ok (x:M.Sync):Prop where
 aR:M.aR.ok x.aR
 Tries:inI x.Tries
 WaitUntil:inI x.WaitUntil
def M.Sync.sh:List Shp:=[.int .i64,.int .i64,.sl M.aZ.sh,.int .i64,.int .i64]
theorem M.Sync.cO (d:List D) (h:nR M.Sync.sh d) : ∃x,d=M.Sync.en x∧M.Sync.ok x:=by
 simp only [M.Sync.sh,nR,Has] at h
 obtain ⟨_,_,rfl,⟨a1,rfl,w1⟩,_,_,rfl,⟨a2,rfl,w2⟩,_,_,rfl,⟨_,rfl,w3,q3⟩,_,_,rfl,⟨a4,rfl,w4⟩,_,_,rfl,⟨a5,rfl,w5⟩,rfl⟩:=h
 obtain ⟨a3,rfl,e3⟩:=bE M.aZ.cO q3
 exact ⟨⟨⟨a1,a2,a3⟩,a4,a5⟩,rfl,⟨⟨wf_i64 w1,wf_i64 w2,⟨by simpa using w3,e3⟩⟩,wf_i64 w4,wf_i64 w5⟩⟩
def M.Sync.sz (x:M.Sync):Nat:=M.aR.sz x.aR
theorem M.Sync.mN (x:M.Sync) (hx:M.Sync.ok x):Sz (aCF x) (M.Sync.sz x):=by
 intro l a b
 unfold aCF M.Sync.sz
 exact (Sz.call (M.aR.mN _ hx.aR)) l a b
theorem M.Sync.lJ (x:M.Sync) (hx:M.Sync.ok x) (hs:M.Sync.sz x≤1048576):aB6 x=some x:=by
 unfold M.Sync.sz at hs
 unfold aB6
 rw [M.aR.lJ _ hx.aR (by omega),qA]
theorem M.Sync.lI (x:M.Sync) (hx:M.Sync.ok x):aBk x x=some true:=by
 simp [aBk,M.aR.lI _ hx.aR]
structure M.aD.ok (x:M.aD):Prop where
 Base:M.aH.ok x.Base
 Seen:inI x.Seen
 Sync:M.Sync.ok x.Sync
def M.aD.sh:List Shp:=[.str,.sl M.Item.sh,.int .i64,.int .i64,.int .i64,.int .i64,.sl M.aZ.sh,.int .i64,.int .i64]
theorem M.aD.cO (d:List D) (h:nR M.aD.sh d) : ∃x,d=M.aD.en x∧M.aD.ok x:=by
 simp only [M.aD.sh,nR,Has] at h
 obtain ⟨_,_,rfl,⟨a1,rfl,w1⟩,_,_,rfl,⟨_,rfl,w2,q2⟩,_,_,rfl,⟨a3,rfl,w3⟩,_,_,rfl,⟨a4,rfl,w4⟩,_,_,rfl,⟨a5,rfl,w5⟩,_,_,rfl,⟨a6,rfl,w6⟩,_,_,rfl,⟨_,rfl,w7,q7⟩,_,_,rfl,⟨a8,rfl,w8⟩,_,_,rfl,⟨a9,rfl,w9⟩,rfl⟩:=h
 obtain ⟨a2,rfl,e2⟩:=bE M.Item.cO q2
 obtain ⟨a7,rfl,e7⟩:=bE M.aZ.cO q7
 exact ⟨⟨⟨a1,a2,a3⟩,a4,⟨⟨a5,a6,a7⟩,a8,a9⟩⟩,rfl,⟨⟨w1,⟨by simpa using w2,e2⟩,wf_i64 w3⟩,wf_i64 w4,⟨⟨wf_i64 w5,wf_i64 w6,⟨by simpa using w7,e7⟩⟩,wf_i64 w8,wf_i64 w9⟩⟩⟩
def M.aD.sz (x:M.aD):Nat:=M.aH.sz x.Base+(M.Sync.sz x.Sync)
theorem M.aD.mN (x:M.aD) (hx:M.aD.ok x):Sz (xG x) (M.aD.sz x):=by
 intro l a b
 unfold xG M.aD.sz
 exact (Sz.vE (M.aH.mN _ hx.Base) (Sz.call (M.Sync.mN _ hx.Sync))) l a b
theorem M.aD.lJ (x:M.aD) (hx:M.aD.ok x) (hs:M.aD.sz x≤1048576):wV x=some x:=by
 unfold M.aD.sz at hs
 unfold wV
 rw [M.aH.lJ _ hx.Base (by omega),qA,M.Sync.lJ _ hx.Sync (by omega),qA]
theorem M.aD.lI (x:M.aD) (hx:M.aD.ok x):wS x x=some true:=by
 simp [wS,M.aH.lI _ hx.Base,M.Sync.lI _ hx.Sync]
structure M.aC.ok (x:M.aC):Prop where
 Site:x.Site.size≤maxLen
 Top:x.Top.size≤maxLen
 Registration:M.Registration.ok x.Registration
 Caches:M.aO.ok x.Caches
 bC:M.bC.ok x.bC
 aD:M.aD.ok x.aD
 LastUsed:inI x.LastUsed
def M.aC.sh:List Shp:=[.str,.str,.str,.int .i64,.int .i64,.int .i64,.sl M.Cache.sh,.str,.int .i64,.sl M.aH.sh,.sl M.aE.sh,.sl [.int .u8],.int .i64,.str,.sl M.Item.sh,.int .i64,.int .i64,.int .i64,.int .i64,.sl M.aZ.sh,.int .i64,.int .i64,.int .i64,.bool]
theorem M.aC.cO (d:List D) (h:nR M.aC.sh d) : ∃x,d=M.aC.en x∧M.aC.ok x:=by
 simp only [M.aC.sh,nR,Has] at h
 obtain ⟨_,_,rfl,⟨a1,rfl,w1⟩,_,_,rfl,⟨a2,rfl,w2⟩,_,_,rfl,⟨a3,rfl,w3⟩,_,_,rfl,⟨a4,rfl,w4⟩,_,_,rfl,⟨a5,rfl,w5⟩,_,_,rfl,⟨a6,rfl,w6⟩,_,_,rfl,⟨_,rfl,w7,q7⟩,_,_,rfl,⟨a8,rfl,w8⟩,_,_,rfl,⟨a9,rfl,w9⟩,_,_,rfl,⟨_,rfl,w10,q10⟩,_,_,rfl,⟨_,rfl,w11,q11⟩,_,_,rfl,⟨_,rfl,w12,q12⟩,_,_,rfl,⟨a13,rfl,w13⟩,_,_,rfl,⟨a14,rfl,w14⟩,_,_,rfl,⟨_,rfl,w15,q15⟩,_,_,rfl,⟨a16,rfl,w16⟩,_,_,rfl,⟨a17,rfl,w17⟩,_,_,rfl,⟨a18,rfl,w18⟩,_,_,rfl,⟨a19,rfl,w19⟩,_,_,rfl,⟨_,rfl,w20,q20⟩,_,_,rfl,⟨a21,rfl,w21⟩,_,_,rfl,⟨a22,rfl,w22⟩,_,_,rfl,⟨a23,rfl,w23⟩,_,_,rfl,⟨a24,rfl⟩,rfl⟩:=h
 obtain ⟨a7,rfl,e7⟩:=bE M.Cache.cO q7
 obtain ⟨a10,rfl,e10⟩:=bE M.aH.cO q10
 obtain ⟨a11,rfl,e11⟩:=bE M.aE.cO q11
 obtain ⟨a12,rfl,e12⟩:=bE aP3 q12
 obtain ⟨a15,rfl,e15⟩:=bE M.Item.cO q15
 obtain ⟨a20,rfl,e20⟩:=bE M.aZ.cO q20
 exact ⟨⟨a1,a2,⟨a3,a4,a5,a6⟩,⟨a7⟩,⟨⟨a8,a9,a10,a11⟩,a12,a13⟩,⟨⟨a14,a15,a16⟩,a17,⟨⟨a18,a19,a20⟩,a21,a22⟩⟩,a23,a24⟩,rfl,⟨w1,w2,⟨w3,wf_i64 w4,wf_i64 w5,wf_i64 w6⟩,⟨⟨by simpa using w7,e7⟩⟩,⟨⟨w8,wf_i64 w9,⟨by simpa using w10,e10⟩,⟨by simpa using w11,e11⟩⟩,⟨by simpa using w12,e12⟩,wf_i64 w13⟩,⟨⟨w14,⟨by simpa using w15,e15⟩,wf_i64 w16⟩,wf_i64 w17,⟨⟨wf_i64 w18,wf_i64 w19,⟨by simpa using w20,e20⟩⟩,wf_i64 w21,wf_i64 w22⟩⟩,wf_i64 w23⟩⟩
def M.aC.sz (x:M.aC):Nat:=x.Site.size+(x.Top.size+(M.Registration.sz x.Registration+(M.aO.sz x.Caches+(M.bC.sz x.bC+(M.aD.sz x.aD)))))
theorem M.aC.mN (x:M.aC) (hx:M.aC.ok x):Sz (zX x) (M.aC.sz x):=by
 intro l a b
 unfold zX M.aC.sz
 exact (Sz.aDG hx.Site (Sz.aDG hx.Top (Sz.vE (M.Registration.mN _ hx.Registration) (Sz.vE (M.aO.mN _ hx.Caches) (Sz.vE (M.bC.mN _ hx.bC) (Sz.call (M.aD.mN _ hx.aD))))))) l a b
theorem M.aC.lJ (x:M.aC) (hx:M.aC.ok x) (hs:M.aC.sz x≤1048576):zO x=some x:=by
 unfold M.aC.sz at hs
 unfold zO
 rw [M.Registration.lJ _ hx.Registration (by omega),qA,M.aO.lJ _ hx.Caches (by omega),qA,M.bC.lJ _ hx.bC (by omega),qA,M.aD.lJ _ hx.aD (by omega),qA]
theorem M.aC.lI (x:M.aC) (hx:M.aC.ok x):yT x x=some true:=by
 simp [yT,M.Registration.lI _ hx.Registration,M.aO.lI _ hx.Caches,M.bC.lI _ hx.bC,M.aD.lI _ hx.aD]
theorem M.aD5.mN (xs:List M.aC) (hx:(xs.length≤maxLen ∧ ∀y∈xs,M.aC.ok y)):Sz (wH xs) ((xs.length+aF M.aC.sz xs)):=by
 intro l a b
 unfold wH
 exact (Sz.aGN hx.1 (fun x h=>M.aC.mN x (hx.2 x h)) (fun _ _ _=>rfl)) l a b
theorem M.aD5.lJ (xs:List M.aC) (hx:(xs.length≤maxLen ∧ ∀y∈xs,M.aC.ok y)) (hs:(xs.length+aF M.aC.sz xs)≤1048576):xM xs=some xs:=by
 have hm:=le_max hx.1
 unfold xM
 rw [aB5 (by omega) (by omega),qA]
 refine aBW hx.1 (fun n k r hk hr => ?_) (fun n r => ?_) fuel 0 _ (by unfold fuel;omega) (by omega) (by simp) (by simp)
 ·simp only [kT]
  rw [if_pos (bB hk),aN hk,qA,M.aC.lJ _ (hx.2 _ (qG hk)) (by have:=cF (f:=M.aC.sz) (qG hk);omega),qA,aN (by omega),qA,bF (by omega),qH]
 ·simp only [kT]
  rw [if_neg (by rw [aP];simp)]
theorem M.aD5.lI (xs:List M.aC) (hx:(xs.length≤maxLen ∧ ∀y∈xs,M.aC.ok y)):xD xs xs=some true:=by
 have hm:=le_max hx.1
 unfold xD
 rw [if_neg (by simp)]
 refine aBP hx.1 (fun n k hk => ?_) (fun n => ?_) fuel 0 (by unfold fuel;omega) (by omega)
 ·simp only [kE]
  rw [if_pos (bB hk),aN hk]
  simp [bF (show k<9223372036854775807 by omega),M.aC.lI _ (hx.2 _ (qG hk))]
 ·simp only [kE]
  rw [if_neg (by rw [aP];simp)]
structure M.aA.ok (x:M.aA):Prop where
 Buckets:(x.Buckets.length≤maxLen ∧ ∀y∈x.Buckets,M.aC.ok y)
def M.aA.sh:List Shp:=[.sl M.aC.sh]
theorem M.aA.cO (d:List D) (h:nR M.aA.sh d) : ∃x,d=M.aA.en x∧M.aA.ok x:=by
 simp only [M.aA.sh,nR,Has] at h
 obtain ⟨_,_,rfl,⟨_,rfl,w1,q1⟩,rfl⟩:=h
 obtain ⟨a1,rfl,e1⟩:=bE M.aC.cO q1
 exact ⟨⟨a1⟩,rfl,⟨⟨by simpa using w1,e1⟩⟩⟩
def M.aA.sz (x:M.aA):Nat:=(x.Buckets.length+aF M.aC.sz x.Buckets)
theorem M.aA.mN (x:M.aA) (hx:M.aA.ok x):Sz (vY x) (M.aA.sz x):=by
 intro l a b
 unfold vY M.aA.sz
 exact (Sz.call (M.aD5.mN _ hx.Buckets)) l a b
theorem M.aA.lJ (x:M.aA) (hx:M.aA.ok x) (hs:M.aA.sz x≤1048576):wO x=some x:=by
 unfold M.aA.sz at hs
 unfold wO
 rw [M.aD5.lJ _ hx.Buckets (by omega),qA]
theorem M.aA.lI (x:M.aA) (hx:M.aA.ok x):xC x x=some true:=by
 simp [xC,M.aD5.lI _ hx.Buckets]
structure M.aK.ok (x:M.aK):Prop where
 Path:x.Path.size≤maxLen
 Version:inI x.Version
def M.aK.sh:List Shp:=[.str,.int .i64]
theorem M.aK.cO (d:List D) (h:nR M.aK.sh d) : ∃x,d=M.aK.en x∧M.aK.ok x:=by
 simp only [M.aK.sh,nR,Has] at h
 obtain ⟨_,_,rfl,⟨a1,rfl,w1⟩,_,_,rfl,⟨a2,rfl,w2⟩,rfl⟩:=h
 exact ⟨⟨a1,a2⟩,rfl,⟨w1,wf_i64 w2⟩⟩
def M.aK.sz (x:M.aK):Nat:=x.Path.size
theorem M.aK.mN (x:M.aK) (hx:M.aK.ok x):Sz (yP x) (M.aK.sz x):=by
 intro l a b
 unfold yP M.aK.sz
 exact (Sz.str hx.Path) l a b
theorem M.aK.lJ (x:M.aK) (hx:M.aK.ok x) (hs:M.aK.sz x≤1048576):yH x=some x:=by
 unfold M.aK.sz at hs
 unfold yH
 rfl
theorem M.aK.lI (x:M.aK) (hx:M.aK.ok x):yI x x=some true:=by
 simp [yI]
theorem M.aD4.mN (xs:List M.aK) (hx:(xs.length≤maxLen ∧ ∀y∈xs,M.aK.ok y)):Sz (wI xs) ((xs.length+aF M.aK.sz xs)):=by
 intro l a b
 unfold wI
 exact (Sz.aGN hx.1 (fun x h=>M.aK.mN x (hx.2 x h)) (fun _ _ _=>rfl)) l a b
theorem M.aD4.lJ (xs:List M.aK) (hx:(xs.length≤maxLen ∧ ∀y∈xs,M.aK.ok y)) (hs:(xs.length+aF M.aK.sz xs)≤1048576):wJ xs=some xs:=by
 have hm:=le_max hx.1
 unfold wJ
 rw [aB5 (by omega) (by omega),qA]
 refine aBW hx.1 (fun n k r hk hr => ?_) (fun n r => ?_) fuel 0 _ (by unfold fuel;omega) (by omega) (by simp) (by simp)
 ·simp only [kS]
  rw [if_pos (bB hk),aN hk,qA,M.aK.lJ _ (hx.2 _ (qG hk)) (by have:=cF (f:=M.aK.sz) (qG hk);omega),qA,aN (by omega),qA,bF (by omega),qH]
 ·simp only [kS]
  rw [if_neg (by rw [aP];simp)]
theorem M.aD4.lI (xs:List M.aK) (hx:(xs.length≤maxLen ∧ ∀y∈xs,M.aK.ok y)):xF xs xs=some true:=by
 have hm:=le_max hx.1
 unfold xF
 rw [if_neg (by simp)]
 refine aBP hx.1 (fun n k hk => ?_) (fun n => ?_) fuel 0 (by unfold fuel;omega) (by omega)
 ·simp only [kR]
  rw [if_pos (bB hk),aN hk]
  simp [bF (show k<9223372036854775807 by omega),M.aK.lI _ (hx.2 _ (qG hk))]
 ·simp only [kR]
  rw [if_neg (by rw [aP];simp)]
structure M.Instr.ok (x:M.Instr):Prop where
 Kind:inI x.Kind
 R:inI x.R
 N:inI x.N
 Text:x.Text.size≤maxLen
def M.Instr.sh:List Shp:=[.int .i64,.int .i64,.int .i64,.str]
theorem M.Instr.cO (d:List D) (h:nR M.Instr.sh d) : ∃x,d=M.Instr.en x∧M.Instr.ok x:=by
 simp only [M.Instr.sh,nR,Has] at h
 obtain ⟨_,_,rfl,⟨a1,rfl,w1⟩,_,_,rfl,⟨a2,rfl,w2⟩,_,_,rfl,⟨a3,rfl,w3⟩,_,_,rfl,⟨a4,rfl,w4⟩,rfl⟩:=h
 exact ⟨⟨a1,a2,a3,a4⟩,rfl,⟨wf_i64 w1,wf_i64 w2,wf_i64 w3,w4⟩⟩
def M.Instr.sz (x:M.Instr):Nat:=x.Text.size
theorem M.Instr.mN (x:M.Instr) (hx:M.Instr.ok x):Sz (aAV x) (M.Instr.sz x):=by
 intro l a b
 unfold aAV M.Instr.sz
 exact (Sz.str hx.Text) l a b
theorem M.Instr.lJ (x:M.Instr) (hx:M.Instr.ok x) (hs:M.Instr.sz x≤1048576):aA2 x=some x:=by
 unfold M.Instr.sz at hs
 unfold aA2
 rfl
theorem M.Instr.lI (x:M.Instr) (hx:M.Instr.ok x):aAU x x=some true:=by
 simp [aAU]
theorem M.aDP.mN (xs:List M.Instr) (hx:(xs.length≤maxLen ∧ ∀y∈xs,M.Instr.ok y)):Sz (tQ xs) ((xs.length+aF M.Instr.sz xs)):=by
 intro l a b
 unfold tQ
 exact (Sz.aGN hx.1 (fun x h=>M.Instr.mN x (hx.2 x h)) (fun _ _ _=>rfl)) l a b
theorem M.aDP.lJ (xs:List M.Instr) (hx:(xs.length≤maxLen ∧ ∀y∈xs,M.Instr.ok y)) (hs:(xs.length+aF M.Instr.sz xs)≤1048576):jT xs=some xs:=by
 have hm:=le_max hx.1
 unfold jT
 rw [aB5 (by omega) (by omega),qA]
 refine aBW hx.1 (fun n k r hk hr => ?_) (fun n r => ?_) fuel 0 _ (by unfold fuel;omega) (by omega) (by simp) (by simp)
 ·simp only [lK]
  rw [if_pos (bB hk),aN hk,qA,M.Instr.lJ _ (hx.2 _ (qG hk)) (by have:=cF (f:=M.Instr.sz) (qG hk);omega),qA,aN (by omega),qA,bF (by omega),qH]
 ·simp only [lK]
  rw [if_neg (by rw [aP];simp)]
theorem M.aDP.lI (xs:List M.Instr) (hx:(xs.length≤maxLen ∧ ∀y∈xs,M.Instr.ok y)):tP xs xs=some true:=by
 have hm:=le_max hx.1
 unfold tP
 rw [if_neg (by simp)]
 refine aBP hx.1 (fun n k hk => ?_) (fun n => ?_) fuel 0 (by unfold fuel;omega) (by omega)
 ·simp only [lR]
  rw [if_pos (bB hk),aN hk]
  simp [bF (show k<9223372036854775807 by omega),M.Instr.lI _ (hx.2 _ (qG hk))]
 ·simp only [lR]
  rw [if_neg (by rw [aP];simp)]
theorem M.aMG.mN (xs:List Int) (hx:okI xs):Sz (aB7 xs) (xs.length):=by
 intro l a b
 unfold aB7
 exact (Sz.str hx.1) l a b
theorem M.aMG.lJ (xs:List Int) (hx:okI xs) (hs:xs.length≤1048576):aBo xs=some xs:=by
 have hm:=le_max hx.1
 unfold aBo
 rw [aB5 (by omega) (by omega),qA]
 refine aBW hx.1 (fun n k r hk hr => ?_) (fun n r => ?_) fuel 0 _ (by unfold fuel;omega) (by omega) (by simp) (by simp)
 ·simp only [pB]
  rw [if_pos (bB hk),aN hk,qA,aN (by omega),qA,bF (by omega),qH]
 ·simp only [pB]
  rw [if_neg (by rw [aP];simp)]
theorem M.aMG.lI (xs:List Int) (hx:okI xs):aB3 xs xs=some true:=by
 have hm:=le_max hx.1
 unfold aB3
 rw [if_neg (by simp)]
 refine aBP hx.1 (fun n k hk => ?_) (fun n => ?_) fuel 0 (by unfold fuel;omega) (by omega)
 ·simp only [oP]
  rw [if_pos (bB hk),aN hk]
  simp [bF (show k<9223372036854775807 by omega)]
 ·simp only [oP]
  rw [if_neg (by rw [aP];simp)]
structure M.Machine.ok (x:M.Machine):Prop where
 Script:(x.Script.length≤maxLen ∧ ∀y∈x.Script,M.Instr.ok y)
 Pc:inI x.Pc
 Regs:okI x.Regs
 Steps:inI x.Steps
def M.Machine.sh:List Shp:=[.sl M.Instr.sh,.int .i64,.sl [.int .i64],.int .i64,.bool,.bool]
theorem M.Machine.cO (d:List D) (h:nR M.Machine.sh d) : ∃x,d=M.Machine.en x∧M.Machine.ok x:=by
 simp only [M.Machine.sh,nR,Has] at h
 obtain ⟨_,_,rfl,⟨_,rfl,w1,q1⟩,_,_,rfl,⟨a2,rfl,w2⟩,_,_,rfl,⟨_,rfl,w3,q3⟩,_,_,rfl,⟨a4,rfl,w4⟩,_,_,rfl,⟨a5,rfl⟩,_,_,rfl,⟨a6,rfl⟩,rfl⟩:=h
 obtain ⟨a1,rfl,e1⟩:=bE M.Instr.cO q1
 obtain ⟨a3,rfl,e3⟩:=bE aRX q3
 exact ⟨⟨a1,a2,a3,a4,a5,a6⟩,rfl,⟨⟨by simpa using w1,e1⟩,wf_i64 w2,⟨by simpa using w3,e3⟩,wf_i64 w4⟩⟩
def M.Machine.sz (x:M.Machine):Nat:=(x.Script.length+aF M.Instr.sz x.Script)+(x.Regs.length)
theorem M.Machine.mN (x:M.Machine) (hx:M.Machine.ok x):Sz (xJ x) (M.Machine.sz x):=by
 intro l a b
 unfold xJ M.Machine.sz
 exact (Sz.vE (M.aDP.mN _ hx.Script) (Sz.call (M.aMG.mN _ hx.Regs))) l a b
theorem M.Machine.lJ (x:M.Machine) (hx:M.Machine.ok x) (hs:M.Machine.sz x≤1048576):wF x=some x:=by
 unfold M.Machine.sz at hs
 unfold wF
 rw [M.aDP.lJ _ hx.Script (by omega),qA,M.aMG.lJ _ hx.Regs (by omega),qA]
theorem M.Machine.lI (x:M.Machine) (hx:M.Machine.ok x):vQ x x=some true:=by
 simp [vQ,M.aDP.lI _ hx.Script,M.aMG.lI _ hx.Regs]
structure M.bH.ok (x:M.bH):Prop where
 Id:inI x.Id
 Site:x.Site.size≤maxLen
 Top:x.Top.size≤maxLen
 Version:inI x.Version
 aK:(x.aK.length≤maxLen ∧ ∀y∈x.aK,M.aK.ok y)
 Machine:M.Machine.ok x.Machine
def M.bH.sh:List Shp:=[.int .i64,.str,.str,.int .i64,.sl M.aK.sh,.sl M.Instr.sh,.int .i64,.sl [.int .i64],.int .i64,.bool,.bool]
theorem M.bH.cO (d:List D) (h:nR M.bH.sh d) : ∃x,d=M.bH.en x∧M.bH.ok x:=by
 simp only [M.bH.sh,nR,Has] at h
 obtain ⟨_,_,rfl,⟨a1,rfl,w1⟩,_,_,rfl,⟨a2,rfl,w2⟩,_,_,rfl,⟨a3,rfl,w3⟩,_,_,rfl,⟨a4,rfl,w4⟩,_,_,rfl,⟨_,rfl,w5,q5⟩,_,_,rfl,⟨_,rfl,w6,q6⟩,_,_,rfl,⟨a7,rfl,w7⟩,_,_,rfl,⟨_,rfl,w8,q8⟩,_,_,rfl,⟨a9,rfl,w9⟩,_,_,rfl,⟨a10,rfl⟩,_,_,rfl,⟨a11,rfl⟩,rfl⟩:=h
 obtain ⟨a5,rfl,e5⟩:=bE M.aK.cO q5
 obtain ⟨a6,rfl,e6⟩:=bE M.Instr.cO q6
 obtain ⟨a8,rfl,e8⟩:=bE aRX q8
 exact ⟨⟨a1,a2,a3,a4,a5,⟨a6,a7,a8,a9,a10,a11⟩⟩,rfl,⟨wf_i64 w1,w2,w3,wf_i64 w4,⟨by simpa using w5,e5⟩,⟨⟨by simpa using w6,e6⟩,wf_i64 w7,⟨by simpa using w8,e8⟩,wf_i64 w9⟩⟩⟩
def M.bH.sz (x:M.bH):Nat:=x.Site.size+(x.Top.size+((x.aK.length+aF M.aK.sz x.aK)+(M.Machine.sz x.Machine)))
theorem M.bH.mN (x:M.bH) (hx:M.bH.ok x):Sz (aB4 x) (M.bH.sz x):=by
 intro l a b
 unfold aB4 M.bH.sz
 exact (Sz.aDG hx.Site (Sz.aDG hx.Top (Sz.vE (M.aD4.mN _ hx.aK) (Sz.call (M.Machine.mN _ hx.Machine))))) l a b
theorem M.bH.lJ (x:M.bH) (hx:M.bH.ok x) (hs:M.bH.sz x≤1048576):aBd x=some x:=by
 unfold M.bH.sz at hs
 unfold aBd
 rw [M.aD4.lJ _ hx.aK (by omega),qA,M.Machine.lJ _ hx.Machine (by omega),qA]
theorem M.bH.lI (x:M.bH) (hx:M.bH.ok x):aBs x x=some true:=by
 simp [aBs,M.aD4.lI _ hx.aK,M.Machine.lI _ hx.Machine]
theorem M.aJs.mN (xs:List M.bH) (hx:(xs.length≤maxLen ∧ ∀y∈xs,M.bH.ok y)):Sz (aAm xs) ((xs.length+aF M.bH.sz xs)):=by
 intro l a b
 unfold aAm
 exact (Sz.aGN hx.1 (fun x h=>M.bH.mN x (hx.2 x h)) (fun _ _ _=>rfl)) l a b
theorem M.aJs.lJ (xs:List M.bH) (hx:(xs.length≤maxLen ∧ ∀y∈xs,M.bH.ok y)) (hs:(xs.length+aF M.bH.sz xs)≤1048576):aAn xs=some xs:=by
 have hm:=le_max hx.1
 unfold aAn
 rw [aB5 (by omega) (by omega),qA]
 refine aBW hx.1 (fun n k r hk hr => ?_) (fun n r => ?_) fuel 0 _ (by unfold fuel;omega) (by omega) (by simp) (by simp)
 ·simp only [nJ]
  rw [if_pos (bB hk),aN hk,qA,M.bH.lJ _ (hx.2 _ (qG hk)) (by have:=cF (f:=M.bH.sz) (qG hk);omega),qA,aN (by omega),qA,bF (by omega),qH]
 ·simp only [nJ]
  rw [if_neg (by rw [aP];simp)]
theorem M.aJs.lI (xs:List M.bH) (hx:(xs.length≤maxLen ∧ ∀y∈xs,M.bH.ok y)):aAr xs xs=some true:=by
 have hm:=le_max hx.1
 unfold aAr
 rw [if_neg (by simp)]
 refine aBP hx.1 (fun n k hk => ?_) (fun n => ?_) fuel 0 (by unfold fuel;omega) (by omega)
 ·simp only [nL]
  rw [if_pos (bB hk),aN hk]
  simp [bF (show k<9223372036854775807 by omega),M.bH.lI _ (hx.2 _ (qG hk))]
 ·simp only [nL]
  rw [if_neg (by rw [aP];simp)]
structure M.cJ.ok (x:M.cJ):Prop where
 Name:x.Name.size≤maxLen
 bH:inI x.bH
def M.cJ.sh:List Shp:=[.str,.int .i64,.bool,.bool]
theorem M.cJ.cO (d:List D) (h:nR M.cJ.sh d) : ∃x,d=M.cJ.en x∧M.cJ.ok x:=by
 simp only [M.cJ.sh,nR,Has] at h
 obtain ⟨_,_,rfl,⟨a1,rfl,w1⟩,_,_,rfl,⟨a2,rfl,w2⟩,_,_,rfl,⟨a3,rfl⟩,_,_,rfl,⟨a4,rfl⟩,rfl⟩:=h
 exact ⟨⟨a1,a2,a3,a4⟩,rfl,⟨w1,wf_i64 w2⟩⟩
def M.cJ.sz (x:M.cJ):Nat:=x.Name.size
theorem M.cJ.mN (x:M.cJ) (hx:M.cJ.ok x):Sz (aCG x) (M.cJ.sz x):=by
 intro l a b
 unfold aCG M.cJ.sz
 exact (Sz.str hx.Name) l a b
theorem M.cJ.lJ (x:M.cJ) (hx:M.cJ.ok x) (hs:M.cJ.sz x≤1048576):aBq x=some x:=by
 unfold M.cJ.sz at hs
 unfold aBq
 rfl
theorem M.cJ.lI (x:M.cJ) (hx:M.cJ.ok x):aCA x x=some true:=by
 simp [aCA]
theorem M.aJx.mN (xs:List M.cJ) (hx:(xs.length≤maxLen ∧ ∀y∈xs,M.cJ.ok y)):Sz (aAh xs) ((xs.length+aF M.cJ.sz xs)):=by
 intro l a b
 unfold aAh
 exact (Sz.aGN hx.1 (fun x h=>M.cJ.mN x (hx.2 x h)) (fun _ _ _=>rfl)) l a b
theorem M.aJx.lJ (xs:List M.cJ) (hx:(xs.length≤maxLen ∧ ∀y∈xs,M.cJ.ok y)) (hs:(xs.length+aF M.cJ.sz xs)≤1048576):aAg xs=some xs:=by
 have hm:=le_max hx.1
 unfold aAg
 rw [aB5 (by omega) (by omega),qA]
 refine aBW hx.1 (fun n k r hk hr => ?_) (fun n r => ?_) fuel 0 _ (by unfold fuel;omega) (by omega) (by simp) (by simp)
 ·simp only [nA]
  rw [if_pos (bB hk),aN hk,qA,M.cJ.lJ _ (hx.2 _ (qG hk)) (by have:=cF (f:=M.cJ.sz) (qG hk);omega),qA,aN (by omega),qA,bF (by omega),qH]
 ·simp only [nA]
  rw [if_neg (by rw [aP];simp)]
theorem M.aJx.lI (xs:List M.cJ) (hx:(xs.length≤maxLen ∧ ∀y∈xs,M.cJ.ok y)):aAd xs xs=some true:=by
 have hm:=le_max hx.1
 unfold aAd
 rw [if_neg (by simp)]
 refine aBP hx.1 (fun n k hk => ?_) (fun n => ?_) fuel 0 (by unfold fuel;omega) (by omega)
 ·simp only [nN]
  rw [if_pos (bB hk),aN hk]
  simp [bF (show k<9223372036854775807 by omega),M.cJ.lI _ (hx.2 _ (qG hk))]
 ·simp only [nN]
  rw [if_neg (by rw [aP];simp)]
structure M.aQ.ok (x:M.aQ):Prop where
 Locks:(x.Locks.length≤maxLen ∧ ∀y∈x.Locks,M.cJ.ok y)
def M.aQ.sh:List Shp:=[.sl M.cJ.sh]
theorem M.aQ.cO (d:List D) (h:nR M.aQ.sh d) : ∃x,d=M.aQ.en x∧M.aQ.ok x:=by
 simp only [M.aQ.sh,nR,Has] at h
 obtain ⟨_,_,rfl,⟨_,rfl,w1,q1⟩,rfl⟩:=h
 obtain ⟨a1,rfl,e1⟩:=bE M.cJ.cO q1
 exact ⟨⟨a1⟩,rfl,⟨⟨by simpa using w1,e1⟩⟩⟩
def M.aQ.sz (x:M.aQ):Nat:=(x.Locks.length+aF M.cJ.sz x.Locks)
theorem M.aQ.mN (x:M.aQ) (hx:M.aQ.ok x):Sz (pS x) (M.aQ.sz x):=by
 intro l a b
 unfold pS M.aQ.sz
 exact (Sz.call (M.aJx.mN _ hx.Locks)) l a b
theorem M.aQ.lJ (x:M.aQ) (hx:M.aQ.ok x) (hs:M.aQ.sz x≤1048576):pT x=some x:=by
 unfold M.aQ.sz at hs
 unfold pT
 rw [M.aJx.lJ _ hx.Locks (by omega),qA]
theorem M.aQ.lI (x:M.aQ) (hx:M.aQ.ok x):pY x x=some true:=by
 simp [pY,M.aJx.lI _ hx.Locks]
structure M.eU.ok (x:M.eU):Prop where
 To:inI x.To
 From:inI x.From
 N:inI x.N
def M.eU.sh:List Shp:=[.int .i64,.int .i64,.int .i64]
theorem M.eU.cO (d:List D) (h:nR M.eU.sh d) : ∃x,d=M.eU.en x∧M.eU.ok x:=by
 simp only [M.eU.sh,nR,Has] at h
 obtain ⟨_,_,rfl,⟨a1,rfl,w1⟩,_,_,rfl,⟨a2,rfl,w2⟩,_,_,rfl,⟨a3,rfl,w3⟩,rfl⟩:=h
 exact ⟨⟨a1,a2,a3⟩,rfl,⟨wf_i64 w1,wf_i64 w2,wf_i64 w3⟩⟩
theorem M.eU.lJ (x:M.eU) (hx:M.eU.ok x):aB0 x=some x:=by
 unfold aB0
 rfl
theorem M.eU.lI (x:M.eU) (hx:M.eU.ok x):aCD x x=some true:=by
 simp [aCD]
theorem M.aKP.mN (xs:List M.eU) (hx:(xs.length≤maxLen ∧ ∀y∈xs,M.eU.ok y)):Sz (aAt xs) (xs.length):=by
 intro l a b
 unfold aAt
 exact (Sz.str hx.1) l a b
theorem M.aKP.lJ (xs:List M.eU) (hx:(xs.length≤maxLen ∧ ∀y∈xs,M.eU.ok y)) (hs:xs.length≤1048576):aAY xs=some xs:=by
 have hm:=le_max hx.1
 unfold aAY
 rw [aB5 (by omega) (by omega),qA]
 refine aBW hx.1 (fun n k r hk hr => ?_) (fun n r => ?_) fuel 0 _ (by unfold fuel;omega) (by omega) (by simp) (by simp)
 ·simp only [nC]
  rw [if_pos (bB hk),aN hk,qA,M.eU.lJ _ (hx.2 _ (qG hk)),qA,aN (by omega),qA,bF (by omega),qH]
 ·simp only [nC]
  rw [if_neg (by rw [aP];simp)]
theorem M.aKP.lI (xs:List M.eU) (hx:(xs.length≤maxLen ∧ ∀y∈xs,M.eU.ok y)):aAz xs xs=some true:=by
 have hm:=le_max hx.1
 unfold aAz
 rw [if_neg (by simp)]
 refine aBP hx.1 (fun n k hk => ?_) (fun n => ?_) fuel 0 (by unfold fuel;omega) (by omega)
 ·simp only [nQ]
  rw [if_pos (bB hk),aN hk]
  simp [bF (show k<9223372036854775807 by omega),M.eU.lI _ (hx.2 _ (qG hk))]
 ·simp only [nQ]
  rw [if_neg (by rw [aP];simp)]
structure M.Channel.ok (x:M.Channel):Prop where
 Mails:(x.Mails.length≤maxLen ∧ ∀y∈x.Mails,M.eU.ok y)
def M.Channel.sh:List Shp:=[.sl M.eU.sh]
theorem M.Channel.cO (d:List D) (h:nR M.Channel.sh d) : ∃x,d=M.Channel.en x∧M.Channel.ok x:=by
 simp only [M.Channel.sh,nR,Has] at h
 obtain ⟨_,_,rfl,⟨_,rfl,w1,q1⟩,rfl⟩:=h
 obtain ⟨a1,rfl,e1⟩:=bE M.eU.cO q1
 exact ⟨⟨a1⟩,rfl,⟨⟨by simpa using w1,e1⟩⟩⟩
def M.Channel.sz (x:M.Channel):Nat:=x.Mails.length
theorem M.Channel.mN (x:M.Channel) (hx:M.Channel.ok x):Sz (xE x) (M.Channel.sz x):=by
 intro l a b
 unfold xE M.Channel.sz
 exact (Sz.call (M.aKP.mN _ hx.Mails)) l a b
theorem M.Channel.lJ (x:M.Channel) (hx:M.Channel.ok x) (hs:M.Channel.sz x≤1048576):wA x=some x:=by
 unfold M.Channel.sz at hs
 unfold wA
 rw [M.aKP.lJ _ hx.Mails (by omega),qA]
theorem M.Channel.lI (x:M.Channel) (hx:M.Channel.ok x):wP x x=some true:=by
 simp [wP,M.aKP.lI _ hx.Mails]
theorem M.aBb.mN (xs:List ByteArray) (hx:okS xs):Sz (vN xs) ((xs.length+aF ByteArray.size xs)):=by
 intro l a b
 unfold vN
 exact (Sz.strs hx (fun _ _ _=>rfl)) l a b
theorem M.aBb.lJ (xs:List ByteArray) (hx:okS xs) (hs:(xs.length+aF ByteArray.size xs)≤1048576):xH xs=some xs:=by
 have hm:=le_max hx.1
 unfold xH
 rw [aB5 (by omega) (by omega),qA]
 refine aBW hx.1 (fun n k r hk hr => ?_) (fun n r => ?_) fuel 0 _ (by unfold fuel;omega) (by omega) (by simp) (by simp)
 ·simp only [kI]
  rw [if_pos (bB hk),aN hk,qA,aN (by omega),qA,bF (by omega),qH]
 ·simp only [kI]
  rw [if_neg (by rw [aP];simp)]
theorem M.aBb.lI (xs:List ByteArray) (hx:okS xs):xA xs xs=some true:=by
 have hm:=le_max hx.1
 unfold xA
 rw [if_neg (by simp)]
 refine aBP hx.1 (fun n k hk => ?_) (fun n => ?_) fuel 0 (by unfold fuel;omega) (by omega)
 ·simp only [kK]
  rw [if_pos (bB hk),aN hk]
  simp [bF (show k<9223372036854775807 by omega)]
 ·simp only [kK]
  rw [if_neg (by rw [aP];simp)]
structure M.Site.ok (x:M.Site):Prop where
 Name:x.Name.size≤maxLen
 Version:inI x.Version
 Files:okS x.Files
def M.Site.sh:List Shp:=[.str,.int .i64,.sl [.str],.bool]
theorem M.Site.cO (d:List D) (h:nR M.Site.sh d) : ∃x,d=M.Site.en x∧M.Site.ok x:=by
 simp only [M.Site.sh,nR,Has] at h
 obtain ⟨_,_,rfl,⟨a1,rfl,w1⟩,_,_,rfl,⟨a2,rfl,w2⟩,_,_,rfl,⟨_,rfl,w3,q3⟩,_,_,rfl,⟨a4,rfl⟩,rfl⟩:=h
 obtain ⟨a3,rfl,e3⟩:=bE aRN q3
 exact ⟨⟨a1,a2,a3,a4⟩,rfl,⟨w1,wf_i64 w2,⟨by simpa using w3,e3⟩⟩⟩
def M.Site.sz (x:M.Site):Nat:=x.Name.size+((x.Files.length+aF ByteArray.size x.Files))
theorem M.Site.mN (x:M.Site) (hx:M.Site.ok x):Sz (aBh x) (M.Site.sz x):=by
 intro l a b
 unfold aBh M.Site.sz
 exact (Sz.aDG hx.Name (Sz.call (M.aBb.mN _ hx.Files))) l a b
theorem M.Site.lJ (x:M.Site) (hx:M.Site.ok x) (hs:M.Site.sz x≤1048576):aBw x=some x:=by
 unfold M.Site.sz at hs
 unfold aBw
 rw [M.aBb.lJ _ hx.Files (by omega),qA]
theorem M.Site.lI (x:M.Site) (hx:M.Site.ok x):aBc x x=some true:=by
 simp [aBc,M.aBb.lI _ hx.Files]
theorem M.aJp.mN (xs:List M.Site) (hx:(xs.length≤maxLen ∧ ∀y∈xs,M.Site.ok y)):Sz (aBB xs) ((xs.length+aF M.Site.sz xs)):=by
 intro l a b
 unfold aBB
 exact (Sz.aGN hx.1 (fun x h=>M.Site.mN x (hx.2 x h)) (fun _ _ _=>rfl)) l a b
theorem M.aJp.lJ (xs:List M.Site) (hx:(xs.length≤maxLen ∧ ∀y∈xs,M.Site.ok y)) (hs:(xs.length+aF M.Site.sz xs)≤1048576):aAu xs=some xs:=by
 have hm:=le_max hx.1
 unfold aAu
 rw [aB5 (by omega) (by omega),qA]
 refine aBW hx.1 (fun n k r hk hr => ?_) (fun n r => ?_) fuel 0 _ (by unfold fuel;omega) (by omega) (by simp) (by simp)
 ·simp only [nK]
  rw [if_pos (bB hk),aN hk,qA,M.Site.lJ _ (hx.2 _ (qG hk)) (by have:=cF (f:=M.Site.sz) (qG hk);omega),qA,aN (by omega),qA,bF (by omega),qH]
 ·simp only [nK]
  rw [if_neg (by rw [aP];simp)]
theorem M.aJp.lI (xs:List M.Site) (hx:(xs.length≤maxLen ∧ ∀y∈xs,M.Site.ok y)):aBD xs xs=some true:=by
 have hm:=le_max hx.1
 unfold aBD
 rw [if_neg (by simp)]
 refine aBP hx.1 (fun n k hk => ?_) (fun n => ?_) fuel 0 (by unfold fuel;omega) (by omega)
 ·simp only [nH]
  rw [if_pos (bB hk),aN hk]
  simp [bF (show k<9223372036854775807 by omega),M.Site.lI _ (hx.2 _ (qG hk))]
 ·simp only [nH]
  rw [if_neg (by rw [aP];simp)]
structure M.aM.ok (x:M.aM):Prop where
 Device:inI x.Device
 Seq:inI x.Seq
def M.aM.sh:List Shp:=[.int .i64,.int .i64]
theorem M.aM.cO (d:List D) (h:nR M.aM.sh d) : ∃x,d=M.aM.en x∧M.aM.ok x:=by
 simp only [M.aM.sh,nR,Has] at h
 obtain ⟨_,_,rfl,⟨a1,rfl,w1⟩,_,_,rfl,⟨a2,rfl,w2⟩,rfl⟩:=h
 exact ⟨⟨a1,a2⟩,rfl,⟨wf_i64 w1,wf_i64 w2⟩⟩
theorem M.aM.lJ (x:M.aM) (hx:M.aM.ok x):xB x=some x:=by
 unfold xB
 rfl
theorem M.aM.lI (x:M.aM) (hx:M.aM.ok x):wB x x=some true:=by
 simp [wB]
theorem M.aC1.mN (xs:List M.aM) (hx:(xs.length≤maxLen ∧ ∀y∈xs,M.aM.ok y)):Sz (tM xs) (xs.length):=by
 intro l a b
 unfold tM
 exact (Sz.str hx.1) l a b
theorem M.aC1.lJ (xs:List M.aM) (hx:(xs.length≤maxLen ∧ ∀y∈xs,M.aM.ok y)) (hs:xs.length≤1048576):uA xs=some xs:=by
 have hm:=le_max hx.1
 unfold uA
 rw [aB5 (by omega) (by omega),qA]
 refine aBW hx.1 (fun n k r hk hr => ?_) (fun n r => ?_) fuel 0 _ (by unfold fuel;omega) (by omega) (by simp) (by simp)
 ·simp only [jW]
  rw [if_pos (bB hk),aN hk,qA,M.aM.lJ _ (hx.2 _ (qG hk)),qA,aN (by omega),qA,bF (by omega),qH]
 ·simp only [jW]
  rw [if_neg (by rw [aP];simp)]
theorem M.aC1.lI (xs:List M.aM) (hx:(xs.length≤maxLen ∧ ∀y∈xs,M.aM.ok y)):sV xs xs=some true:=by
 have hm:=le_max hx.1
 unfold sV
 rw [if_neg (by simp)]
 refine aBP hx.1 (fun n k hk => ?_) (fun n => ?_) fuel 0 (by unfold fuel;omega) (by omega)
 ·simp only [jV]
  rw [if_pos (bB hk),aN hk]
  simp [bF (show k<9223372036854775807 by omega),M.aM.lI _ (hx.2 _ (qG hk))]
 ·simp only [jV]
  rw [if_neg (by rw [aP];simp)]
structure M.Server.ok (x:M.Server):Prop where
 aH:M.aH.ok x.aH
 aM:(x.aM.length≤maxLen ∧ ∀y∈x.aM,M.aM.ok y)
 Changes:(x.Changes.length≤maxLen ∧ ∀y∈x.Changes,M.aZ.ok y)
def M.Server.sh:List Shp:=[.str,.sl M.Item.sh,.int .i64,.sl M.aM.sh,.sl M.aZ.sh]
theorem M.Server.cO (d:List D) (h:nR M.Server.sh d) : ∃x,d=M.Server.en x∧M.Server.ok x:=by
 simp only [M.Server.sh,nR,Has] at h
 obtain ⟨_,_,rfl,⟨a1,rfl,w1⟩,_,_,rfl,⟨_,rfl,w2,q2⟩,_,_,rfl,⟨a3,rfl,w3⟩,_,_,rfl,⟨_,rfl,w4,q4⟩,_,_,rfl,⟨_,rfl,w5,q5⟩,rfl⟩:=h
 obtain ⟨a2,rfl,e2⟩:=bE M.Item.cO q2
 obtain ⟨a4,rfl,e4⟩:=bE M.aM.cO q4
 obtain ⟨a5,rfl,e5⟩:=bE M.aZ.cO q5
 exact ⟨⟨⟨a1,a2,a3⟩,a4,a5⟩,rfl,⟨⟨w1,⟨by simpa using w2,e2⟩,wf_i64 w3⟩,⟨by simpa using w4,e4⟩,⟨by simpa using w5,e5⟩⟩⟩
def M.Server.sz (x:M.Server):Nat:=M.aH.sz x.aH+(x.aM.length+((x.Changes.length+aF M.aZ.sz x.Changes)))
theorem M.Server.mN (x:M.Server) (hx:M.Server.ok x):Sz (yJ x) (M.Server.sz x):=by
 intro l a b
 unfold yJ M.Server.sz
 exact (Sz.vE (M.aH.mN _ hx.aH) (Sz.vE (M.aC1.mN _ hx.aM) (Sz.call (M.aDJ.mN _ hx.Changes)))) l a b
theorem M.Server.lJ (x:M.Server) (hx:M.Server.ok x) (hs:M.Server.sz x≤1048576):zW x=some x:=by
 unfold M.Server.sz at hs
 unfold zW
 rw [M.aH.lJ _ hx.aH (by omega),qA,M.aC1.lJ _ hx.aM (by omega),qA,M.aDJ.lJ _ hx.Changes (by omega),qA]
theorem M.Server.lI (x:M.Server) (hx:M.Server.ok x):yU x x=some true:=by
 simp [yU,M.aH.lI _ hx.aH,M.aC1.lI _ hx.aM,M.aDJ.lI _ hx.Changes]
theorem M.aD8.mN (xs:List M.Server) (hx:(xs.length≤maxLen ∧ ∀y∈xs,M.Server.ok y)):Sz (xO xs) ((xs.length+aF M.Server.sz xs)):=by
 intro l a b
 unfold xO
 exact (Sz.aGN hx.1 (fun x h=>M.Server.mN x (hx.2 x h)) (fun _ _ _=>rfl)) l a b
theorem M.aD8.lJ (xs:List M.Server) (hx:(xs.length≤maxLen ∧ ∀y∈xs,M.Server.ok y)) (hs:(xs.length+aF M.Server.sz xs)≤1048576):wK xs=some xs:=by
 have hm:=le_max hx.1
 unfold wK
 rw [aB5 (by omega) (by omega),qA]
 refine aBW hx.1 (fun n k r hk hr => ?_) (fun n r => ?_) fuel 0 _ (by unfold fuel;omega) (by omega) (by simp) (by simp)
 ·simp only [kO]
  rw [if_pos (bB hk),aN hk,qA,M.Server.lJ _ (hx.2 _ (qG hk)) (by have:=cF (f:=M.Server.sz) (qG hk);omega),qA,aN (by omega),qA,bF (by omega),qH]
 ·simp only [kO]
  rw [if_neg (by rw [aP];simp)]
theorem M.aD8.lI (xs:List M.Server) (hx:(xs.length≤maxLen ∧ ∀y∈xs,M.Server.ok y)):wY xs xs=some true:=by
 have hm:=le_max hx.1
 unfold wY
 rw [if_neg (by simp)]
 refine aBP hx.1 (fun n k hk => ?_) (fun n => ?_) fuel 0 (by unfold fuel;omega) (by omega)
 ·simp only [kJ]
  rw [if_pos (bB hk),aN hk]
  simp [bF (show k<9223372036854775807 by omega),M.Server.lI _ (hx.2 _ (qG hk))]
 ·simp only [kJ]
  rw [if_neg (by rw [aP];simp)]
structure M.World.ok (x:M.World):Prop where
 Now:inI x.Now
 Device:inI x.Device
 aA:M.aA.ok x.aA
 Pages:(x.Pages.length≤maxLen ∧ ∀y∈x.Pages,M.bH.ok y)
 NextPage:inI x.NextPage
 Locks:M.aQ.ok x.Locks
 Channel:M.Channel.ok x.Channel
 Sites:(x.Sites.length≤maxLen ∧ ∀y∈x.Sites,M.Site.ok y)
 Servers:(x.Servers.length≤maxLen ∧ ∀y∈x.Servers,M.Server.ok y)
def M.World.sh:List Shp:=[.int .i64,.bool,.int .i64,.sl M.aC.sh,.sl M.bH.sh,.int .i64,.sl M.cJ.sh,.sl M.eU.sh,.sl M.Site.sh,.sl M.Server.sh]
theorem M.World.cO (d:List D) (h:nR M.World.sh d) : ∃x,d=M.World.en x∧M.World.ok x:=by
 simp only [M.World.sh,nR,Has] at h
 obtain ⟨_,_,rfl,⟨a1,rfl,w1⟩,_,_,rfl,⟨a2,rfl⟩,_,_,rfl,⟨a3,rfl,w3⟩,_,_,rfl,⟨_,rfl,w4,q4⟩,_,_,rfl,⟨_,rfl,w5,q5⟩,_,_,rfl,⟨a6,rfl,w6⟩,_,_,rfl,⟨_,rfl,w7,q7⟩,_,_,rfl,⟨_,rfl,w8,q8⟩,_,_,rfl,⟨_,rfl,w9,q9⟩,_,_,rfl,⟨_,rfl,w10,q10⟩,rfl⟩:=h
 obtain ⟨a4,rfl,e4⟩:=bE M.aC.cO q4
 obtain ⟨a5,rfl,e5⟩:=bE M.bH.cO q5
 obtain ⟨a7,rfl,e7⟩:=bE M.cJ.cO q7
 obtain ⟨a8,rfl,e8⟩:=bE M.eU.cO q8
 obtain ⟨a9,rfl,e9⟩:=bE M.Site.cO q9
 obtain ⟨a10,rfl,e10⟩:=bE M.Server.cO q10
 exact ⟨⟨a1,a2,a3,⟨a4⟩,a5,a6,⟨a7⟩,⟨a8⟩,a9,a10⟩,rfl,⟨wf_i64 w1,wf_i64 w3,⟨⟨by simpa using w4,e4⟩⟩,⟨by simpa using w5,e5⟩,wf_i64 w6,⟨⟨by simpa using w7,e7⟩⟩,⟨⟨by simpa using w8,e8⟩⟩,⟨by simpa using w9,e9⟩,⟨by simpa using w10,e10⟩⟩⟩
def M.World.sz (x:M.World):Nat:=M.aA.sz x.aA+((x.Pages.length+aF M.bH.sz x.Pages)+(M.aQ.sz x.Locks+(M.Channel.sz x.Channel+((x.Sites.length+aF M.Site.sz x.Sites)+((x.Servers.length+aF M.Server.sz x.Servers))))))
theorem M.World.mN (x:M.World) (hx:M.World.ok x):Sz (aAo x) (M.World.sz x):=by
 intro l a b
 unfold aAo M.World.sz
 exact (Sz.vE (M.aA.mN _ hx.aA) (Sz.vE (M.aJs.mN _ hx.Pages) (Sz.vE (M.aQ.mN _ hx.Locks) (Sz.vE (M.Channel.mN _ hx.Channel) (Sz.vE (M.aJp.mN _ hx.Sites) (Sz.call (M.aD8.mN _ hx.Servers))))))) l a b
theorem M.World.lJ (x:M.World) (hx:M.World.ok x) (hs:M.World.sz x≤1048576):mZ x=some x:=by
 unfold M.World.sz at hs
 unfold mZ
 rw [M.aA.lJ _ hx.aA (by omega),qA,M.aJs.lJ _ hx.Pages (by omega),qA,M.aQ.lJ _ hx.Locks (by omega),qA,M.Channel.lJ _ hx.Channel (by omega),qA,M.aJp.lJ _ hx.Sites (by omega),qA,M.aD8.lJ _ hx.Servers (by omega),qA]
theorem M.World.lI (x:M.World) (hx:M.World.ok x):mX x x=some true:=by
 simp [mX,M.aA.lI _ hx.aA,M.aJs.lI _ hx.Pages,M.aQ.lI _ hx.Locks,M.Channel.lI _ hx.Channel,M.aJp.lI _ hx.Sites,M.aD8.lI _ hx.Servers]
end Go.Proofs.YtimblbmbfdopgaaGreat.gen
