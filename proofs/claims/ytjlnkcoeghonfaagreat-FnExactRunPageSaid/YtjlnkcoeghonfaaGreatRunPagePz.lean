/-
  Helper text. No conditions.
-/
import Derived.Test.YtjlnkcoeghonfaaGreatRunPageMod
set_option linter.all false
namespace Go.Proofs.YtjlnkcoeghonfaaGreat.gen
open Go Go.Sh
structure M.aJk.ok (x:M.aJk):Prop where
 aJr:x.aJr.size<=maxLen
 aKI:inI x.aKI
 aKN:inI x.aKN
 aKT:inI x.aKT
def M.aJk.sh:List Shp:=[.str,.int .i64,.int .i64,.int .i64]
theorem M.aJk.dK(d:List D)(h:sP M.aJk.sh d):∃x,d=M.aJk.en x/\M.aJk.ok x:=by simp only[M.aJk.sh,sP,Has]at h;obtain⟨_,_,rfl,⟨j,rfl,U⟩,_,_,rfl,⟨C,rfl,w2⟩,_,_,rfl,⟨I,rfl,w3⟩,_,_,rfl,⟨J,rfl,w4⟩,rfl⟩:=h;exact⟨⟨j,C,I,J⟩,rfl,⟨U,wf_i64 w2,wf_i64 w3,wf_i64 w4⟩⟩
def M.aJk.sz(x:M.aJk):Nat:=x.aJr.size
theorem M.aJk.rM(x:M.aJk)(j:M.aJk.ok x):Sz (pB x) (M.aJk.sz x):=by intro l a b;unfold pB M.aJk.sz;exact(Sz.str j.aJr) l a b
theorem M.aJk.pO(x:M.aJk)(C:M.aJk.ok x)(j:M.aJk.sz x<=1048576):pJ x=some x:=by unfold M.aJk.sz at j;unfold pJ;rfl
theorem M.aJk.pL(x:M.aJk)(j:M.aJk.ok x):pK x x=some true:=by simp[pK]
theorem M.Hl.rM(xs:List Int)(j:okB xs):Sz (Au xs) (xs.length):=by intro l a b;unfold Au;exact(Sz.str j.1) l a b
theorem M.Hl.pO(xs:List Int)(j:okB xs)(J:xs.length<=1048576):AD xs=some xs:=by have C:=le_max j.1;unfold AD;rw[TR jD jD,qA];refine Ro j.1 (λn k r hk I=> ?_) (λn r=> ?_) fuel 0 _ jI jD jF jF;(simp only[sE];rw[if_pos (bE hk),aH hk,qA,aH jD,qA,bG jD,qH]);·simp only[sE];rw[if_neg jK]
theorem M.Hl.pL(xs:List Int)(j:okB xs):AH xs xs=some true:=by have C:=le_max j.1;unfold AH;rw[if_neg jF];refine QR j.1 (λn k hk=> ?_) (λn=> ?_) fuel 0 jI jD;(simp only[sC];rw[if_pos (bE hk),aH hk];simp[bG (show k<9223372036854775807 by omega)]);·simp only[sC];rw[if_neg jK]
structure M.aJo.ok (x:M.aJo):Prop where
 aKc:inI x.aKc
 aKS:inI x.aKS
 aJl:inI x.aJl
 aKa:okB x.aKa
def M.aJo.sh:List Shp:=[.int .i64,.int .i64,.int .i64,.sl [.int .u8],.bool]
theorem M.aJo.dK(d:List D)(h:sP M.aJo.sh d):∃x,d=M.aJo.en x/\M.aJo.ok x:=by simp only[M.aJo.sh,sP,Has]at h;obtain⟨_,_,rfl,⟨j,rfl,w1⟩,_,_,rfl,⟨C,rfl,w2⟩,_,_,rfl,⟨I,rfl,w3⟩,_,_,rfl,⟨_,rfl,w4,q4⟩,_,_,rfl,⟨U,rfl⟩,rfl⟩:=h;obtain⟨J,rfl,e4⟩:=bH Yj q4;exact⟨⟨j,C,I,J,U⟩,rfl,⟨wf_i64 w1,wf_i64 w2,wf_i64 w3,⟨by simpa using w4,e4⟩⟩⟩
def M.aJo.sz(x:M.aJo):Nat:=x.aKa.length
theorem M.aJo.rM(x:M.aJo)(j:M.aJo.ok x):Sz (xY x) (M.aJo.sz x):=by intro l a b;unfold xY M.aJo.sz;exact(Sz.call (M.Hl.rM _ j.aKa)) l a b
theorem M.aJo.pO(x:M.aJo)(C:M.aJo.ok x)(j:M.aJo.sz x<=1048576):xK x=some x:=by unfold M.aJo.sz at j;unfold xK;rw[M.Hl.pO _ C.aKa jD,qA]
theorem M.aJo.pL(x:M.aJo)(j:M.aJo.ok x):yD x x=some true:=by simp[yD,M.Hl.pL _ j.aKa]
structure M.aJx.ok (x:M.aJx):Prop where
 aJr:x.aJr.size<=maxLen
 aKP:x.aKP.size<=maxLen
 aJo:M.aJo.ok x.aJo
def M.aJx.sh:List Shp:=[.str,.str,.int .i64,.int .i64,.int .i64,.sl [.int .u8],.bool]
theorem M.aJx.dK(d:List D)(h:sP M.aJx.sh d):∃x,d=M.aJx.en x/\M.aJx.ok x:=by simp only[M.aJx.sh,sP,Has]at h;obtain⟨_,_,rfl,⟨j,rfl,w1⟩,_,_,rfl,⟨C,rfl,w2⟩,_,_,rfl,⟨I,rfl,w3⟩,_,_,rfl,⟨J,rfl,w4⟩,_,_,rfl,⟨U,rfl,w5⟩,_,_,rfl,⟨_,rfl,w6,q6⟩,_,_,rfl,⟨a7,rfl⟩,rfl⟩:=h;obtain⟨a6,rfl,e6⟩:=bH Yj q6;exact⟨⟨j,C,⟨I,J,U,a6,a7⟩⟩,rfl,⟨w1,w2,⟨wf_i64 w3,wf_i64 w4,wf_i64 w5,⟨by simpa using w6,e6⟩⟩⟩⟩
def M.aJx.sz(x:M.aJx):Nat:=x.aJr.size+(x.aKP.size+(M.aJo.sz x.aJo))
theorem M.aJx.rM(x:M.aJx)(j:M.aJx.ok x):Sz (wX x) (M.aJx.sz x):=by intro l a b;unfold wX M.aJx.sz;exact(Sz.Gm j.aJr (Sz.Gm j.aKP (Sz.call (M.aJo.rM _ j.aJo)))) l a b
theorem M.aJx.pO(x:M.aJx)(C:M.aJx.ok x)(j:M.aJx.sz x<=1048576):xN x=some x:=by unfold M.aJx.sz at j;unfold xN;rw[M.aJo.pO _ C.aJo jD,qA]
theorem M.aJx.pL(x:M.aJx)(j:M.aJx.ok x):xR x x=some true:=by simp[xR,M.aJo.pL _ j.aJo]
theorem M.Hn.rM(xs:List M.aJx)(j:(xs.length<=maxLen/\∀y∈xs,M.aJx.ok y)):Sz (CW xs) (xs.length+bA M.aJx.sz xs):=GB j (λy h=>M.aJx.rM y h)
theorem M.Hn.pO(xs:List M.aJx)(C:(xs.length<=maxLen/\∀y∈xs,M.aJx.ok y))(j:(xs.length+bA M.aJx.sz xs)<=1048576):C7 xs=some xs:=FV C j jG (λy h z=>M.aJx.pO y h z)
theorem M.Hn.pL(xs:List M.aJx)(j:(xs.length<=maxLen/\∀y∈xs,M.aJx.ok y)):C2 xs xs=some true:=Fu j (λy h=>M.aJx.pL y h)
structure M.aJ0.ok (x:M.aJ0):Prop where
 aJl:inI x.aJl
 aJ1:(x.aJ1.length<=maxLen/\∀y∈x.aJ1,M.aJx.ok y)
def M.aJ0.sh:List Shp:=[.int .i64,.sl M.aJx.sh]
theorem M.aJ0.dK(d:List D)(h:sP M.aJ0.sh d):∃x,d=M.aJ0.en x/\M.aJ0.ok x:=by simp only[M.aJ0.sh,sP,Has]at h;obtain⟨_,_,rfl,⟨j,rfl,J⟩,_,_,rfl,⟨_,rfl,U,I⟩,rfl⟩:=h;obtain⟨C,rfl,e2⟩:=bH M.aJx.dK I;exact⟨⟨j,C⟩,rfl,⟨wf_i64 J,⟨by simpa using U,e2⟩⟩⟩
def M.aJ0.sz(x:M.aJ0):Nat:=x.aJ1.length+bA M.aJx.sz x.aJ1
theorem M.aJ0.rM(x:M.aJ0)(j:M.aJ0.ok x):Sz (AK x) (M.aJ0.sz x):=by intro l a b;unfold AK M.aJ0.sz;exact(Sz.call (M.Hn.rM _ j.aJ1)) l a b
theorem M.aJ0.pO(x:M.aJ0)(C:M.aJ0.ok x)(j:M.aJ0.sz x<=1048576):AB x=some x:=by unfold M.aJ0.sz at j;unfold AB;rw[M.Hn.pO _ C.aJ1 jD,qA]
theorem M.aJ0.pL(x:M.aJ0)(j:M.aJ0.ok x):AR x x=some true:=by simp[AR,M.Hn.pL _ j.aJ1]
theorem M.Kj.rM(xs:List M.aJ0)(j:(xs.length<=maxLen/\∀y∈xs,M.aJ0.ok y)):Sz (Ec xs) (xs.length+bA M.aJ0.sz xs):=GB j (λy h=>M.aJ0.rM y h)
theorem M.Kj.pO(xs:List M.aJ0)(C:(xs.length<=maxLen/\∀y∈xs,M.aJ0.ok y))(j:(xs.length+bA M.aJ0.sz xs)<=1048576):DY xs=some xs:=FV C j jG (λy h z=>M.aJ0.pO y h z)
theorem M.Kj.pL(xs:List M.aJ0)(j:(xs.length<=maxLen/\∀y∈xs,M.aJ0.ok y)):DX xs xs=some true:=Fu j (λy h=>M.aJ0.pL y h)
structure M.aO.ok (x:M.aO):Prop where
 aJs:(x.aJs.length<=maxLen/\∀y∈x.aJs,M.aJ0.ok y)
def M.aO.sh:List Shp:=[.sl M.aJ0.sh]
theorem M.aO.dK(d:List D)(h:sP M.aO.sh d):∃x,d=M.aO.en x/\M.aO.ok x:=by simp only[M.aO.sh,sP,Has]at h;obtain⟨_,_,rfl,⟨_,rfl,I,C⟩,rfl⟩:=h;obtain⟨j,rfl,e1⟩:=bH M.aJ0.dK C;exact⟨⟨j⟩,rfl,⟨⟨by simpa using I,e1⟩⟩⟩
def M.aO.sz(x:M.aO):Nat:=x.aJs.length+bA M.aJ0.sz x.aJs
theorem M.aO.rM(x:M.aO)(j:M.aO.ok x):Sz (yQ x) (M.aO.sz x):=by intro l a b;unfold yQ M.aO.sz;exact(Sz.call (M.Kj.rM _ j.aJs)) l a b
theorem M.aO.pO(x:M.aO)(C:M.aO.ok x)(j:M.aO.sz x<=1048576):xU x=some x:=by unfold M.aO.sz at j;unfold xU;rw[M.Kj.pO _ C.aJs jD,qA]
theorem M.aO.pL(x:M.aO)(j:M.aO.ok x):xT x x=some true:=by simp[xT,M.Kj.pL _ j.aJs]
structure M.Key.ok (x:M.Key):Prop where
 aJz:inI x.aJz
 N:inI x.N
 aKA:x.aKA.size<=maxLen
def M.Key.sh:List Shp:=[.int .i64,.int .i64,.str]
theorem M.Key.dK(d:List D)(h:sP M.Key.sh d):∃x,d=M.Key.en x/\M.Key.ok x:=by simp only[M.Key.sh,sP,Has]at h;obtain⟨_,_,rfl,⟨j,rfl,J⟩,_,_,rfl,⟨C,rfl,U⟩,_,_,rfl,⟨I,rfl,w3⟩,rfl⟩:=h;exact⟨⟨j,C,I⟩,rfl,⟨wf_i64 J,wf_i64 U,w3⟩⟩
def M.Key.sz(x:M.Key):Nat:=x.aKA.size
theorem M.Key.rM(x:M.Key)(j:M.Key.ok x):Sz (Dt x) (M.Key.sz x):=by intro l a b;unfold Dt M.Key.sz;exact(Sz.str j.aKA) l a b
theorem M.Key.pO(x:M.Key)(C:M.Key.ok x)(j:M.Key.sz x<=1048576):Dr x=some x:=by unfold M.Key.sz at j;unfold Dr;rfl
theorem M.Key.pL(x:M.Key)(j:M.Key.ok x):Ds x x=some true:=by simp[Ds]
structure M.Field.ok (x:M.Field):Prop where
 Name:x.Name.size<=maxLen
 N:inI x.N
def M.Field.sh:List Shp:=[.str,.int .i64]
theorem M.Field.dK(d:List D)(h:sP M.Field.sh d):∃x,d=M.Field.en x/\M.Field.ok x:=by simp only[M.Field.sh,sP,Has]at h;obtain⟨_,_,rfl,⟨j,rfl,I⟩,_,_,rfl,⟨C,rfl,J⟩,rfl⟩:=h;exact⟨⟨j,C⟩,rfl,⟨I,wf_i64 J⟩⟩
def M.Field.sz(x:M.Field):Nat:=x.Name.size
theorem M.Field.rM(x:M.Field)(j:M.Field.ok x):Sz (AF x) (M.Field.sz x):=by intro l a b;unfold AF M.Field.sz;exact(Sz.str j.Name) l a b
theorem M.Field.pO(x:M.Field)(C:M.Field.ok x)(j:M.Field.sz x<=1048576):AM x=some x:=by unfold M.Field.sz at j;unfold AM;rfl
theorem M.Field.pL(x:M.Field)(j:M.Field.ok x):Av x x=some true:=by simp[Av]
theorem M.KU.rM(xs:List M.Field)(j:(xs.length<=maxLen/\∀y∈xs,M.Field.ok y)):Sz (DE xs) (xs.length+bA M.Field.sz xs):=GB j (λy h=>M.Field.rM y h)
theorem M.KU.pO(xs:List M.Field)(C:(xs.length<=maxLen/\∀y∈xs,M.Field.ok y))(j:(xs.length+bA M.Field.sz xs)<=1048576):Ej xs=some xs:=FV C j jG (λy h z=>M.Field.pO y h z)
theorem M.KU.pL(xs:List M.Field)(j:(xs.length<=maxLen/\∀y∈xs,M.Field.ok y)):D3 xs xs=some true:=Fu j (λy h=>M.Field.pL y h)
structure M.aC.ok (x:M.aC):Prop where
 aJq:(x.aJq.length<=maxLen/\∀y∈x.aJq,M.Field.ok y)
def M.aC.sh:List Shp:=[.sl M.Field.sh]
theorem M.aC.dK(d:List D)(h:sP M.aC.sh d):∃x,d=M.aC.en x/\M.aC.ok x:=by simp only[M.aC.sh,sP,Has]at h;obtain⟨_,_,rfl,⟨_,rfl,I,C⟩,rfl⟩:=h;obtain⟨j,rfl,e1⟩:=bH M.Field.dK C;exact⟨⟨j⟩,rfl,⟨⟨by simpa using I,e1⟩⟩⟩
def M.aC.sz(x:M.aC):Nat:=x.aJq.length+bA M.Field.sz x.aJq
theorem M.aC.rM(x:M.aC)(j:M.aC.ok x):Sz (BE x) (M.aC.sz x):=by intro l a b;unfold BE M.aC.sz;exact(Sz.call (M.KU.rM _ j.aJq)) l a b
theorem M.aC.pO(x:M.aC)(C:M.aC.ok x)(j:M.aC.sz x<=1048576):Bm x=some x:=by unfold M.aC.sz at j;unfold Bm;rw[M.KU.pO _ C.aJq jD,qA]
theorem M.aC.pL(x:M.aC)(j:M.aC.ok x):Bx x x=some true:=by simp[Bx,M.KU.pL _ j.aJq]
structure M.aJt.ok (x:M.aJt):Prop where
 Key:M.Key.ok x.Key
 aC:M.aC.ok x.aC
def M.aJt.sh:List Shp:=[.int .i64,.int .i64,.str,.sl M.Field.sh]
theorem M.aJt.dK(d:List D)(h:sP M.aJt.sh d):∃x,d=M.aJt.en x/\M.aJt.ok x:=by simp only[M.aJt.sh,sP,Has]at h;obtain⟨_,_,rfl,⟨j,rfl,w1⟩,_,_,rfl,⟨C,rfl,w2⟩,_,_,rfl,⟨I,rfl,w3⟩,_,_,rfl,⟨_,rfl,w4,U⟩,rfl⟩:=h;obtain⟨J,rfl,e4⟩:=bH M.Field.dK U;exact⟨⟨⟨j,C,I⟩,⟨J⟩⟩,rfl,⟨⟨wf_i64 w1,wf_i64 w2,w3⟩,⟨⟨by simpa using w4,e4⟩⟩⟩⟩
def M.aJt.sz(x:M.aJt):Nat:=M.Key.sz x.Key+(M.aC.sz x.aC)
theorem M.aJt.rM(x:M.aJt)(j:M.aJt.ok x):Sz (B6 x) (M.aJt.sz x):=by intro l a b;unfold B6 M.aJt.sz;exact(Sz.zG (M.Key.rM _ j.Key) (Sz.call (M.aC.rM _ j.aC))) l a b
theorem M.aJt.pO(x:M.aJt)(j:M.aJt.ok x)(C:M.aJt.sz x<=1048576):BI x=some x:=by unfold M.aJt.sz at C;unfold BI;rw[M.Key.pO _ j.Key jD,qA,M.aC.pO _ j.aC jD,qA]
theorem M.aJt.pL(x:M.aJt)(j:M.aJt.ok x):BL x x=some true:=by simp[BL,M.Key.pL _ j.Key,M.aC.pL _ j.aC]
theorem M.Li.rM(xs:List M.aJt)(j:(xs.length<=maxLen/\∀y∈xs,M.aJt.ok y)):Sz (ES xs) (xs.length+bA M.aJt.sz xs):=GB j (λy h=>M.aJt.rM y h)
theorem M.Li.pO(xs:List M.aJt)(C:(xs.length<=maxLen/\∀y∈xs,M.aJt.ok y))(j:(xs.length+bA M.aJt.sz xs)<=1048576):EE xs=some xs:=FV C j jG (λy h z=>M.aJt.pO y h z)
theorem M.Li.pL(xs:List M.aJt)(j:(xs.length<=maxLen/\∀y∈xs,M.aJt.ok y)):ER xs xs=some true:=Fu j (λy h=>M.aJt.pL y h)
structure M.aD.ok (x:M.aD):Prop where
 Name:x.Name.size<=maxLen
 aJm:(x.aJm.length<=maxLen/\∀y∈x.aJm,M.aJt.ok y)
 aKG:inI x.aKG
def M.aD.sh:List Shp:=[.str,.sl M.aJt.sh,.int .i64]
theorem M.aD.dK(d:List D)(h:sP M.aD.sh d):∃x,d=M.aD.en x/\M.aD.ok x:=by simp only[M.aD.sh,sP,Has]at h;obtain⟨_,_,rfl,⟨j,rfl,U⟩,_,_,rfl,⟨_,rfl,w2,J⟩,_,_,rfl,⟨I,rfl,w3⟩,rfl⟩:=h;obtain⟨C,rfl,e2⟩:=bH M.aJt.dK J;exact⟨⟨j,C,I⟩,rfl,⟨U,⟨by simpa using w2,e2⟩,wf_i64 w3⟩⟩
def M.aD.sz(x:M.aD):Nat:=x.Name.size+(x.aJm.length+bA M.aJt.sz x.aJm)
theorem M.aD.rM(x:M.aD)(j:M.aD.ok x):Sz (rP x) (M.aD.sz x):=by intro l a b;unfold rP M.aD.sz;exact(Sz.Gm j.Name (Sz.call (M.Li.rM _ j.aJm))) l a b
theorem M.aD.pO(x:M.aD)(C:M.aD.ok x)(j:M.aD.sz x<=1048576):rV x=some x:=by unfold M.aD.sz at j;unfold rV;rw[M.Li.pO _ C.aJm jD,qA]
theorem M.aD.pL(x:M.aD)(j:M.aD.ok x):rU x x=some true:=by simp[rU,M.Li.pL _ j.aJm]
theorem M.J9.rM(xs:List M.aD)(j:(xs.length<=maxLen/\∀y∈xs,M.aD.ok y)):Sz (DV xs) (xs.length+bA M.aD.sz xs):=GB j (λy h=>M.aD.rM y h)
theorem M.J9.pO(xs:List M.aD)(C:(xs.length<=maxLen/\∀y∈xs,M.aD.ok y))(j:(xs.length+bA M.aD.sz xs)<=1048576):DI xs=some xs:=FV C j jG (λy h z=>M.aD.pO y h z)
theorem M.J9.pL(xs:List M.aD)(j:(xs.length<=maxLen/\∀y∈xs,M.aD.ok y)):DD xs xs=some true:=Fu j (λy h=>M.aD.pL y h)
structure M.aG.ok (x:M.aG):Prop where
 aD:x.aD.size<=maxLen
 Field:x.Field.size<=maxLen
def M.aG.sh:List Shp:=[.str,.str]
theorem M.aG.dK(d:List D)(h:sP M.aG.sh d):∃x,d=M.aG.en x/\M.aG.ok x:=by simp only[M.aG.sh,sP,Has]at h;obtain⟨_,_,rfl,⟨j,rfl,I⟩,_,_,rfl,⟨C,rfl,J⟩,rfl⟩:=h;exact⟨⟨j,C⟩,rfl,⟨I,J⟩⟩
def M.aG.sz(x:M.aG):Nat:=x.aD.size+(x.Field.size)
theorem M.aG.rM(x:M.aG)(j:M.aG.ok x):Sz (rZ x) (M.aG.sz x):=by intro l a b;unfold rZ M.aG.sz;exact(Sz.Gm j.aD (Sz.str j.Field)) l a b
theorem M.aG.pO(x:M.aG)(C:M.aG.ok x)(j:M.aG.sz x<=1048576):sI x=some x:=by unfold M.aG.sz at j;unfold sI;rfl
theorem M.aG.pL(x:M.aG)(j:M.aG.ok x):sH x x=some true:=by simp[sH]
theorem M.Em.rM(xs:List M.aG)(j:(xs.length<=maxLen/\∀y∈xs,M.aG.ok y)):Sz (AX xs) (xs.length+bA M.aG.sz xs):=GB j (λy h=>M.aG.rM y h)
theorem M.Em.pO(xs:List M.aG)(C:(xs.length<=maxLen/\∀y∈xs,M.aG.ok y))(j:(xs.length+bA M.aG.sz xs)<=1048576):A5 xs=some xs:=FV C j jG (λy h z=>M.aG.pO y h z)
theorem M.Em.pL(xs:List M.aG)(j:(xs.length<=maxLen/\∀y∈xs,M.aG.ok y)):AY xs xs=some true:=Fu j (λy h=>M.aG.pL y h)
structure M.aJj.ok (x:M.aJj):Prop where
 Name:x.Name.size<=maxLen
 aJl:inI x.aJl
 aJw:(x.aJw.length<=maxLen/\∀y∈x.aJw,M.aD.ok y)
 aJ5:(x.aJ5.length<=maxLen/\∀y∈x.aJ5,M.aG.ok y)
def M.aJj.sh:List Shp:=[.str,.int .i64,.sl M.aD.sh,.sl M.aG.sh]
theorem M.aJj.dK(d:List D)(h:sP M.aJj.sh d):∃x,d=M.aJj.en x/\M.aJj.ok x:=by simp only[M.aJj.sh,sP,Has]at h;obtain⟨_,_,rfl,⟨j,rfl,w1⟩,_,_,rfl,⟨C,rfl,w2⟩,_,_,rfl,⟨_,rfl,w3,U⟩,_,_,rfl,⟨_,rfl,w4,q4⟩,rfl⟩:=h;obtain⟨I,rfl,e3⟩:=bH M.aD.dK U;obtain⟨J,rfl,e4⟩:=bH M.aG.dK q4;exact⟨⟨j,C,I,J⟩,rfl,⟨w1,wf_i64 w2,⟨by simpa using w3,e3⟩,⟨by simpa using w4,e4⟩⟩⟩
def M.aJj.sz(x:M.aJj):Nat:=x.Name.size+((x.aJw.length+bA M.aD.sz x.aJw)+(x.aJ5.length+bA M.aG.sz x.aJ5))
theorem M.aJj.rM(x:M.aJj)(j:M.aJj.ok x):Sz (yJ x) (M.aJj.sz x):=by intro l a b;unfold yJ M.aJj.sz;exact(Sz.Gm j.Name (Sz.zG (M.J9.rM _ j.aJw) (Sz.call (M.Em.rM _ j.aJ5)))) l a b
theorem M.aJj.pO(x:M.aJj)(j:M.aJj.ok x)(C:M.aJj.sz x<=1048576):wO x=some x:=by unfold M.aJj.sz at C;unfold wO;rw[M.J9.pO _ j.aJw jD,qA,M.Em.pO _ j.aJ5 jD,qA]
theorem M.aJj.pL(x:M.aJj)(j:M.aJj.ok x):yM x x=some true:=by simp[yM,M.J9.pL _ j.aJw,M.Em.pL _ j.aJ5]
structure M.bL.ok (x:M.bL):Prop where
 aJ8:M.aJj.ok x.aJ8
 Log:okB x.Log
 aKR:inI x.aKR
def M.bL.sh:List Shp:=[.str,.int .i64,.sl M.aD.sh,.sl M.aG.sh,.sl [.int .u8],.int .i64]
theorem M.bL.dK(d:List D)(h:sP M.bL.sh d):∃x,d=M.bL.en x/\M.bL.ok x:=by simp only[M.bL.sh,sP,Has]at h;obtain⟨_,_,rfl,⟨j,rfl,w1⟩,_,_,rfl,⟨C,rfl,w2⟩,_,_,rfl,⟨_,rfl,w3,q3⟩,_,_,rfl,⟨_,rfl,w4,q4⟩,_,_,rfl,⟨_,rfl,w5,q5⟩,_,_,rfl,⟨a6,rfl,w6⟩,rfl⟩:=h;obtain⟨I,rfl,e3⟩:=bH M.aD.dK q3;obtain⟨J,rfl,e4⟩:=bH M.aG.dK q4;obtain⟨U,rfl,e5⟩:=bH Yj q5;exact⟨⟨⟨j,C,I,J⟩,U,a6⟩,rfl,⟨⟨w1,wf_i64 w2,⟨by simpa using w3,e3⟩,⟨by simpa using w4,e4⟩⟩,⟨by simpa using w5,e5⟩,wf_i64 w6⟩⟩
def M.bL.sz(x:M.bL):Nat:=M.aJj.sz x.aJ8+(x.Log.length)
theorem M.bL.rM(x:M.bL)(j:M.bL.ok x):Sz (DA x) (M.bL.sz x):=by intro l a b;unfold DA M.bL.sz;exact(Sz.zG (M.aJj.rM _ j.aJ8) (Sz.call (M.Hl.rM _ j.Log))) l a b
theorem M.bL.pO(x:M.bL)(j:M.bL.ok x)(C:M.bL.sz x<=1048576):Ef x=some x:=by unfold M.bL.sz at C;unfold Ef;rw[M.aJj.pO _ j.aJ8 jD,qA,M.Hl.pO _ j.Log jD,qA]
theorem M.bL.pL(x:M.bL)(j:M.bL.ok x):D1 x x=some true:=by simp[D1,M.aJj.pL _ j.aJ8,M.Hl.pL _ j.Log]
structure M.aY.ok (x:M.aY):Prop where
 aJy:inI x.aJy
 Seq:inI x.Seq
 Key:M.Key.ok x.Key
 Field:x.Field.size<=maxLen
 N:inI x.N
def M.aY.sh:List Shp:=[.int .i64,.int .i64,.int .i64,.int .i64,.str,.str,.int .i64]
theorem M.aY.dK(d:List D)(h:sP M.aY.sh d):∃x,d=M.aY.en x/\M.aY.ok x:=by simp only[M.aY.sh,sP,Has]at h;obtain⟨_,_,rfl,⟨j,rfl,w1⟩,_,_,rfl,⟨C,rfl,w2⟩,_,_,rfl,⟨I,rfl,w3⟩,_,_,rfl,⟨J,rfl,w4⟩,_,_,rfl,⟨U,rfl,w5⟩,_,_,rfl,⟨a6,rfl,w6⟩,_,_,rfl,⟨a7,rfl,w7⟩,rfl⟩:=h;exact⟨⟨j,C,⟨I,J,U⟩,a6,a7⟩,rfl,⟨wf_i64 w1,wf_i64 w2,⟨wf_i64 w3,wf_i64 w4,w5⟩,w6,wf_i64 w7⟩⟩
def M.aY.sz(x:M.aY):Nat:=M.Key.sz x.Key+(x.Field.size)
theorem M.aY.rM(x:M.aY)(j:M.aY.ok x):Sz (AJ x) (M.aY.sz x):=by intro l a b;unfold AJ M.aY.sz;exact(Sz.zG (M.Key.rM _ j.Key) (Sz.str j.Field)) l a b
theorem M.aY.pO(x:M.aY)(C:M.aY.ok x)(j:M.aY.sz x<=1048576):AE x=some x:=by unfold M.aY.sz at j;unfold AE;rw[M.Key.pO _ C.Key jD,qA]
theorem M.aY.pL(x:M.aY)(j:M.aY.ok x):Az x x=some true:=by simp[Az,M.Key.pL _ j.Key]
theorem M.Gr.rM(xs:List M.aY)(j:(xs.length<=maxLen/\∀y∈xs,M.aY.ok y)):Sz (Bv xs) (xs.length+bA M.aY.sz xs):=GB j (λy h=>M.aY.rM y h)
theorem M.Gr.pO(xs:List M.aY)(C:(xs.length<=maxLen/\∀y∈xs,M.aY.ok y))(j:(xs.length+bA M.aY.sz xs)<=1048576):Bw xs=some xs:=FV C j jG (λy h z=>M.aY.pO y h z)
theorem M.Gr.pL(xs:List M.aY)(j:(xs.length<=maxLen/\∀y∈xs,M.aY.ok y)):BF xs xs=some true:=Fu j (λy h=>M.aY.pL y h)
structure M.aM.ok (x:M.aM):Prop where
 aJy:inI x.aJy
 aKU:inI x.aKU
 aJ9:(x.aJ9.length<=maxLen/\∀y∈x.aJ9,M.aY.ok y)
def M.aM.sh:List Shp:=[.int .i64,.int .i64,.sl M.aY.sh]
theorem M.aM.dK(d:List D)(h:sP M.aM.sh d):∃x,d=M.aM.en x/\M.aM.ok x:=by simp only[M.aM.sh,sP,Has]at h;obtain⟨_,_,rfl,⟨j,rfl,U⟩,_,_,rfl,⟨C,rfl,w2⟩,_,_,rfl,⟨_,rfl,w3,J⟩,rfl⟩:=h;obtain⟨I,rfl,e3⟩:=bH M.aY.dK J;exact⟨⟨j,C,I⟩,rfl,⟨wf_i64 U,wf_i64 w2,⟨by simpa using w3,e3⟩⟩⟩
def M.aM.sz(x:M.aM):Nat:=x.aJ9.length+bA M.aY.sz x.aJ9
theorem M.aM.rM(x:M.aM)(j:M.aM.ok x):Sz (Bk x) (M.aM.sz x):=by intro l a b;unfold Bk M.aM.sz;exact(Sz.call (M.Gr.rM _ j.aJ9)) l a b
theorem M.aM.pO(x:M.aM)(C:M.aM.ok x)(j:M.aM.sz x<=1048576):Bf x=some x:=by unfold M.aM.sz at j;unfold Bf;rw[M.Gr.pO _ C.aJ9 jD,qA]
theorem M.aM.pL(x:M.aM)(j:M.aM.ok x):BD x x=some true:=by simp[BD,M.Gr.pL _ j.aJ9]
structure M.aJ7.ok (x:M.aJ7):Prop where
 aM:M.aM.ok x.aM
 aKX:inI x.aKX
 aKL:inI x.aKL
def M.aJ7.sh:List Shp:=[.int .i64,.int .i64,.sl M.aY.sh,.int .i64,.int .i64]
theorem M.aJ7.dK(d:List D)(h:sP M.aJ7.sh d):∃x,d=M.aJ7.en x/\M.aJ7.ok x:=by simp only[M.aJ7.sh,sP,Has]at h;obtain⟨_,_,rfl,⟨j,rfl,w1⟩,_,_,rfl,⟨C,rfl,w2⟩,_,_,rfl,⟨_,rfl,w3,q3⟩,_,_,rfl,⟨J,rfl,w4⟩,_,_,rfl,⟨U,rfl,w5⟩,rfl⟩:=h;obtain⟨I,rfl,e3⟩:=bH M.aY.dK q3;exact⟨⟨⟨j,C,I⟩,J,U⟩,rfl,⟨⟨wf_i64 w1,wf_i64 w2,⟨by simpa using w3,e3⟩⟩,wf_i64 w4,wf_i64 w5⟩⟩
def M.aJ7.sz(x:M.aJ7):Nat:=M.aM.sz x.aM
theorem M.aJ7.rM(x:M.aJ7)(j:M.aJ7.ok x):Sz (Eh x) (M.aJ7.sz x):=by intro l a b;unfold Eh M.aJ7.sz;exact(Sz.call (M.aM.rM _ j.aM)) l a b
theorem M.aJ7.pO(x:M.aJ7)(C:M.aJ7.ok x)(j:M.aJ7.sz x<=1048576):D4 x=some x:=by unfold M.aJ7.sz at j;unfold D4;rw[M.aM.pO _ C.aM jD,qA]
theorem M.aJ7.pL(x:M.aJ7)(j:M.aJ7.ok x):DK x x=some true:=by simp[DK,M.aM.pL _ j.aM]
structure M.aE.ok (x:M.aE):Prop where
 aJ8:M.aD.ok x.aJ8
 aKe:inI x.aKe
 aJ7:M.aJ7.ok x.aJ7
def M.aE.sh:List Shp:=[.str,.sl M.aJt.sh,.int .i64,.int .i64,.int .i64,.int .i64,.sl M.aY.sh,.int .i64,.int .i64]
theorem M.aE.dK(d:List D)(h:sP M.aE.sh d):∃x,d=M.aE.en x/\M.aE.ok x:=by simp only[M.aE.sh,sP,Has]at h;obtain⟨_,_,rfl,⟨j,rfl,w1⟩,_,_,rfl,⟨_,rfl,w2,q2⟩,_,_,rfl,⟨I,rfl,w3⟩,_,_,rfl,⟨J,rfl,w4⟩,_,_,rfl,⟨U,rfl,w5⟩,_,_,rfl,⟨a6,rfl,w6⟩,_,_,rfl,⟨_,rfl,w7,q7⟩,_,_,rfl,⟨a8,rfl,w8⟩,_,_,rfl,⟨a9,rfl,w9⟩,rfl⟩:=h;obtain⟨C,rfl,e2⟩:=bH M.aJt.dK q2;obtain⟨a7,rfl,e7⟩:=bH M.aY.dK q7;exact⟨⟨⟨j,C,I⟩,J,⟨⟨U,a6,a7⟩,a8,a9⟩⟩,rfl,⟨⟨w1,⟨by simpa using w2,e2⟩,wf_i64 w3⟩,wf_i64 w4,⟨⟨wf_i64 w5,wf_i64 w6,⟨by simpa using w7,e7⟩⟩,wf_i64 w8,wf_i64 w9⟩⟩⟩
def M.aE.sz(x:M.aE):Nat:=M.aD.sz x.aJ8+(M.aJ7.sz x.aJ7)
theorem M.aE.rM(x:M.aE)(j:M.aE.ok x):Sz (Ak x) (M.aE.sz x):=by intro l a b;unfold Ak M.aE.sz;exact(Sz.zG (M.aD.rM _ j.aJ8) (Sz.call (M.aJ7.rM _ j.aJ7))) l a b
theorem M.aE.pO(x:M.aE)(j:M.aE.ok x)(C:M.aE.sz x<=1048576):Ae x=some x:=by unfold M.aE.sz at C;unfold Ae;rw[M.aD.pO _ j.aJ8 jD,qA,M.aJ7.pO _ j.aJ7 jD,qA]
theorem M.aE.pL(x:M.aE)(j:M.aE.ok x):Ad x x=some true:=by simp[Ad,M.aD.pL _ j.aJ8,M.aJ7.pL _ j.aJ7]
structure M.aJi.ok (x:M.aJi):Prop where
 aJr:x.aJr.size<=maxLen
 Top:x.Top.size<=maxLen
 aJk:M.aJk.ok x.aJk
 aJs:M.aO.ok x.aJs
 bL:M.bL.ok x.bL
 aE:M.aE.ok x.aE
 aKC:inI x.aKC
def M.aJi.sh:List Shp:=[.str,.str,.str,.int .i64,.int .i64,.int .i64,.sl M.aJ0.sh,.str,.int .i64,.sl M.aD.sh,.sl M.aG.sh,.sl [.int .u8],.int .i64,.str,.sl M.aJt.sh,.int .i64,.int .i64,.int .i64,.int .i64,.sl M.aY.sh,.int .i64,.int .i64,.int .i64,.bool]
theorem M.aJi.dK(d:List D)(h:sP M.aJi.sh d):∃x,d=M.aJi.en x/\M.aJi.ok x:=by simp only[M.aJi.sh,sP,Has]at h;obtain⟨_,_,rfl,⟨j,rfl,w1⟩,_,_,rfl,⟨C,rfl,w2⟩,_,_,rfl,⟨I,rfl,w3⟩,_,_,rfl,⟨J,rfl,w4⟩,_,_,rfl,⟨U,rfl,w5⟩,_,_,rfl,⟨a6,rfl,w6⟩,_,_,rfl,⟨_,rfl,w7,q7⟩,_,_,rfl,⟨a8,rfl,w8⟩,_,_,rfl,⟨a9,rfl,w9⟩,_,_,rfl,⟨_,rfl,aa,ae⟩,_,_,rfl,⟨_,rfl,af,ah⟩,_,_,rfl,⟨_,rfl,ai,aj⟩,_,_,rfl,⟨ak,rfl,al⟩,_,_,rfl,⟨ao,rfl,aq⟩,_,_,rfl,⟨_,rfl,ar,av⟩,_,_,rfl,⟨aw,rfl,ax⟩,_,_,rfl,⟨ay,rfl,az⟩,_,_,rfl,⟨ba,rfl,bd⟩,_,_,rfl,⟨bf,rfl,bg⟩,_,_,rfl,⟨_,rfl,bh,bj⟩,_,_,rfl,⟨bl,rfl,bm⟩,_,_,rfl,⟨bn,rfl,bo⟩,_,_,rfl,⟨bq,rfl,br⟩,_,_,rfl,⟨bt,rfl⟩,rfl⟩:=h;obtain⟨a7,rfl,e7⟩:=bH M.aJ0.dK q7;obtain⟨bu,rfl,bw⟩:=bH M.aD.dK ae;obtain⟨bz,rfl,c5⟩:=bH M.aG.dK ah;obtain⟨ca,rfl,cc⟩:=bH Yj aj;obtain⟨cd,rfl,cg⟩:=bH M.aJt.dK av;obtain⟨cj,rfl,ck⟩:=bH M.aY.dK bj;exact⟨⟨j,C,⟨I,J,U,a6⟩,⟨a7⟩,⟨⟨a8,a9,bu,bz⟩,ca,ak⟩,⟨⟨ao,cd,aw⟩,ay,⟨⟨ba,bf,cj⟩,bl,bn⟩⟩,bq,bt⟩,rfl,⟨w1,w2,⟨w3,wf_i64 w4,wf_i64 w5,wf_i64 w6⟩,⟨⟨by simpa using w7,e7⟩⟩,⟨⟨w8,wf_i64 w9,⟨by simpa using aa,bw⟩,⟨by simpa using af,c5⟩⟩,⟨by simpa using ai,cc⟩,wf_i64 al⟩,⟨⟨aq,⟨by simpa using ar,cg⟩,wf_i64 ax⟩,wf_i64 az,⟨⟨wf_i64 bd,wf_i64 bg,⟨by simpa using bh,ck⟩⟩,wf_i64 bm,wf_i64 bo⟩⟩,wf_i64 br⟩⟩
def M.aJi.sz(x:M.aJi):Nat:=x.aJr.size+(x.Top.size+(M.aJk.sz x.aJk+(M.aO.sz x.aJs+(M.bL.sz x.bL+(M.aE.sz x.aE)))))
theorem M.aJi.rM(x:M.aJi)(j:M.aJi.ok x):Sz (yL x) (M.aJi.sz x):=by intro l a b;unfold yL M.aJi.sz;exact(Sz.Gm j.aJr (Sz.Gm j.Top (Sz.zG (M.aJk.rM _ j.aJk) (Sz.zG (M.aO.rM _ j.aJs) (Sz.zG (M.bL.rM _ j.bL) (Sz.call (M.aE.rM _ j.aE))))))) l a b
theorem M.aJi.pO(x:M.aJi)(j:M.aJi.ok x)(C:M.aJi.sz x<=1048576):xZ x=some x:=by unfold M.aJi.sz at C;unfold xZ;rw[M.aJk.pO _ j.aJk jD,qA,M.aO.pO _ j.aJs jD,qA,M.bL.pO _ j.bL jD,qA,M.aE.pO _ j.aE jD,qA]
theorem M.aJi.pL(x:M.aJi)(j:M.aJi.ok x):xB x x=some true:=by simp[xB,M.aJk.pL _ j.aJk,M.aO.pL _ j.aJs,M.bL.pL _ j.bL,M.aE.pL _ j.aE]
theorem M.Hv.rM(xs:List M.aJi)(j:(xs.length<=maxLen/\∀y∈xs,M.aJi.ok y)):Sz (CX xs) (xs.length+bA M.aJi.sz xs):=GB j (λy h=>M.aJi.rM y h)
theorem M.Hv.pO(xs:List M.aJi)(C:(xs.length<=maxLen/\∀y∈xs,M.aJi.ok y))(j:(xs.length+bA M.aJi.sz xs)<=1048576):Df xs=some xs:=FV C j jG (λy h z=>M.aJi.pO y h z)
theorem M.Hv.pL(xs:List M.aJi)(j:(xs.length<=maxLen/\∀y∈xs,M.aJi.ok y)):Db xs xs=some true:=Fu j (λy h=>M.aJi.pL y h)
structure M.aA.ok (x:M.aA):Prop where
 aJp:(x.aJp.length<=maxLen/\∀y∈x.aJp,M.aJi.ok y)
def M.aA.sh:List Shp:=[.sl M.aJi.sh]
theorem M.aA.dK(d:List D)(h:sP M.aA.sh d):∃x,d=M.aA.en x/\M.aA.ok x:=by simp only[M.aA.sh,sP,Has]at h;obtain⟨_,_,rfl,⟨_,rfl,I,C⟩,rfl⟩:=h;obtain⟨j,rfl,e1⟩:=bH M.aJi.dK C;exact⟨⟨j⟩,rfl,⟨⟨by simpa using I,e1⟩⟩⟩
def M.aA.sz(x:M.aA):Nat:=x.aJp.length+bA M.aJi.sz x.aJp
theorem M.aA.rM(x:M.aA)(j:M.aA.ok x):Sz (zT x) (M.aA.sz x):=by intro l a b;unfold zT M.aA.sz;exact(Sz.call (M.Hv.rM _ j.aJp)) l a b
theorem M.aA.pO(x:M.aA)(C:M.aA.ok x)(j:M.aA.sz x<=1048576):zZ x=some x:=by unfold M.aA.sz at j;unfold zZ;rw[M.Hv.pO _ C.aJp jD,qA]
theorem M.aA.pL(x:M.aA)(j:M.aA.ok x):Ai x x=some true:=by simp[Ai,M.Hv.pL _ j.aJp]
structure M.aJ.ok (x:M.aJ):Prop where
 aKP:x.aKP.size<=maxLen
 aJl:inI x.aJl
def M.aJ.sh:List Shp:=[.str,.int .i64]
theorem M.aJ.dK(d:List D)(h:sP M.aJ.sh d):∃x,d=M.aJ.en x/\M.aJ.ok x:=by simp only[M.aJ.sh,sP,Has]at h;obtain⟨_,_,rfl,⟨j,rfl,I⟩,_,_,rfl,⟨C,rfl,J⟩,rfl⟩:=h;exact⟨⟨j,C⟩,rfl,⟨I,wf_i64 J⟩⟩
def M.aJ.sz(x:M.aJ):Nat:=x.aKP.size
theorem M.aJ.rM(x:M.aJ)(j:M.aJ.ok x):Sz (wY x) (M.aJ.sz x):=by intro l a b;unfold wY M.aJ.sz;exact(Sz.str j.aKP) l a b
theorem M.aJ.pO(x:M.aJ)(C:M.aJ.ok x)(j:M.aJ.sz x<=1048576):wP x=some x:=by unfold M.aJ.sz at j;unfold wP;rfl
theorem M.aJ.pL(x:M.aJ)(j:M.aJ.ok x):wQ x x=some true:=by simp[wQ]
theorem M.Ht.rM(xs:List M.aJ)(j:(xs.length<=maxLen/\∀y∈xs,M.aJ.ok y)):Sz (CY xs) (xs.length+bA M.aJ.sz xs):=GB j (λy h=>M.aJ.rM y h)
theorem M.Ht.pO(xs:List M.aJ)(C:(xs.length<=maxLen/\∀y∈xs,M.aJ.ok y))(j:(xs.length+bA M.aJ.sz xs)<=1048576):CZ xs=some xs:=FV C j jG (λy h z=>M.aJ.pO y h z)
theorem M.Ht.pL(xs:List M.aJ)(j:(xs.length<=maxLen/\∀y∈xs,M.aJ.ok y)):De xs xs=some true:=Fu j (λy h=>M.aJ.pL y h)
structure M.Instr.ok (x:M.Instr):Prop where
 aJz:inI x.aJz
 R:inI x.R
 N:inI x.N
 aKA:x.aKA.size<=maxLen
def M.Instr.sh:List Shp:=[.int .i64,.int .i64,.int .i64,.str]
theorem M.Instr.dK(d:List D)(h:sP M.Instr.sh d):∃x,d=M.Instr.en x/\M.Instr.ok x:=by simp only[M.Instr.sh,sP,Has]at h;obtain⟨_,_,rfl,⟨j,rfl,U⟩,_,_,rfl,⟨C,rfl,w2⟩,_,_,rfl,⟨I,rfl,w3⟩,_,_,rfl,⟨J,rfl,w4⟩,rfl⟩:=h;exact⟨⟨j,C,I,J⟩,rfl,⟨wf_i64 U,wf_i64 w2,wf_i64 w3,w4⟩⟩
def M.Instr.sz(x:M.Instr):Nat:=x.aKA.size
theorem M.Instr.rM(x:M.Instr)(j:M.Instr.ok x):Sz (At x) (M.Instr.sz x):=by intro l a b;unfold At M.Instr.sz;exact(Sz.str j.aKA) l a b
theorem M.Instr.pO(x:M.Instr)(C:M.Instr.ok x)(j:M.Instr.sz x<=1048576):AN x=some x:=by unfold M.Instr.sz at j;unfold AN;rfl
theorem M.Instr.pL(x:M.Instr)(j:M.Instr.ok x):As x x=some true:=by simp[As]
theorem M.KC.rM(xs:List M.Instr)(j:(xs.length<=maxLen/\∀y∈xs,M.Instr.ok y)):Sz (DZ xs) (xs.length+bA M.Instr.sz xs):=GB j (λy h=>M.Instr.rM y h)
theorem M.KC.pO(xs:List M.Instr)(C:(xs.length<=maxLen/\∀y∈xs,M.Instr.ok y))(j:(xs.length+bA M.Instr.sz xs)<=1048576):Ek xs=some xs:=FV C j jG (λy h z=>M.Instr.pO y h z)
theorem M.KC.pL(xs:List M.Instr)(j:(xs.length<=maxLen/\∀y∈xs,M.Instr.ok y)):DW xs xs=some true:=Fu j (λy h=>M.Instr.pL y h)
theorem M.Ti.rM(xs:List Int)(j:okI xs):Sz (D6 xs) (xs.length):=by intro l a b;unfold D6;exact(Sz.str j.1) l a b
theorem M.Ti.pO(xs:List Int)(j:okI xs)(J:xs.length<=1048576):DN xs=some xs:=by have C:=le_max j.1;unfold DN;rw[TR jD jD,qA];refine Ro j.1 (λn k r hk I=> ?_) (λn r=> ?_) fuel 0 _ jI jD jF jF;(simp only[uJ];rw[if_pos (bE hk),aH hk,qA,aH jD,qA,bG jD,qH]);·simp only[uJ];rw[if_neg jK]
theorem M.Ti.pL(xs:List Int)(j:okI xs):D2 xs xs=some true:=by have C:=le_max j.1;unfold D2;rw[if_neg jF];refine QR j.1 (λn k hk=> ?_) (λn=> ?_) fuel 0 jI jD;(simp only[tU];rw[if_pos (bE hk),aH hk];simp[bG (show k<9223372036854775807 by omega)]);·simp only[tU];rw[if_neg jK]
structure M.aJn.ok (x:M.aJn):Prop where
 aKD:(x.aKD.length<=maxLen/\∀y∈x.aKD,M.Instr.ok y)
 Pc:inI x.Pc
 aKQ:okI x.aKQ
 aKW:inI x.aKW
def M.aJn.sh:List Shp:=[.sl M.Instr.sh,.int .i64,.sl [.int .i64],.int .i64,.bool,.bool]
theorem M.aJn.dK(d:List D)(h:sP M.aJn.sh d):∃x,d=M.aJn.en x/\M.aJn.ok x:=by simp only[M.aJn.sh,sP,Has]at h;obtain⟨_,_,rfl,⟨_,rfl,w1,q1⟩,_,_,rfl,⟨C,rfl,w2⟩,_,_,rfl,⟨_,rfl,w3,q3⟩,_,_,rfl,⟨J,rfl,w4⟩,_,_,rfl,⟨U,rfl⟩,_,_,rfl,⟨a6,rfl⟩,rfl⟩:=h;obtain⟨j,rfl,e1⟩:=bH M.Instr.dK q1;obtain⟨I,rfl,e3⟩:=bH Zu q3;exact⟨⟨j,C,I,J,U,a6⟩,rfl,⟨⟨by simpa using w1,e1⟩,wf_i64 w2,⟨by simpa using w3,e3⟩,wf_i64 w4⟩⟩
def M.aJn.sz(x:M.aJn):Nat:=(x.aKD.length+bA M.Instr.sz x.aKD)+(x.aKQ.length)
theorem M.aJn.rM(x:M.aJn)(j:M.aJn.ok x):Sz (An x) (M.aJn.sz x):=by intro l a b;unfold An M.aJn.sz;exact(Sz.zG (M.KC.rM _ j.aKD) (Sz.call (M.Ti.rM _ j.aKQ))) l a b
theorem M.aJn.pO(x:M.aJn)(j:M.aJn.ok x)(C:M.aJn.sz x<=1048576):zW x=some x:=by unfold M.aJn.sz at C;unfold zW;rw[M.KC.pO _ j.aKD jD,qA,M.Ti.pO _ j.aKQ jD,qA]
theorem M.aJn.pL(x:M.aJn)(j:M.aJn.ok x):zN x x=some true:=by simp[zN,M.KC.pL _ j.aKD,M.Ti.pL _ j.aKQ]
structure M.bD.ok (x:M.bD):Prop where
 Id:inI x.Id
 aJr:x.aJr.size<=maxLen
 Top:x.Top.size<=maxLen
 aJl:inI x.aJl
 aJ:(x.aJ.length<=maxLen/\∀y∈x.aJ,M.aJ.ok y)
 aJn:M.aJn.ok x.aJn
def M.bD.sh:List Shp:=[.int .i64,.str,.str,.int .i64,.sl M.aJ.sh,.sl M.Instr.sh,.int .i64,.sl [.int .i64],.int .i64,.bool,.bool]
theorem M.bD.dK(d:List D)(h:sP M.bD.sh d):∃x,d=M.bD.en x/\M.bD.ok x:=by simp only[M.bD.sh,sP,Has]at h;obtain⟨_,_,rfl,⟨j,rfl,w1⟩,_,_,rfl,⟨C,rfl,w2⟩,_,_,rfl,⟨I,rfl,w3⟩,_,_,rfl,⟨J,rfl,w4⟩,_,_,rfl,⟨_,rfl,w5,q5⟩,_,_,rfl,⟨_,rfl,w6,q6⟩,_,_,rfl,⟨a7,rfl,w7⟩,_,_,rfl,⟨_,rfl,w8,q8⟩,_,_,rfl,⟨a9,rfl,w9⟩,_,_,rfl,⟨aa,rfl⟩,_,_,rfl,⟨ae,rfl⟩,rfl⟩:=h;obtain⟨U,rfl,e5⟩:=bH M.aJ.dK q5;obtain⟨a6,rfl,e6⟩:=bH M.Instr.dK q6;obtain⟨a8,rfl,e8⟩:=bH Zu q8;exact⟨⟨j,C,I,J,U,⟨a6,a7,a8,a9,aa,ae⟩⟩,rfl,⟨wf_i64 w1,w2,w3,wf_i64 w4,⟨by simpa using w5,e5⟩,⟨⟨by simpa using w6,e6⟩,wf_i64 w7,⟨by simpa using w8,e8⟩,wf_i64 w9⟩⟩⟩
def M.bD.sz(x:M.bD):Nat:=x.aJr.size+(x.Top.size+((x.aJ.length+bA M.aJ.sz x.aJ)+(M.aJn.sz x.aJn)))
theorem M.bD.rM(x:M.bD)(j:M.bD.ok x):Sz (B8 x) (M.bD.sz x):=by intro l a b;unfold B8 M.bD.sz;exact(Sz.Gm j.aJr (Sz.Gm j.Top (Sz.zG (M.Ht.rM _ j.aJ) (Sz.call (M.aJn.rM _ j.aJn))))) l a b
theorem M.bD.pO(x:M.bD)(j:M.bD.ok x)(C:M.bD.sz x<=1048576):BK x=some x:=by unfold M.bD.sz at C;unfold BK;rw[M.Ht.pO _ j.aJ jD,qA,M.aJn.pO _ j.aJn jD,qA]
theorem M.bD.pL(x:M.bD)(j:M.bD.ok x):BW x x=some true:=by simp[BW,M.Ht.pL _ j.aJ,M.aJn.pL _ j.aJn]
theorem M.PB.rM(xs:List M.bD)(j:(xs.length<=maxLen/\∀y∈xs,M.bD.ok y)):Sz (EH xs) (xs.length+bA M.bD.sz xs):=GB j (λy h=>M.bD.rM y h)
theorem M.PB.pO(xs:List M.bD)(C:(xs.length<=maxLen/\∀y∈xs,M.bD.ok y))(j:(xs.length+bA M.bD.sz xs)<=1048576):EI xs=some xs:=FV C j jG (λy h z=>M.bD.pO y h z)
theorem M.PB.pL(xs:List M.bD)(j:(xs.length<=maxLen/\∀y∈xs,M.bD.ok y)):EJ xs xs=some true:=Fu j (λy h=>M.bD.pL y h)
structure M.eO.ok (x:M.eO):Prop where
 Name:x.Name.size<=maxLen
 bD:inI x.bD
def M.eO.sh:List Shp:=[.str,.int .i64,.bool,.bool]
theorem M.eO.dK(d:List D)(h:sP M.eO.sh d):∃x,d=M.eO.en x/\M.eO.ok x:=by simp only[M.eO.sh,sP,Has]at h;obtain⟨_,_,rfl,⟨j,rfl,U⟩,_,_,rfl,⟨C,rfl,w2⟩,_,_,rfl,⟨I,rfl⟩,_,_,rfl,⟨J,rfl⟩,rfl⟩:=h;exact⟨⟨j,C,I,J⟩,rfl,⟨U,wf_i64 w2⟩⟩
def M.eO.sz(x:M.eO):Nat:=x.Name.size
theorem M.eO.rM(x:M.eO)(j:M.eO.ok x):Sz (Cj x) (M.eO.sz x):=by intro l a b;unfold Cj M.eO.sz;exact(Sz.str j.Name) l a b
theorem M.eO.pO(x:M.eO)(C:M.eO.ok x)(j:M.eO.sz x<=1048576):BU x=some x:=by unfold M.eO.sz at j;unfold BU;rfl
theorem M.eO.pL(x:M.eO)(j:M.eO.ok x):Cc x x=some true:=by simp[Cc]
theorem M.PG.rM(xs:List M.eO)(j:(xs.length<=maxLen/\∀y∈xs,M.eO.ok y)):Sz (EG xs) (xs.length+bA M.eO.sz xs):=GB j (λy h=>M.eO.rM y h)
theorem M.PG.pO(xs:List M.eO)(C:(xs.length<=maxLen/\∀y∈xs,M.eO.ok y))(j:(xs.length+bA M.eO.sz xs)<=1048576):EF xs=some xs:=FV C j jG (λy h z=>M.eO.pO y h z)
theorem M.PG.pL(xs:List M.eO)(j:(xs.length<=maxLen/\∀y∈xs,M.eO.ok y)):ED xs xs=some true:=Fu j (λy h=>M.eO.pL y h)
structure M.aP.ok (x:M.aP):Prop where
 aJ3:(x.aJ3.length<=maxLen/\∀y∈x.aJ3,M.eO.ok y)
def M.aP.sh:List Shp:=[.sl M.eO.sh]
theorem M.aP.dK(d:List D)(h:sP M.aP.sh d):∃x,d=M.aP.en x/\M.aP.ok x:=by simp only[M.aP.sh,sP,Has]at h;obtain⟨_,_,rfl,⟨_,rfl,I,C⟩,rfl⟩:=h;obtain⟨j,rfl,e1⟩:=bH M.eO.dK C;exact⟨⟨j⟩,rfl,⟨⟨by simpa using I,e1⟩⟩⟩
def M.aP.sz(x:M.aP):Nat:=x.aJ3.length+bA M.eO.sz x.aJ3
theorem M.aP.rM(x:M.aP)(j:M.aP.ok x):Sz (vA x) (M.aP.sz x):=by intro l a b;unfold vA M.aP.sz;exact(Sz.call (M.PG.rM _ j.aJ3)) l a b
theorem M.aP.pO(x:M.aP)(C:M.aP.ok x)(j:M.aP.sz x<=1048576):vC x=some x:=by unfold M.aP.sz at j;unfold vC;rw[M.PG.pO _ C.aJ3 jD,qA]
theorem M.aP.pL(x:M.aP)(j:M.aP.ok x):vJ x x=some true:=by simp[vJ,M.PG.pL _ j.aJ3]
structure M.iU.ok (x:M.iU):Prop where
 To:inI x.To
 aKm:inI x.aKm
 N:inI x.N
def M.iU.sh:List Shp:=[.int .i64,.int .i64,.int .i64]
theorem M.iU.dK(d:List D)(h:sP M.iU.sh d):∃x,d=M.iU.en x/\M.iU.ok x:=by simp only[M.iU.sh,sP,Has]at h;obtain⟨_,_,rfl,⟨j,rfl,J⟩,_,_,rfl,⟨C,rfl,U⟩,_,_,rfl,⟨I,rfl,w3⟩,rfl⟩:=h;exact⟨⟨j,C,I⟩,rfl,⟨wf_i64 J,wf_i64 U,wf_i64 w3⟩⟩
theorem M.iU.pO(x:M.iU)(j:M.iU.ok x):B4 x=some x:=by unfold B4;rfl
theorem M.iU.pL(x:M.iU)(j:M.iU.ok x):Cf x x=some true:=by simp[Cf]
theorem M.Qs.rM(xs:List M.iU)(j:(xs.length<=maxLen/\∀y∈xs,M.iU.ok y)):Sz (CF xs) (xs.length):=by intro l a b;unfold CF;exact(Sz.str j.1) l a b
theorem M.Qs.pO(xs:List M.iU)(C:(xs.length<=maxLen/\∀y∈xs,M.iU.ok y))(j:xs.length<=1048576):EB xs=some xs:=UZ C j jG (λy h=>M.iU.pO y h)
theorem M.Qs.pL(xs:List M.iU)(j:(xs.length<=maxLen/\∀y∈xs,M.iU.ok y)):EM xs xs=some true:=Fu j (λy h=>M.iU.pL y h)
structure M.aJu.ok (x:M.aJu):Prop where
 aKM:(x.aKM.length<=maxLen/\∀y∈x.aKM,M.iU.ok y)
def M.aJu.sh:List Shp:=[.sl M.iU.sh]
theorem M.aJu.dK(d:List D)(h:sP M.aJu.sh d):∃x,d=M.aJu.en x/\M.aJu.ok x:=by simp only[M.aJu.sh,sP,Has]at h;obtain⟨_,_,rfl,⟨_,rfl,I,C⟩,rfl⟩:=h;obtain⟨j,rfl,e1⟩:=bH M.iU.dK C;exact⟨⟨j⟩,rfl,⟨⟨by simpa using I,e1⟩⟩⟩
def M.aJu.sz(x:M.aJu):Nat:=x.aKM.length
theorem M.aJu.rM(x:M.aJu)(j:M.aJu.ok x):Sz (Aj x) (M.aJu.sz x):=by intro l a b;unfold Aj M.aJu.sz;exact(Sz.call (M.Qs.rM _ j.aKM)) l a b
theorem M.aJu.pO(x:M.aJu)(C:M.aJu.ok x)(j:M.aJu.sz x<=1048576):zV x=some x:=by unfold M.aJu.sz at j;unfold zV;rw[M.Qs.pO _ C.aKM jD,qA]
theorem M.aJu.pL(x:M.aJu)(j:M.aJu.ok x):Ab x x=some true:=by simp[Ab,M.Qs.pL _ j.aKM]
theorem M.DB.rM(xs:List ByteArray)(j:okS xs):Sz (zM xs) (xs.length+bA ByteArray.size xs):=by intro l a b;unfold zM;exact(Sz.strs j (λ_ _ _=>rfl)) l a b
theorem M.DB.pO(xs:List ByteArray)(j:okS xs)(J:(xs.length+bA ByteArray.size xs)<=1048576):Al xs=some xs:=by have C:=le_max j.1;unfold Al;rw[TR jD jD,qA];refine Ro j.1 (λn k r hk I=> ?_) (λn r=> ?_) fuel 0 _ jI jD jF jF;(simp only[nV];rw[if_pos (bE hk),aH hk,qA,aH jD,qA,bG jD,qH]);·simp only[nV];rw[if_neg jK]
theorem M.DB.pL(xs:List ByteArray)(j:okS xs):Ah xs xs=some true:=by have C:=le_max j.1;unfold Ah;rw[if_neg jF];refine QR j.1 (λn k hk=> ?_) (λn=> ?_) fuel 0 jI jD;(simp only[nX];rw[if_pos (bE hk),aH hk];simp[bG (show k<9223372036854775807 by omega)]);·simp only[nX];rw[if_neg jK]
structure M.aJr.ok (x:M.aJr):Prop where
 Name:x.Name.size<=maxLen
 aJl:inI x.aJl
 aKJ:okS x.aKJ
def M.aJr.sh:List Shp:=[.str,.int .i64,.sl [.str],.bool]
theorem M.aJr.dK(d:List D)(h:sP M.aJr.sh d):∃x,d=M.aJr.en x/\M.aJr.ok x:=by simp only[M.aJr.sh,sP,Has]at h;obtain⟨_,_,rfl,⟨j,rfl,w1⟩,_,_,rfl,⟨C,rfl,w2⟩,_,_,rfl,⟨_,rfl,w3,U⟩,_,_,rfl,⟨J,rfl⟩,rfl⟩:=h;obtain⟨I,rfl,e3⟩:=bH aCo U;exact⟨⟨j,C,I,J⟩,rfl,⟨w1,wf_i64 w2,⟨by simpa using w3,e3⟩⟩⟩
def M.aJr.sz(x:M.aJr):Nat:=x.Name.size+(x.aKJ.length+bA ByteArray.size x.aKJ)
theorem M.aJr.rM(x:M.aJr)(j:M.aJr.ok x):Sz (BM x) (M.aJr.sz x):=by intro l a b;unfold BM M.aJr.sz;exact(Sz.Gm j.Name (Sz.call (M.DB.rM _ j.aKJ))) l a b
theorem M.aJr.pO(x:M.aJr)(C:M.aJr.ok x)(j:M.aJr.sz x<=1048576):BZ x=some x:=by unfold M.aJr.sz at j;unfold BZ;rw[M.DB.pO _ C.aKJ jD,qA]
theorem M.aJr.pL(x:M.aJr)(j:M.aJr.ok x):BJ x x=some true:=by simp[BJ,M.DB.pL _ j.aKJ]
theorem M.Py.rM(xs:List M.aJr)(j:(xs.length<=maxLen/\∀y∈xs,M.aJr.ok y)):Sz (ET xs) (xs.length+bA M.aJr.sz xs):=GB j (λy h=>M.aJr.rM y h)
theorem M.Py.pO(xs:List M.aJr)(C:(xs.length<=maxLen/\∀y∈xs,M.aJr.ok y))(j:(xs.length+bA M.aJr.sz xs)<=1048576):EK xs=some xs:=FV C j jG (λy h z=>M.aJr.pO y h z)
theorem M.Py.pL(xs:List M.aJr)(j:(xs.length<=maxLen/\∀y∈xs,M.aJr.ok y)):EU xs xs=some true:=Fu j (λy h=>M.aJr.pL y h)
structure M.aK.ok (x:M.aK):Prop where
 aJy:inI x.aJy
 Seq:inI x.Seq
def M.aK.sh:List Shp:=[.int .i64,.int .i64]
theorem M.aK.dK(d:List D)(h:sP M.aK.sh d):∃x,d=M.aK.en x/\M.aK.ok x:=by simp only[M.aK.sh,sP,Has]at h;obtain⟨_,_,rfl,⟨j,rfl,I⟩,_,_,rfl,⟨C,rfl,J⟩,rfl⟩:=h;exact⟨⟨j,C⟩,rfl,⟨wf_i64 I,wf_i64 J⟩⟩
theorem M.aK.pO(x:M.aK)(j:M.aK.ok x):uH x=some x:=by unfold uH;rfl
theorem M.aK.pL(x:M.aK)(j:M.aK.ok x):tQ x x=some true:=by simp[tQ]
theorem M.FI.rM(xs:List M.aK)(j:(xs.length<=maxLen/\∀y∈xs,M.aK.ok y)):Sz (xV xs) (xs.length):=by intro l a b;unfold xV;exact(Sz.str j.1) l a b
theorem M.FI.pO(xs:List M.aK)(C:(xs.length<=maxLen/\∀y∈xs,M.aK.ok y))(j:xs.length<=1048576):B9 xs=some xs:=UZ C j jG (λy h=>M.aK.pO y h)
theorem M.FI.pL(xs:List M.aK)(j:(xs.length<=maxLen/\∀y∈xs,M.aK.ok y)):BT xs xs=some true:=Fu j (λy h=>M.aK.pL y h)
structure M.aJv.ok (x:M.aJv):Prop where
 aD:M.aD.ok x.aD
 aK:(x.aK.length<=maxLen/\∀y∈x.aK,M.aK.ok y)
 aKH:(x.aKH.length<=maxLen/\∀y∈x.aKH,M.aY.ok y)
def M.aJv.sh:List Shp:=[.str,.sl M.aJt.sh,.int .i64,.sl M.aK.sh,.sl M.aY.sh]
theorem M.aJv.dK(d:List D)(h:sP M.aJv.sh d):∃x,d=M.aJv.en x/\M.aJv.ok x:=by simp only[M.aJv.sh,sP,Has]at h;obtain⟨_,_,rfl,⟨j,rfl,w1⟩,_,_,rfl,⟨_,rfl,w2,q2⟩,_,_,rfl,⟨I,rfl,w3⟩,_,_,rfl,⟨_,rfl,w4,q4⟩,_,_,rfl,⟨_,rfl,w5,q5⟩,rfl⟩:=h;obtain⟨C,rfl,e2⟩:=bH M.aJt.dK q2;obtain⟨J,rfl,e4⟩:=bH M.aK.dK q4;obtain⟨U,rfl,e5⟩:=bH M.aY.dK q5;exact⟨⟨⟨j,C,I⟩,J,U⟩,rfl,⟨⟨w1,⟨by simpa using w2,e2⟩,wf_i64 w3⟩,⟨by simpa using w4,e4⟩,⟨by simpa using w5,e5⟩⟩⟩
def M.aJv.sz(x:M.aJv):Nat:=M.aD.sz x.aD+(x.aK.length+(x.aKH.length+bA M.aY.sz x.aKH))
theorem M.aJv.rM(x:M.aJv)(j:M.aJv.ok x):Sz (wU x) (M.aJv.sz x):=by intro l a b;unfold wU M.aJv.sz;exact(Sz.zG (M.aD.rM _ j.aD) (Sz.zG (M.FI.rM _ j.aK) (Sz.call (M.Gr.rM _ j.aKH)))) l a b
theorem M.aJv.pO(x:M.aJv)(j:M.aJv.ok x)(C:M.aJv.sz x<=1048576):yG x=some x:=by unfold M.aJv.sz at C;unfold yG;rw[M.aD.pO _ j.aD jD,qA,M.FI.pO _ j.aK jD,qA,M.Gr.pO _ j.aKH jD,qA]
theorem M.aJv.pL(x:M.aJv)(j:M.aJv.ok x):xE x x=some true:=by simp[xE,M.aD.pL _ j.aD,M.FI.pL _ j.aK,M.Gr.pL _ j.aKH]
theorem M.HA.rM(xs:List M.aJv)(j:(xs.length<=maxLen/\∀y∈xs,M.aJv.ok y)):Sz (Dg xs) (xs.length+bA M.aJv.sz xs):=GB j (λy h=>M.aJv.rM y h)
theorem M.HA.pO(xs:List M.aJv)(C:(xs.length<=maxLen/\∀y∈xs,M.aJv.ok y))(j:(xs.length+bA M.aJv.sz xs)<=1048576):C0 xs=some xs:=FV C j jG (λy h z=>M.aJv.pO y h z)
theorem M.HA.pL(xs:List M.aJv)(j:(xs.length<=maxLen/\∀y∈xs,M.aJv.ok y)):Da xs xs=some true:=Fu j (λy h=>M.aJv.pL y h)
structure M.World.ok (x:M.World):Prop where
 Now:inI x.Now
 aJy:inI x.aJy
 aA:M.aA.ok x.aA
 aJ2:(x.aJ2.length<=maxLen/\∀y∈x.aJ2,M.bD.ok y)
 aJ4:inI x.aJ4
 aJ3:M.aP.ok x.aJ3
 aJu:M.aJu.ok x.aJu
 aKE:(x.aKE.length<=maxLen/\∀y∈x.aKE,M.aJr.ok y)
 aJ6:(x.aJ6.length<=maxLen/\∀y∈x.aJ6,M.aJv.ok y)
def M.World.sh:List Shp:=[.int .i64,.bool,.int .i64,.sl M.aJi.sh,.sl M.bD.sh,.int .i64,.sl M.eO.sh,.sl M.iU.sh,.sl M.aJr.sh,.sl M.aJv.sh]
theorem M.World.dK(d:List D)(h:sP M.World.sh d):∃x,d=M.World.en x/\M.World.ok x:=by simp only[M.World.sh,sP,Has]at h;obtain⟨_,_,rfl,⟨j,rfl,w1⟩,_,_,rfl,⟨C,rfl⟩,_,_,rfl,⟨I,rfl,w3⟩,_,_,rfl,⟨_,rfl,w4,q4⟩,_,_,rfl,⟨_,rfl,w5,q5⟩,_,_,rfl,⟨a6,rfl,w6⟩,_,_,rfl,⟨_,rfl,w7,q7⟩,_,_,rfl,⟨_,rfl,w8,q8⟩,_,_,rfl,⟨_,rfl,w9,q9⟩,_,_,rfl,⟨_,rfl,aa,ae⟩,rfl⟩:=h;obtain⟨J,rfl,e4⟩:=bH M.aJi.dK q4;obtain⟨U,rfl,e5⟩:=bH M.bD.dK q5;obtain⟨a7,rfl,e7⟩:=bH M.eO.dK q7;obtain⟨a8,rfl,e8⟩:=bH M.iU.dK q8;obtain⟨a9,rfl,e9⟩:=bH M.aJr.dK q9;obtain⟨af,rfl,ah⟩:=bH M.aJv.dK ae;exact⟨⟨j,C,I,⟨J⟩,U,a6,⟨a7⟩,⟨a8⟩,a9,af⟩,rfl,⟨wf_i64 w1,wf_i64 w3,⟨⟨by simpa using w4,e4⟩⟩,⟨by simpa using w5,e5⟩,wf_i64 w6,⟨⟨by simpa using w7,e7⟩⟩,⟨⟨by simpa using w8,e8⟩⟩,⟨by simpa using w9,e9⟩,⟨by simpa using aa,ah⟩⟩⟩
def M.World.sz(x:M.World):Nat:=M.aA.sz x.aA+((x.aJ2.length+bA M.bD.sz x.aJ2)+(M.aP.sz x.aJ3+(M.aJu.sz x.aJu+((x.aKE.length+bA M.aJr.sz x.aKE)+(x.aJ6.length+bA M.aJv.sz x.aJ6)))))
theorem M.World.rM(x:M.World)(j:M.World.ok x):Sz (CD x) (M.World.sz x):=by intro l a b;unfold CD M.World.sz;exact(Sz.zG (M.aA.rM _ j.aA) (Sz.zG (M.PB.rM _ j.aJ2) (Sz.zG (M.aP.rM _ j.aJ3) (Sz.zG (M.aJu.rM _ j.aJu) (Sz.zG (M.Py.rM _ j.aKE) (Sz.call (M.HA.rM _ j.aJ6))))))) l a b
theorem M.World.pO(x:M.World)(j:M.World.ok x)(C:M.World.sz x<=1048576):rX x=some x:=by unfold M.World.sz at C;unfold rX;rw[M.aA.pO _ j.aA jD,qA,M.PB.pO _ j.aJ2 jD,qA,M.aP.pO _ j.aJ3 jD,qA,M.aJu.pO _ j.aJu jD,qA,M.Py.pO _ j.aKE jD,qA,M.HA.pO _ j.aJ6 jD,qA]
theorem M.World.pL(x:M.World)(j:M.World.ok x):rT x x=some true:=by simp[rT,M.aA.pL _ j.aA,M.PB.pL _ j.aJ2,M.aP.pL _ j.aJ3,M.aJu.pL _ j.aJu,M.Py.pL _ j.aKE,M.HA.pL _ j.aJ6]
