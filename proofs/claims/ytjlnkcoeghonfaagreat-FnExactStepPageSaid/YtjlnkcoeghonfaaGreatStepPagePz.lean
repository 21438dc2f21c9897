/-
  Helper text. No conditions.
-/
import Derived.Test.YtjlnkcoeghonfaaGreatStepPageMod
set_option linter.all false
namespace Go.Proofs.YtjlnkcoeghonfaaGreat.gen
open Go Go.Sh
structure M.aJc.ok (x:M.aJc):Prop where
 aJj:x.aJj.size<=maxLen
 aJ9:inI x.aJ9
 aKE:inI x.aKE
 aKL:inI x.aKL
def M.aJc.sh:List Shp:=[.str,.int .i64,.int .i64,.int .i64]
theorem M.aJc.dJ(d:List D)(h:sM M.aJc.sh d):∃x,d=M.aJc.en x/\M.aJc.ok x:=by simp only[M.aJc.sh,sM,Has]at h;obtain⟨_,_,rfl,⟨j,rfl,U⟩,_,_,rfl,⟨C,rfl,w2⟩,_,_,rfl,⟨I,rfl,w3⟩,_,_,rfl,⟨J,rfl,w4⟩,rfl⟩:=h;exact⟨⟨j,C,I,J⟩,rfl,⟨U,wf_i64 w2,wf_i64 w3,wf_i64 w4⟩⟩
def M.aJc.sz(x:M.aJc):Nat:=x.aJj.size
theorem M.aJc.rH(x:M.aJc)(j:M.aJc.ok x):Sz (oU x) (M.aJc.sz x):=by intro l a b;unfold oU M.aJc.sz;exact(Sz.str j.aJj) l a b
theorem M.aJc.pJ(x:M.aJc)(C:M.aJc.ok x)(j:M.aJc.sz x<=1048576):pE x=some x:=by unfold M.aJc.sz at j;unfold pE;rfl
theorem M.aJc.pG(x:M.aJc)(j:M.aJc.ok x):pF x x=some true:=by simp[pF]
theorem M.He.rH(xs:List Int)(j:okB xs):Sz (As xs) (xs.length):=by intro l a b;unfold As;exact(Sz.str j.1) l a b
theorem M.He.pJ(xs:List Int)(j:okB xs)(J:xs.length<=1048576):AA xs=some xs:=by have C:=le_max j.1;unfold AA;rw[TJ jD jD,qA];refine Rk j.1 (λn k r hk I=> ?_) (λn r=> ?_) fuel 0 _ jI jD jF jF;(simp only[sB];rw[if_pos (bE hk),aH hk,qA,aH jD,qA,bG jD,qH]);·simp only[sB];rw[if_neg jK]
theorem M.He.pG(xs:List Int)(j:okB xs):AF xs xs=some true:=by have C:=le_max j.1;unfold AF;rw[if_neg jF];refine QN j.1 (λn k hk=> ?_) (λn=> ?_) fuel 0 jI jD;(simp only[rZ];rw[if_pos (bE hk),aH hk];simp[bG (show k<9223372036854775807 by omega)]);·simp only[rZ];rw[if_neg jK]
structure M.aJg.ok (x:M.aJg):Prop where
 aKU:inI x.aKU
 aKK:inI x.aKK
 aJd:inI x.aJd
 aKS:okB x.aKS
def M.aJg.sh:List Shp:=[.int .i64,.int .i64,.int .i64,.sl [.int .u8],.bool]
theorem M.aJg.dJ(d:List D)(h:sM M.aJg.sh d):∃x,d=M.aJg.en x/\M.aJg.ok x:=by simp only[M.aJg.sh,sM,Has]at h;obtain⟨_,_,rfl,⟨j,rfl,w1⟩,_,_,rfl,⟨C,rfl,w2⟩,_,_,rfl,⟨I,rfl,w3⟩,_,_,rfl,⟨_,rfl,w4,q4⟩,_,_,rfl,⟨U,rfl⟩,rfl⟩:=h;obtain⟨J,rfl,e4⟩:=bH Yd q4;exact⟨⟨j,C,I,J,U⟩,rfl,⟨wf_i64 w1,wf_i64 w2,wf_i64 w3,⟨by simpa using w4,e4⟩⟩⟩
def M.aJg.sz(x:M.aJg):Nat:=x.aKS.length
theorem M.aJg.rH(x:M.aJg)(j:M.aJg.ok x):Sz (xW x) (M.aJg.sz x):=by intro l a b;unfold xW M.aJg.sz;exact(Sz.call (M.He.rH _ j.aKS)) l a b
theorem M.aJg.pJ(x:M.aJg)(C:M.aJg.ok x)(j:M.aJg.sz x<=1048576):xI x=some x:=by unfold M.aJg.sz at j;unfold xI;rw[M.He.pJ _ C.aKS jD,qA]
theorem M.aJg.pG(x:M.aJg)(j:M.aJg.ok x):yB x x=some true:=by simp[yB,M.He.pG _ j.aKS]
structure M.aJo.ok (x:M.aJo):Prop where
 aJj:x.aJj.size<=maxLen
 aKG:x.aKG.size<=maxLen
 aJg:M.aJg.ok x.aJg
def M.aJo.sh:List Shp:=[.str,.str,.int .i64,.int .i64,.int .i64,.sl [.int .u8],.bool]
theorem M.aJo.dJ(d:List D)(h:sM M.aJo.sh d):∃x,d=M.aJo.en x/\M.aJo.ok x:=by simp only[M.aJo.sh,sM,Has]at h;obtain⟨_,_,rfl,⟨j,rfl,w1⟩,_,_,rfl,⟨C,rfl,w2⟩,_,_,rfl,⟨I,rfl,w3⟩,_,_,rfl,⟨J,rfl,w4⟩,_,_,rfl,⟨U,rfl,w5⟩,_,_,rfl,⟨_,rfl,w6,q6⟩,_,_,rfl,⟨a7,rfl⟩,rfl⟩:=h;obtain⟨a6,rfl,e6⟩:=bH Yd q6;exact⟨⟨j,C,⟨I,J,U,a6,a7⟩⟩,rfl,⟨w1,w2,⟨wf_i64 w3,wf_i64 w4,wf_i64 w5,⟨by simpa using w6,e6⟩⟩⟩⟩
def M.aJo.sz(x:M.aJo):Nat:=x.aJj.size+(x.aKG.size+(M.aJg.sz x.aJg))
theorem M.aJo.rH(x:M.aJo)(j:M.aJo.ok x):Sz (wU x) (M.aJo.sz x):=by intro l a b;unfold wU M.aJo.sz;exact(Sz.Gf j.aJj (Sz.Gf j.aKG (Sz.call (M.aJg.rH _ j.aJg)))) l a b
theorem M.aJo.pJ(x:M.aJo)(C:M.aJo.ok x)(j:M.aJo.sz x<=1048576):xL x=some x:=by unfold M.aJo.sz at j;unfold xL;rw[M.aJg.pJ _ C.aJg jD,qA]
theorem M.aJo.pG(x:M.aJo)(j:M.aJo.ok x):xP x x=some true:=by simp[xP,M.aJg.pG _ j.aJg]
theorem M.Hg.rH(xs:List M.aJo)(j:(xs.length<=maxLen/\∀y∈xs,M.aJo.ok y)):Sz (CQ xs) (xs.length+bA M.aJo.sz xs):=Gw j (λy h=>M.aJo.rH y h)
theorem M.Hg.pJ(xs:List M.aJo)(C:(xs.length<=maxLen/\∀y∈xs,M.aJo.ok y))(j:(xs.length+bA M.aJo.sz xs)<=1048576):C1 xs=some xs:=FO C j jG (λy h z=>M.aJo.pJ y h z)
theorem M.Hg.pG(xs:List M.aJo)(j:(xs.length<=maxLen/\∀y∈xs,M.aJo.ok y)):CW xs xs=some true:=Fk j (λy h=>M.aJo.pG y h)
structure M.aJs.ok (x:M.aJs):Prop where
 aJd:inI x.aJd
 aJt:(x.aJt.length<=maxLen/\∀y∈x.aJt,M.aJo.ok y)
def M.aJs.sh:List Shp:=[.int .i64,.sl M.aJo.sh]
theorem M.aJs.dJ(d:List D)(h:sM M.aJs.sh d):∃x,d=M.aJs.en x/\M.aJs.ok x:=by simp only[M.aJs.sh,sM,Has]at h;obtain⟨_,_,rfl,⟨j,rfl,J⟩,_,_,rfl,⟨_,rfl,U,I⟩,rfl⟩:=h;obtain⟨C,rfl,e2⟩:=bH M.aJo.dJ I;exact⟨⟨j,C⟩,rfl,⟨wf_i64 J,⟨by simpa using U,e2⟩⟩⟩
def M.aJs.sz(x:M.aJs):Nat:=x.aJt.length+bA M.aJo.sz x.aJt
theorem M.aJs.rH(x:M.aJs)(j:M.aJs.ok x):Sz (AH x) (M.aJs.sz x):=by intro l a b;unfold AH M.aJs.sz;exact(Sz.call (M.Hg.rH _ j.aJt)) l a b
theorem M.aJs.pJ(x:M.aJs)(C:M.aJs.ok x)(j:M.aJs.sz x<=1048576):Az x=some x:=by unfold M.aJs.sz at j;unfold Az;rw[M.Hg.pJ _ C.aJt jD,qA]
theorem M.aJs.pG(x:M.aJs)(j:M.aJs.ok x):AO x x=some true:=by simp[AO,M.Hg.pG _ j.aJt]
theorem M.Kd.rH(xs:List M.aJs)(j:(xs.length<=maxLen/\∀y∈xs,M.aJs.ok y)):Sz (D5 xs) (xs.length+bA M.aJs.sz xs):=Gw j (λy h=>M.aJs.rH y h)
theorem M.Kd.pJ(xs:List M.aJs)(C:(xs.length<=maxLen/\∀y∈xs,M.aJs.ok y))(j:(xs.length+bA M.aJs.sz xs)<=1048576):DS xs=some xs:=FO C j jG (λy h z=>M.aJs.pJ y h z)
theorem M.Kd.pG(xs:List M.aJs)(j:(xs.length<=maxLen/\∀y∈xs,M.aJs.ok y)):DR xs xs=some true:=Fk j (λy h=>M.aJs.pG y h)
structure M.aO.ok (x:M.aO):Prop where
 aJk:(x.aJk.length<=maxLen/\∀y∈x.aJk,M.aJs.ok y)
def M.aO.sh:List Shp:=[.sl M.aJs.sh]
theorem M.aO.dJ(d:List D)(h:sM M.aO.sh d):∃x,d=M.aO.en x/\M.aO.ok x:=by simp only[M.aO.sh,sM,Has]at h;obtain⟨_,_,rfl,⟨_,rfl,I,C⟩,rfl⟩:=h;obtain⟨j,rfl,e1⟩:=bH M.aJs.dJ C;exact⟨⟨j⟩,rfl,⟨⟨by simpa using I,e1⟩⟩⟩
def M.aO.sz(x:M.aO):Nat:=x.aJk.length+bA M.aJs.sz x.aJk
theorem M.aO.rH(x:M.aO)(j:M.aO.ok x):Sz (yO x) (M.aO.sz x):=by intro l a b;unfold yO M.aO.sz;exact(Sz.call (M.Kd.rH _ j.aJk)) l a b
theorem M.aO.pJ(x:M.aO)(C:M.aO.ok x)(j:M.aO.sz x<=1048576):xS x=some x:=by unfold M.aO.sz at j;unfold xS;rw[M.Kd.pJ _ C.aJk jD,qA]
theorem M.aO.pG(x:M.aO)(j:M.aO.ok x):xR x x=some true:=by simp[xR,M.Kd.pG _ j.aJk]
structure M.Key.ok (x:M.Key):Prop where
 aJr:inI x.aJr
 N:inI x.N
 aJ2:x.aJ2.size<=maxLen
def M.Key.sh:List Shp:=[.int .i64,.int .i64,.str]
theorem M.Key.dJ(d:List D)(h:sM M.Key.sh d):∃x,d=M.Key.en x/\M.Key.ok x:=by simp only[M.Key.sh,sM,Has]at h;obtain⟨_,_,rfl,⟨j,rfl,J⟩,_,_,rfl,⟨C,rfl,U⟩,_,_,rfl,⟨I,rfl,w3⟩,rfl⟩:=h;exact⟨⟨j,C,I⟩,rfl,⟨wf_i64 J,wf_i64 U,w3⟩⟩
def M.Key.sz(x:M.Key):Nat:=x.aJ2.size
theorem M.Key.rH(x:M.Key)(j:M.Key.ok x):Sz (Dm x) (M.Key.sz x):=by intro l a b;unfold Dm M.Key.sz;exact(Sz.str j.aJ2) l a b
theorem M.Key.pJ(x:M.Key)(C:M.Key.ok x)(j:M.Key.sz x<=1048576):Dk x=some x:=by unfold M.Key.sz at j;unfold Dk;rfl
theorem M.Key.pG(x:M.Key)(j:M.Key.ok x):Dl x x=some true:=by simp[Dl]
structure M.Field.ok (x:M.Field):Prop where
 Name:x.Name.size<=maxLen
 N:inI x.N
def M.Field.sh:List Shp:=[.str,.int .i64]
theorem M.Field.dJ(d:List D)(h:sM M.Field.sh d):∃x,d=M.Field.en x/\M.Field.ok x:=by simp only[M.Field.sh,sM,Has]at h;obtain⟨_,_,rfl,⟨j,rfl,I⟩,_,_,rfl,⟨C,rfl,J⟩,rfl⟩:=h;exact⟨⟨j,C⟩,rfl,⟨I,wf_i64 J⟩⟩
def M.Field.sz(x:M.Field):Nat:=x.Name.size
theorem M.Field.rH(x:M.Field)(j:M.Field.ok x):Sz (AD x) (M.Field.sz x):=by intro l a b;unfold AD M.Field.sz;exact(Sz.str j.Name) l a b
theorem M.Field.pJ(x:M.Field)(C:M.Field.ok x)(j:M.Field.sz x<=1048576):AK x=some x:=by unfold M.Field.sz at j;unfold AK;rfl
theorem M.Field.pG(x:M.Field)(j:M.Field.ok x):At x x=some true:=by simp[At]
theorem M.KO.rH(xs:List M.Field)(j:(xs.length<=maxLen/\∀y∈xs,M.Field.ok y)):Sz (Dy xs) (xs.length+bA M.Field.sz xs):=Gw j (λy h=>M.Field.rH y h)
theorem M.KO.pJ(xs:List M.Field)(C:(xs.length<=maxLen/\∀y∈xs,M.Field.ok y))(j:(xs.length+bA M.Field.sz xs)<=1048576):Eb xs=some xs:=FO C j jG (λy h z=>M.Field.pJ y h z)
theorem M.KO.pG(xs:List M.Field)(j:(xs.length<=maxLen/\∀y∈xs,M.Field.ok y)):DW xs xs=some true:=Fk j (λy h=>M.Field.pG y h)
structure M.aA.ok (x:M.aA):Prop where
 aJi:(x.aJi.length<=maxLen/\∀y∈x.aJi,M.Field.ok y)
def M.aA.sh:List Shp:=[.sl M.Field.sh]
theorem M.aA.dJ(d:List D)(h:sM M.aA.sh d):∃x,d=M.aA.en x/\M.aA.ok x:=by simp only[M.aA.sh,sM,Has]at h;obtain⟨_,_,rfl,⟨_,rfl,I,C⟩,rfl⟩:=h;obtain⟨j,rfl,e1⟩:=bH M.Field.dJ C;exact⟨⟨j⟩,rfl,⟨⟨by simpa using I,e1⟩⟩⟩
def M.aA.sz(x:M.aA):Nat:=x.aJi.length+bA M.Field.sz x.aJi
theorem M.aA.rH(x:M.aA)(j:M.aA.ok x):Sz (BA x) (M.aA.sz x):=by intro l a b;unfold BA M.aA.sz;exact(Sz.call (M.KO.rH _ j.aJi)) l a b
theorem M.aA.pJ(x:M.aA)(C:M.aA.ok x)(j:M.aA.sz x<=1048576):Bi x=some x:=by unfold M.aA.sz at j;unfold Bi;rw[M.KO.pJ _ C.aJi jD,qA]
theorem M.aA.pG(x:M.aA)(j:M.aA.ok x):Bt x x=some true:=by simp[Bt,M.KO.pG _ j.aJi]
structure M.aJl.ok (x:M.aJl):Prop where
 Key:M.Key.ok x.Key
 aA:M.aA.ok x.aA
def M.aJl.sh:List Shp:=[.int .i64,.int .i64,.str,.sl M.Field.sh]
theorem M.aJl.dJ(d:List D)(h:sM M.aJl.sh d):∃x,d=M.aJl.en x/\M.aJl.ok x:=by simp only[M.aJl.sh,sM,Has]at h;obtain⟨_,_,rfl,⟨j,rfl,w1⟩,_,_,rfl,⟨C,rfl,w2⟩,_,_,rfl,⟨I,rfl,w3⟩,_,_,rfl,⟨_,rfl,w4,U⟩,rfl⟩:=h;obtain⟨J,rfl,e4⟩:=bH M.Field.dJ U;exact⟨⟨⟨j,C,I⟩,⟨J⟩⟩,rfl,⟨⟨wf_i64 w1,wf_i64 w2,w3⟩,⟨⟨by simpa using w4,e4⟩⟩⟩⟩
def M.aJl.sz(x:M.aJl):Nat:=M.Key.sz x.Key+(M.aA.sz x.aA)
theorem M.aJl.rH(x:M.aJl)(j:M.aJl.ok x):Sz (B2 x) (M.aJl.sz x):=by intro l a b;unfold B2 M.aJl.sz;exact(Sz.zE (M.Key.rH _ j.Key) (Sz.call (M.aA.rH _ j.aA))) l a b
theorem M.aJl.pJ(x:M.aJl)(j:M.aJl.ok x)(C:M.aJl.sz x<=1048576):BE x=some x:=by unfold M.aJl.sz at C;unfold BE;rw[M.Key.pJ _ j.Key jD,qA,M.aA.pJ _ j.aA jD,qA]
theorem M.aJl.pG(x:M.aJl)(j:M.aJl.ok x):BH x x=some true:=by simp[BH,M.Key.pG _ j.Key,M.aA.pG _ j.aA]
theorem M.Lc.rH(xs:List M.aJl)(j:(xs.length<=maxLen/\∀y∈xs,M.aJl.ok y)):Sz (EK xs) (xs.length+bA M.aJl.sz xs):=Gw j (λy h=>M.aJl.rH y h)
theorem M.Lc.pJ(xs:List M.aJl)(C:(xs.length<=maxLen/\∀y∈xs,M.aJl.ok y))(j:(xs.length+bA M.aJl.sz xs)<=1048576):Ex xs=some xs:=FO C j jG (λy h z=>M.aJl.pJ y h z)
theorem M.Lc.pG(xs:List M.aJl)(j:(xs.length<=maxLen/\∀y∈xs,M.aJl.ok y)):EJ xs xs=some true:=Fk j (λy h=>M.aJl.pG y h)
structure M.aD.ok (x:M.aD):Prop where
 Name:x.Name.size<=maxLen
 aJe:(x.aJe.length<=maxLen/\∀y∈x.aJe,M.aJl.ok y)
 aJ7:inI x.aJ7
def M.aD.sh:List Shp:=[.str,.sl M.aJl.sh,.int .i64]
theorem M.aD.dJ(d:List D)(h:sM M.aD.sh d):∃x,d=M.aD.en x/\M.aD.ok x:=by simp only[M.aD.sh,sM,Has]at h;obtain⟨_,_,rfl,⟨j,rfl,U⟩,_,_,rfl,⟨_,rfl,w2,J⟩,_,_,rfl,⟨I,rfl,w3⟩,rfl⟩:=h;obtain⟨C,rfl,e2⟩:=bH M.aJl.dJ J;exact⟨⟨j,C,I⟩,rfl,⟨U,⟨by simpa using w2,e2⟩,wf_i64 w3⟩⟩
def M.aD.sz(x:M.aD):Nat:=x.Name.size+(x.aJe.length+bA M.aJl.sz x.aJe)
theorem M.aD.rH(x:M.aD)(j:M.aD.ok x):Sz (rL x) (M.aD.sz x):=by intro l a b;unfold rL M.aD.sz;exact(Sz.Gf j.Name (Sz.call (M.Lc.rH _ j.aJe))) l a b
theorem M.aD.pJ(x:M.aD)(C:M.aD.ok x)(j:M.aD.sz x<=1048576):rQ x=some x:=by unfold M.aD.sz at j;unfold rQ;rw[M.Lc.pJ _ C.aJe jD,qA]
theorem M.aD.pG(x:M.aD)(j:M.aD.ok x):rP x x=some true:=by simp[rP,M.Lc.pG _ j.aJe]
theorem M.J3.rH(xs:List M.aD)(j:(xs.length<=maxLen/\∀y∈xs,M.aD.ok y)):Sz (DP xs) (xs.length+bA M.aD.sz xs):=Gw j (λy h=>M.aD.rH y h)
theorem M.J3.pJ(xs:List M.aD)(C:(xs.length<=maxLen/\∀y∈xs,M.aD.ok y))(j:(xs.length+bA M.aD.sz xs)<=1048576):DC xs=some xs:=FO C j jG (λy h z=>M.aD.pJ y h z)
theorem M.J3.pG(xs:List M.aD)(j:(xs.length<=maxLen/\∀y∈xs,M.aD.ok y)):Dx xs xs=some true:=Fk j (λy h=>M.aD.pG y h)
structure M.aG.ok (x:M.aG):Prop where
 aD:x.aD.size<=maxLen
 Field:x.Field.size<=maxLen
def M.aG.sh:List Shp:=[.str,.str]
theorem M.aG.dJ(d:List D)(h:sM M.aG.sh d):∃x,d=M.aG.en x/\M.aG.ok x:=by simp only[M.aG.sh,sM,Has]at h;obtain⟨_,_,rfl,⟨j,rfl,I⟩,_,_,rfl,⟨C,rfl,J⟩,rfl⟩:=h;exact⟨⟨j,C⟩,rfl,⟨I,J⟩⟩
def M.aG.sz(x:M.aG):Nat:=x.aD.size+(x.Field.size)
theorem M.aG.rH(x:M.aG)(j:M.aG.ok x):Sz (rV x) (M.aG.sz x):=by intro l a b;unfold rV M.aG.sz;exact(Sz.Gf j.aD (Sz.str j.Field)) l a b
theorem M.aG.pJ(x:M.aG)(C:M.aG.ok x)(j:M.aG.sz x<=1048576):sE x=some x:=by unfold M.aG.sz at j;unfold sE;rfl
theorem M.aG.pG(x:M.aG)(j:M.aG.ok x):sD x x=some true:=by simp[sD]
theorem M.Ef.rH(xs:List M.aG)(j:(xs.length<=maxLen/\∀y∈xs,M.aG.ok y)):Sz (AU xs) (xs.length+bA M.aG.sz xs):=Gw j (λy h=>M.aG.rH y h)
theorem M.Ef.pJ(xs:List M.aG)(C:(xs.length<=maxLen/\∀y∈xs,M.aG.ok y))(j:(xs.length+bA M.aG.sz xs)<=1048576):A0 xs=some xs:=FO C j jG (λy h z=>M.aG.pJ y h z)
theorem M.Ef.pG(xs:List M.aG)(j:(xs.length<=maxLen/\∀y∈xs,M.aG.ok y)):AV xs xs=some true:=Fk j (λy h=>M.aG.pG y h)
structure M.aJb.ok (x:M.aJb):Prop where
 Name:x.Name.size<=maxLen
 aJd:inI x.aJd
 aJm:(x.aJm.length<=maxLen/\∀y∈x.aJm,M.aD.ok y)
 aJw:(x.aJw.length<=maxLen/\∀y∈x.aJw,M.aG.ok y)
def M.aJb.sh:List Shp:=[.str,.int .i64,.sl M.aD.sh,.sl M.aG.sh]
theorem M.aJb.dJ(d:List D)(h:sM M.aJb.sh d):∃x,d=M.aJb.en x/\M.aJb.ok x:=by simp only[M.aJb.sh,sM,Has]at h;obtain⟨_,_,rfl,⟨j,rfl,w1⟩,_,_,rfl,⟨C,rfl,w2⟩,_,_,rfl,⟨_,rfl,w3,U⟩,_,_,rfl,⟨_,rfl,w4,q4⟩,rfl⟩:=h;obtain⟨I,rfl,e3⟩:=bH M.aD.dJ U;obtain⟨J,rfl,e4⟩:=bH M.aG.dJ q4;exact⟨⟨j,C,I,J⟩,rfl,⟨w1,wf_i64 w2,⟨by simpa using w3,e3⟩,⟨by simpa using w4,e4⟩⟩⟩
def M.aJb.sz(x:M.aJb):Nat:=x.Name.size+((x.aJm.length+bA M.aD.sz x.aJm)+(x.aJw.length+bA M.aG.sz x.aJw))
theorem M.aJb.rH(x:M.aJb)(j:M.aJb.ok x):Sz (yH x) (M.aJb.sz x):=by intro l a b;unfold yH M.aJb.sz;exact(Sz.Gf j.Name (Sz.zE (M.J3.rH _ j.aJm) (Sz.call (M.Ef.rH _ j.aJw)))) l a b
theorem M.aJb.pJ(x:M.aJb)(j:M.aJb.ok x)(C:M.aJb.sz x<=1048576):wL x=some x:=by unfold M.aJb.sz at C;unfold wL;rw[M.J3.pJ _ j.aJm jD,qA,M.Ef.pJ _ j.aJw jD,qA]
theorem M.aJb.pG(x:M.aJb)(j:M.aJb.ok x):yK x x=some true:=by simp[yK,M.J3.pG _ j.aJm,M.Ef.pG _ j.aJw]
structure M.bL.ok (x:M.bL):Prop where
 aJz:M.aJb.ok x.aJz
 Log:okB x.Log
 aKJ:inI x.aKJ
def M.bL.sh:List Shp:=[.str,.int .i64,.sl M.aD.sh,.sl M.aG.sh,.sl [.int .u8],.int .i64]
theorem M.bL.dJ(d:List D)(h:sM M.bL.sh d):∃x,d=M.bL.en x/\M.bL.ok x:=by simp only[M.bL.sh,sM,Has]at h;obtain⟨_,_,rfl,⟨j,rfl,w1⟩,_,_,rfl,⟨C,rfl,w2⟩,_,_,rfl,⟨_,rfl,w3,q3⟩,_,_,rfl,⟨_,rfl,w4,q4⟩,_,_,rfl,⟨_,rfl,w5,q5⟩,_,_,rfl,⟨a6,rfl,w6⟩,rfl⟩:=h;obtain⟨I,rfl,e3⟩:=bH M.aD.dJ q3;obtain⟨J,rfl,e4⟩:=bH M.aG.dJ q4;obtain⟨U,rfl,e5⟩:=bH Yd q5;exact⟨⟨⟨j,C,I,J⟩,U,a6⟩,rfl,⟨⟨w1,wf_i64 w2,⟨by simpa using w3,e3⟩,⟨by simpa using w4,e4⟩⟩,⟨by simpa using w5,e5⟩,wf_i64 w6⟩⟩
def M.bL.sz(x:M.bL):Nat:=M.aJb.sz x.aJz+(x.Log.length)
theorem M.bL.rH(x:M.bL)(j:M.bL.ok x):Sz (Du x) (M.bL.sz x):=by intro l a b;unfold Du M.bL.sz;exact(Sz.zE (M.aJb.rH _ j.aJz) (Sz.call (M.He.rH _ j.Log))) l a b
theorem M.bL.pJ(x:M.bL)(j:M.bL.ok x)(C:M.bL.sz x<=1048576):D7 x=some x:=by unfold M.bL.sz at C;unfold D7;rw[M.aJb.pJ _ j.aJz jD,qA,M.He.pJ _ j.Log jD,qA]
theorem M.bL.pG(x:M.bL)(j:M.bL.ok x):DU x x=some true:=by simp[DU,M.aJb.pG _ j.aJz,M.He.pG _ j.Log]
structure M.aW.ok (x:M.aW):Prop where
 aJq:inI x.aJq
 Seq:inI x.Seq
 Key:M.Key.ok x.Key
 Field:x.Field.size<=maxLen
 N:inI x.N
def M.aW.sh:List Shp:=[.int .i64,.int .i64,.int .i64,.int .i64,.str,.str,.int .i64]
theorem M.aW.dJ(d:List D)(h:sM M.aW.sh d):∃x,d=M.aW.en x/\M.aW.ok x:=by simp only[M.aW.sh,sM,Has]at h;obtain⟨_,_,rfl,⟨j,rfl,w1⟩,_,_,rfl,⟨C,rfl,w2⟩,_,_,rfl,⟨I,rfl,w3⟩,_,_,rfl,⟨J,rfl,w4⟩,_,_,rfl,⟨U,rfl,w5⟩,_,_,rfl,⟨a6,rfl,w6⟩,_,_,rfl,⟨a7,rfl,w7⟩,rfl⟩:=h;exact⟨⟨j,C,⟨I,J,U⟩,a6,a7⟩,rfl,⟨wf_i64 w1,wf_i64 w2,⟨wf_i64 w3,wf_i64 w4,w5⟩,w6,wf_i64 w7⟩⟩
def M.aW.sz(x:M.aW):Nat:=M.Key.sz x.Key+(x.Field.size)
theorem M.aW.rH(x:M.aW)(j:M.aW.ok x):Sz (AG x) (M.aW.sz x):=by intro l a b;unfold AG M.aW.sz;exact(Sz.zE (M.Key.rH _ j.Key) (Sz.str j.Field)) l a b
theorem M.aW.pJ(x:M.aW)(C:M.aW.ok x)(j:M.aW.sz x<=1048576):AB x=some x:=by unfold M.aW.sz at j;unfold AB;rw[M.Key.pJ _ C.Key jD,qA]
theorem M.aW.pG(x:M.aW)(j:M.aW.ok x):Ax x x=some true:=by simp[Ax,M.Key.pG _ j.Key]
theorem M.Gl.rH(xs:List M.aW)(j:(xs.length<=maxLen/\∀y∈xs,M.aW.ok y)):Sz (Br xs) (xs.length+bA M.aW.sz xs):=Gw j (λy h=>M.aW.rH y h)
theorem M.Gl.pJ(xs:List M.aW)(C:(xs.length<=maxLen/\∀y∈xs,M.aW.ok y))(j:(xs.length+bA M.aW.sz xs)<=1048576):Bs xs=some xs:=FO C j jG (λy h z=>M.aW.pJ y h z)
theorem M.Gl.pG(xs:List M.aW)(j:(xs.length<=maxLen/\∀y∈xs,M.aW.ok y)):BB xs xs=some true:=Fk j (λy h=>M.aW.pG y h)
structure M.aM.ok (x:M.aM):Prop where
 aJq:inI x.aJq
 aKM:inI x.aKM
 aJ1:(x.aJ1.length<=maxLen/\∀y∈x.aJ1,M.aW.ok y)
def M.aM.sh:List Shp:=[.int .i64,.int .i64,.sl M.aW.sh]
theorem M.aM.dJ(d:List D)(h:sM M.aM.sh d):∃x,d=M.aM.en x/\M.aM.ok x:=by simp only[M.aM.sh,sM,Has]at h;obtain⟨_,_,rfl,⟨j,rfl,U⟩,_,_,rfl,⟨C,rfl,w2⟩,_,_,rfl,⟨_,rfl,w3,J⟩,rfl⟩:=h;obtain⟨I,rfl,e3⟩:=bH M.aW.dJ J;exact⟨⟨j,C,I⟩,rfl,⟨wf_i64 U,wf_i64 w2,⟨by simpa using w3,e3⟩⟩⟩
def M.aM.sz(x:M.aM):Nat:=x.aJ1.length+bA M.aW.sz x.aJ1
theorem M.aM.rH(x:M.aM)(j:M.aM.ok x):Sz (Bg x) (M.aM.sz x):=by intro l a b;unfold Bg M.aM.sz;exact(Sz.call (M.Gl.rH _ j.aJ1)) l a b
theorem M.aM.pJ(x:M.aM)(C:M.aM.ok x)(j:M.aM.sz x<=1048576):Bc x=some x:=by unfold M.aM.sz at j;unfold Bc;rw[M.Gl.pJ _ C.aJ1 jD,qA]
theorem M.aM.pG(x:M.aM)(j:M.aM.ok x):Bz x x=some true:=by simp[Bz,M.Gl.pG _ j.aJ1]
structure M.aJx.ok (x:M.aJx):Prop where
 aM:M.aM.ok x.aM
 aKP:inI x.aKP
 aKC:inI x.aKC
def M.aJx.sh:List Shp:=[.int .i64,.int .i64,.sl M.aW.sh,.int .i64,.int .i64]
theorem M.aJx.dJ(d:List D)(h:sM M.aJx.sh d):∃x,d=M.aJx.en x/\M.aJx.ok x:=by simp only[M.aJx.sh,sM,Has]at h;obtain⟨_,_,rfl,⟨j,rfl,w1⟩,_,_,rfl,⟨C,rfl,w2⟩,_,_,rfl,⟨_,rfl,w3,q3⟩,_,_,rfl,⟨J,rfl,w4⟩,_,_,rfl,⟨U,rfl,w5⟩,rfl⟩:=h;obtain⟨I,rfl,e3⟩:=bH M.aW.dJ q3;exact⟨⟨⟨j,C,I⟩,J,U⟩,rfl,⟨⟨wf_i64 w1,wf_i64 w2,⟨by simpa using w3,e3⟩⟩,wf_i64 w4,wf_i64 w5⟩⟩
def M.aJx.sz(x:M.aJx):Nat:=M.aM.sz x.aM
theorem M.aJx.rH(x:M.aJx)(j:M.aJx.ok x):Sz (D9 x) (M.aJx.sz x):=by intro l a b;unfold D9 M.aJx.sz;exact(Sz.call (M.aM.rH _ j.aM)) l a b
theorem M.aJx.pJ(x:M.aJx)(C:M.aJx.ok x)(j:M.aJx.sz x<=1048576):DX x=some x:=by unfold M.aJx.sz at j;unfold DX;rw[M.aM.pJ _ C.aM jD,qA]
theorem M.aJx.pG(x:M.aJx)(j:M.aJx.ok x):DE x x=some true:=by simp[DE,M.aM.pG _ j.aM]
structure M.aE.ok (x:M.aE):Prop where
 aJz:M.aD.ok x.aJz
 aKV:inI x.aKV
 aJx:M.aJx.ok x.aJx
def M.aE.sh:List Shp:=[.str,.sl M.aJl.sh,.int .i64,.int .i64,.int .i64,.int .i64,.sl M.aW.sh,.int .i64,.int .i64]
theorem M.aE.dJ(d:List D)(h:sM M.aE.sh d):∃x,d=M.aE.en x/\M.aE.ok x:=by simp only[M.aE.sh,sM,Has]at h;obtain⟨_,_,rfl,⟨j,rfl,w1⟩,_,_,rfl,⟨_,rfl,w2,q2⟩,_,_,rfl,⟨I,rfl,w3⟩,_,_,rfl,⟨J,rfl,w4⟩,_,_,rfl,⟨U,rfl,w5⟩,_,_,rfl,⟨a6,rfl,w6⟩,_,_,rfl,⟨_,rfl,w7,q7⟩,_,_,rfl,⟨a8,rfl,w8⟩,_,_,rfl,⟨a9,rfl,w9⟩,rfl⟩:=h;obtain⟨C,rfl,e2⟩:=bH M.aJl.dJ q2;obtain⟨a7,rfl,e7⟩:=bH M.aW.dJ q7;exact⟨⟨⟨j,C,I⟩,J,⟨⟨U,a6,a7⟩,a8,a9⟩⟩,rfl,⟨⟨w1,⟨by simpa using w2,e2⟩,wf_i64 w3⟩,wf_i64 w4,⟨⟨wf_i64 w5,wf_i64 w6,⟨by simpa using w7,e7⟩⟩,wf_i64 w8,wf_i64 w9⟩⟩⟩
def M.aE.sz(x:M.aE):Nat:=M.aD.sz x.aJz+(M.aJx.sz x.aJx)
theorem M.aE.rH(x:M.aE)(j:M.aE.ok x):Sz (Ai x) (M.aE.sz x):=by intro l a b;unfold Ai M.aE.sz;exact(Sz.zE (M.aD.rH _ j.aJz) (Sz.call (M.aJx.rH _ j.aJx))) l a b
theorem M.aE.pJ(x:M.aE)(j:M.aE.ok x)(C:M.aE.sz x<=1048576):Ac x=some x:=by unfold M.aE.sz at C;unfold Ac;rw[M.aD.pJ _ j.aJz jD,qA,M.aJx.pJ _ j.aJx jD,qA]
theorem M.aE.pG(x:M.aE)(j:M.aE.ok x):Ab x x=some true:=by simp[Ab,M.aD.pG _ j.aJz,M.aJx.pG _ j.aJx]
structure M.aJa.ok (x:M.aJa):Prop where
 aJj:x.aJj.size<=maxLen
 Top:x.Top.size<=maxLen
 aJc:M.aJc.ok x.aJc
 aJk:M.aO.ok x.aJk
 bL:M.bL.ok x.bL
 aE:M.aE.ok x.aE
 aJ4:inI x.aJ4
def M.aJa.sh:List Shp:=[.str,.str,.str,.int .i64,.int .i64,.int .i64,.sl M.aJs.sh,.str,.int .i64,.sl M.aD.sh,.sl M.aG.sh,.sl [.int .u8],.int .i64,.str,.sl M.aJl.sh,.int .i64,.int .i64,.int .i64,.int .i64,.sl M.aW.sh,.int .i64,.int .i64,.int .i64,.bool]
theorem M.aJa.dJ(d:List D)(h:sM M.aJa.sh d):∃x,d=M.aJa.en x/\M.aJa.ok x:=by simp only[M.aJa.sh,sM,Has]at h;obtain⟨_,_,rfl,⟨j,rfl,w1⟩,_,_,rfl,⟨C,rfl,w2⟩,_,_,rfl,⟨I,rfl,w3⟩,_,_,rfl,⟨J,rfl,w4⟩,_,_,rfl,⟨U,rfl,w5⟩,_,_,rfl,⟨a6,rfl,w6⟩,_,_,rfl,⟨_,rfl,w7,q7⟩,_,_,rfl,⟨a8,rfl,w8⟩,_,_,rfl,⟨a9,rfl,w9⟩,_,_,rfl,⟨_,rfl,aa,ae⟩,_,_,rfl,⟨_,rfl,af,ah⟩,_,_,rfl,⟨_,rfl,ai,aj⟩,_,_,rfl,⟨ak,rfl,al⟩,_,_,rfl,⟨ao,rfl,aq⟩,_,_,rfl,⟨_,rfl,ar,av⟩,_,_,rfl,⟨aw,rfl,ax⟩,_,_,rfl,⟨ay,rfl,az⟩,_,_,rfl,⟨ba,rfl,bd⟩,_,_,rfl,⟨bf,rfl,bg⟩,_,_,rfl,⟨_,rfl,bh,bj⟩,_,_,rfl,⟨bl,rfl,bm⟩,_,_,rfl,⟨bn,rfl,bo⟩,_,_,rfl,⟨bq,rfl,br⟩,_,_,rfl,⟨bt,rfl⟩,rfl⟩:=h;obtain⟨a7,rfl,e7⟩:=bH M.aJs.dJ q7;obtain⟨bu,rfl,bw⟩:=bH M.aD.dJ ae;obtain⟨bz,rfl,c5⟩:=bH M.aG.dJ ah;obtain⟨ca,rfl,cc⟩:=bH Yd aj;obtain⟨cd,rfl,cg⟩:=bH M.aJl.dJ av;obtain⟨cj,rfl,ck⟩:=bH M.aW.dJ bj;exact⟨⟨j,C,⟨I,J,U,a6⟩,⟨a7⟩,⟨⟨a8,a9,bu,bz⟩,ca,ak⟩,⟨⟨ao,cd,aw⟩,ay,⟨⟨ba,bf,cj⟩,bl,bn⟩⟩,bq,bt⟩,rfl,⟨w1,w2,⟨w3,wf_i64 w4,wf_i64 w5,wf_i64 w6⟩,⟨⟨by simpa using w7,e7⟩⟩,⟨⟨w8,wf_i64 w9,⟨by simpa using aa,bw⟩,⟨by simpa using af,c5⟩⟩,⟨by simpa using ai,cc⟩,wf_i64 al⟩,⟨⟨aq,⟨by simpa using ar,cg⟩,wf_i64 ax⟩,wf_i64 az,⟨⟨wf_i64 bd,wf_i64 bg,⟨by simpa using bh,ck⟩⟩,wf_i64 bm,wf_i64 bo⟩⟩,wf_i64 br⟩⟩
def M.aJa.sz(x:M.aJa):Nat:=x.aJj.size+(x.Top.size+(M.aJc.sz x.aJc+(M.aO.sz x.aJk+(M.bL.sz x.bL+(M.aE.sz x.aE)))))
theorem M.aJa.rH(x:M.aJa)(j:M.aJa.ok x):Sz (yJ x) (M.aJa.sz x):=by intro l a b;unfold yJ M.aJa.sz;exact(Sz.Gf j.aJj (Sz.Gf j.Top (Sz.zE (M.aJc.rH _ j.aJc) (Sz.zE (M.aO.rH _ j.aJk) (Sz.zE (M.bL.rH _ j.bL) (Sz.call (M.aE.rH _ j.aE))))))) l a b
theorem M.aJa.pJ(x:M.aJa)(j:M.aJa.ok x)(C:M.aJa.sz x<=1048576):xX x=some x:=by unfold M.aJa.sz at C;unfold xX;rw[M.aJc.pJ _ j.aJc jD,qA,M.aO.pJ _ j.aJk jD,qA,M.bL.pJ _ j.bL jD,qA,M.aE.pJ _ j.aE jD,qA]
theorem M.aJa.pG(x:M.aJa)(j:M.aJa.ok x):wZ x x=some true:=by simp[wZ,M.aJc.pG _ j.aJc,M.aO.pG _ j.aJk,M.bL.pG _ j.bL,M.aE.pG _ j.aE]
theorem M.Hp.rH(xs:List M.aJa)(j:(xs.length<=maxLen/\∀y∈xs,M.aJa.ok y)):Sz (CR xs) (xs.length+bA M.aJa.sz xs):=Gw j (λy h=>M.aJa.rH y h)
theorem M.Hp.pJ(xs:List M.aJa)(C:(xs.length<=maxLen/\∀y∈xs,M.aJa.ok y))(j:(xs.length+bA M.aJa.sz xs)<=1048576):C8 xs=some xs:=FO C j jG (λy h z=>M.aJa.pJ y h z)
theorem M.Hp.pG(xs:List M.aJa)(j:(xs.length<=maxLen/\∀y∈xs,M.aJa.ok y)):C5 xs xs=some true:=Fk j (λy h=>M.aJa.pG y h)
structure M.aC.ok (x:M.aC):Prop where
 aJh:(x.aJh.length<=maxLen/\∀y∈x.aJh,M.aJa.ok y)
def M.aC.sh:List Shp:=[.sl M.aJa.sh]
theorem M.aC.dJ(d:List D)(h:sM M.aC.sh d):∃x,d=M.aC.en x/\M.aC.ok x:=by simp only[M.aC.sh,sM,Has]at h;obtain⟨_,_,rfl,⟨_,rfl,I,C⟩,rfl⟩:=h;obtain⟨j,rfl,e1⟩:=bH M.aJa.dJ C;exact⟨⟨j⟩,rfl,⟨⟨by simpa using I,e1⟩⟩⟩
def M.aC.sz(x:M.aC):Nat:=x.aJh.length+bA M.aJa.sz x.aJh
theorem M.aC.rH(x:M.aC)(j:M.aC.ok x):Sz (zR x) (M.aC.sz x):=by intro l a b;unfold zR M.aC.sz;exact(Sz.call (M.Hp.rH _ j.aJh)) l a b
theorem M.aC.pJ(x:M.aC)(C:M.aC.ok x)(j:M.aC.sz x<=1048576):zX x=some x:=by unfold M.aC.sz at j;unfold zX;rw[M.Hp.pJ _ C.aJh jD,qA]
theorem M.aC.pG(x:M.aC)(j:M.aC.ok x):Ag x x=some true:=by simp[Ag,M.Hp.pG _ j.aJh]
structure M.aJ.ok (x:M.aJ):Prop where
 aKG:x.aKG.size<=maxLen
 aJd:inI x.aJd
def M.aJ.sh:List Shp:=[.str,.int .i64]
theorem M.aJ.dJ(d:List D)(h:sM M.aJ.sh d):∃x,d=M.aJ.en x/\M.aJ.ok x:=by simp only[M.aJ.sh,sM,Has]at h;obtain⟨_,_,rfl,⟨j,rfl,I⟩,_,_,rfl,⟨C,rfl,J⟩,rfl⟩:=h;exact⟨⟨j,C⟩,rfl,⟨I,wf_i64 J⟩⟩
def M.aJ.sz(x:M.aJ):Nat:=x.aKG.size
theorem M.aJ.rH(x:M.aJ)(j:M.aJ.ok x):Sz (wV x) (M.aJ.sz x):=by intro l a b;unfold wV M.aJ.sz;exact(Sz.str j.aKG) l a b
theorem M.aJ.pJ(x:M.aJ)(C:M.aJ.ok x)(j:M.aJ.sz x<=1048576):wM x=some x:=by unfold M.aJ.sz at j;unfold wM;rfl
theorem M.aJ.pG(x:M.aJ)(j:M.aJ.ok x):wN x x=some true:=by simp[wN]
theorem M.Hn.rH(xs:List M.aJ)(j:(xs.length<=maxLen/\∀y∈xs,M.aJ.ok y)):Sz (CS xs) (xs.length+bA M.aJ.sz xs):=Gw j (λy h=>M.aJ.rH y h)
theorem M.Hn.pJ(xs:List M.aJ)(C:(xs.length<=maxLen/\∀y∈xs,M.aJ.ok y))(j:(xs.length+bA M.aJ.sz xs)<=1048576):CT xs=some xs:=FO C j jG (λy h z=>M.aJ.pJ y h z)
theorem M.Hn.pG(xs:List M.aJ)(j:(xs.length<=maxLen/\∀y∈xs,M.aJ.ok y)):C7 xs xs=some true:=Fk j (λy h=>M.aJ.pG y h)
structure M.Instr.ok (x:M.Instr):Prop where
 aJr:inI x.aJr
 R:inI x.R
 N:inI x.N
 aJ2:x.aJ2.size<=maxLen
def M.Instr.sh:List Shp:=[.int .i64,.int .i64,.int .i64,.str]
theorem M.Instr.dJ(d:List D)(h:sM M.Instr.sh d):∃x,d=M.Instr.en x/\M.Instr.ok x:=by simp only[M.Instr.sh,sM,Has]at h;obtain⟨_,_,rfl,⟨j,rfl,U⟩,_,_,rfl,⟨C,rfl,w2⟩,_,_,rfl,⟨I,rfl,w3⟩,_,_,rfl,⟨J,rfl,w4⟩,rfl⟩:=h;exact⟨⟨j,C,I,J⟩,rfl,⟨wf_i64 U,wf_i64 w2,wf_i64 w3,w4⟩⟩
def M.Instr.sz(x:M.Instr):Nat:=x.aJ2.size
theorem M.Instr.rH(x:M.Instr)(j:M.Instr.ok x):Sz (Ar x) (M.Instr.sz x):=by intro l a b;unfold Ar M.Instr.sz;exact(Sz.str j.aJ2) l a b
theorem M.Instr.pJ(x:M.Instr)(C:M.Instr.ok x)(j:M.Instr.sz x<=1048576):AL x=some x:=by unfold M.Instr.sz at j;unfold AL;rfl
theorem M.Instr.pG(x:M.Instr)(j:M.Instr.ok x):Aq x x=some true:=by simp[Aq]
theorem M.Kv.rH(xs:List M.Instr)(j:(xs.length<=maxLen/\∀y∈xs,M.Instr.ok y)):Sz (DT xs) (xs.length+bA M.Instr.sz xs):=Gw j (λy h=>M.Instr.rH y h)
theorem M.Kv.pJ(xs:List M.Instr)(C:(xs.length<=maxLen/\∀y∈xs,M.Instr.ok y))(j:(xs.length+bA M.Instr.sz xs)<=1048576):Ec xs=some xs:=FO C j jG (λy h z=>M.Instr.pJ y h z)
theorem M.Kv.pG(xs:List M.Instr)(j:(xs.length<=maxLen/\∀y∈xs,M.Instr.ok y)):DQ xs xs=some true:=Fk j (λy h=>M.Instr.pG y h)
theorem M.Tc.rH(xs:List Int)(j:okI xs):Sz (DZ xs) (xs.length):=by intro l a b;unfold DZ;exact(Sz.str j.1) l a b
theorem M.Tc.pJ(xs:List Int)(j:okI xs)(J:xs.length<=1048576):DH xs=some xs:=by have C:=le_max j.1;unfold DH;rw[TJ jD jD,qA];refine Rk j.1 (λn k r hk I=> ?_) (λn r=> ?_) fuel 0 _ jI jD jF jF;(simp only[uI];rw[if_pos (bE hk),aH hk,qA,aH jD,qA,bG jD,qH]);·simp only[uI];rw[if_neg jK]
theorem M.Tc.pG(xs:List Int)(j:okI xs):DV xs xs=some true:=by have C:=le_max j.1;unfold DV;rw[if_neg jF];refine QN j.1 (λn k hk=> ?_) (λn=> ?_) fuel 0 jI jD;(simp only[tT];rw[if_pos (bE hk),aH hk];simp[bG (show k<9223372036854775807 by omega)]);·simp only[tT];rw[if_neg jK]
structure M.aJf.ok (x:M.aJf):Prop where
 aJ5:(x.aJ5.length<=maxLen/\∀y∈x.aJ5,M.Instr.ok y)
 Pc:inI x.Pc
 aKH:okI x.aKH
 aKO:inI x.aKO
def M.aJf.sh:List Shp:=[.sl M.Instr.sh,.int .i64,.sl [.int .i64],.int .i64,.bool,.bool]
theorem M.aJf.dJ(d:List D)(h:sM M.aJf.sh d):∃x,d=M.aJf.en x/\M.aJf.ok x:=by simp only[M.aJf.sh,sM,Has]at h;obtain⟨_,_,rfl,⟨_,rfl,w1,q1⟩,_,_,rfl,⟨C,rfl,w2⟩,_,_,rfl,⟨_,rfl,w3,q3⟩,_,_,rfl,⟨J,rfl,w4⟩,_,_,rfl,⟨U,rfl⟩,_,_,rfl,⟨a6,rfl⟩,rfl⟩:=h;obtain⟨j,rfl,e1⟩:=bH M.Instr.dJ q1;obtain⟨I,rfl,e3⟩:=bH Zm q3;exact⟨⟨j,C,I,J,U,a6⟩,rfl,⟨⟨by simpa using w1,e1⟩,wf_i64 w2,⟨by simpa using w3,e3⟩,wf_i64 w4⟩⟩
def M.aJf.sz(x:M.aJf):Nat:=(x.aJ5.length+bA M.Instr.sz x.aJ5)+(x.aKH.length)
theorem M.aJf.rH(x:M.aJf)(j:M.aJf.ok x):Sz (Al x) (M.aJf.sz x):=by intro l a b;unfold Al M.aJf.sz;exact(Sz.zE (M.Kv.rH _ j.aJ5) (Sz.call (M.Tc.rH _ j.aKH))) l a b
theorem M.aJf.pJ(x:M.aJf)(j:M.aJf.ok x)(C:M.aJf.sz x<=1048576):zU x=some x:=by unfold M.aJf.sz at C;unfold zU;rw[M.Kv.pJ _ j.aJ5 jD,qA,M.Tc.pJ _ j.aKH jD,qA]
theorem M.aJf.pG(x:M.aJf)(j:M.aJf.ok x):zL x x=some true:=by simp[zL,M.Kv.pG _ j.aJ5,M.Tc.pG _ j.aKH]
structure M.bD.ok (x:M.bD):Prop where
 Id:inI x.Id
 aJj:x.aJj.size<=maxLen
 Top:x.Top.size<=maxLen
 aJd:inI x.aJd
 aJ:(x.aJ.length<=maxLen/\∀y∈x.aJ,M.aJ.ok y)
 aJf:M.aJf.ok x.aJf
def M.bD.sh:List Shp:=[.int .i64,.str,.str,.int .i64,.sl M.aJ.sh,.sl M.Instr.sh,.int .i64,.sl [.int .i64],.int .i64,.bool,.bool]
theorem M.bD.dJ(d:List D)(h:sM M.bD.sh d):∃x,d=M.bD.en x/\M.bD.ok x:=by simp only[M.bD.sh,sM,Has]at h;obtain⟨_,_,rfl,⟨j,rfl,w1⟩,_,_,rfl,⟨C,rfl,w2⟩,_,_,rfl,⟨I,rfl,w3⟩,_,_,rfl,⟨J,rfl,w4⟩,_,_,rfl,⟨_,rfl,w5,q5⟩,_,_,rfl,⟨_,rfl,w6,q6⟩,_,_,rfl,⟨a7,rfl,w7⟩,_,_,rfl,⟨_,rfl,w8,q8⟩,_,_,rfl,⟨a9,rfl,w9⟩,_,_,rfl,⟨aa,rfl⟩,_,_,rfl,⟨ae,rfl⟩,rfl⟩:=h;obtain⟨U,rfl,e5⟩:=bH M.aJ.dJ q5;obtain⟨a6,rfl,e6⟩:=bH M.Instr.dJ q6;obtain⟨a8,rfl,e8⟩:=bH Zm q8;exact⟨⟨j,C,I,J,U,⟨a6,a7,a8,a9,aa,ae⟩⟩,rfl,⟨wf_i64 w1,w2,w3,wf_i64 w4,⟨by simpa using w5,e5⟩,⟨⟨by simpa using w6,e6⟩,wf_i64 w7,⟨by simpa using w8,e8⟩,wf_i64 w9⟩⟩⟩
def M.bD.sz(x:M.bD):Nat:=x.aJj.size+(x.Top.size+((x.aJ.length+bA M.aJ.sz x.aJ)+(M.aJf.sz x.aJf)))
theorem M.bD.rH(x:M.bD)(j:M.bD.ok x):Sz (B4 x) (M.bD.sz x):=by intro l a b;unfold B4 M.bD.sz;exact(Sz.Gf j.aJj (Sz.Gf j.Top (Sz.zE (M.Hn.rH _ j.aJ) (Sz.call (M.aJf.rH _ j.aJf))))) l a b
theorem M.bD.pJ(x:M.bD)(j:M.bD.ok x)(C:M.bD.sz x<=1048576):BG x=some x:=by unfold M.bD.sz at C;unfold BG;rw[M.Hn.pJ _ j.aJ jD,qA,M.aJf.pJ _ j.aJf jD,qA]
theorem M.bD.pG(x:M.bD)(j:M.bD.ok x):BS x x=some true:=by simp[BS,M.Hn.pG _ j.aJ,M.aJf.pG _ j.aJf]
theorem M.Px.rH(xs:List M.bD)(j:(xs.length<=maxLen/\∀y∈xs,M.bD.ok y)):Sz (EA xs) (xs.length+bA M.bD.sz xs):=Gw j (λy h=>M.bD.rH y h)
theorem M.Px.pJ(xs:List M.bD)(C:(xs.length<=maxLen/\∀y∈xs,M.bD.ok y))(j:(xs.length+bA M.bD.sz xs)<=1048576):EB xs=some xs:=FO C j jG (λy h z=>M.bD.pJ y h z)
theorem M.Px.pG(xs:List M.bD)(j:(xs.length<=maxLen/\∀y∈xs,M.bD.ok y)):EC xs xs=some true:=Fk j (λy h=>M.bD.pG y h)
structure M.fE.ok (x:M.fE):Prop where
 Name:x.Name.size<=maxLen
 bD:inI x.bD
def M.fE.sh:List Shp:=[.str,.int .i64,.bool,.bool]
theorem M.fE.dJ(d:List D)(h:sM M.fE.sh d):∃x,d=M.fE.en x/\M.fE.ok x:=by simp only[M.fE.sh,sM,Has]at h;obtain⟨_,_,rfl,⟨j,rfl,U⟩,_,_,rfl,⟨C,rfl,w2⟩,_,_,rfl,⟨I,rfl⟩,_,_,rfl,⟨J,rfl⟩,rfl⟩:=h;exact⟨⟨j,C,I,J⟩,rfl,⟨U,wf_i64 w2⟩⟩
def M.fE.sz(x:M.fE):Nat:=x.Name.size
theorem M.fE.rH(x:M.fE)(j:M.fE.ok x):Sz (Cf x) (M.fE.sz x):=by intro l a b;unfold Cf M.fE.sz;exact(Sz.str j.Name) l a b
theorem M.fE.pJ(x:M.fE)(C:M.fE.ok x)(j:M.fE.sz x<=1048576):BQ x=some x:=by unfold M.fE.sz at j;unfold BQ;rfl
theorem M.fE.pG(x:M.fE)(j:M.fE.ok x):B8 x x=some true:=by simp[B8]
theorem M.PC.rH(xs:List M.fE)(j:(xs.length<=maxLen/\∀y∈xs,M.fE.ok y)):Sz (Ez xs) (xs.length+bA M.fE.sz xs):=Gw j (λy h=>M.fE.rH y h)
theorem M.PC.pJ(xs:List M.fE)(C:(xs.length<=maxLen/\∀y∈xs,M.fE.ok y))(j:(xs.length+bA M.fE.sz xs)<=1048576):Ey xs=some xs:=FO C j jG (λy h z=>M.fE.pJ y h z)
theorem M.PC.pG(xs:List M.fE)(j:(xs.length<=maxLen/\∀y∈xs,M.fE.ok y)):Ew xs xs=some true:=Fk j (λy h=>M.fE.pG y h)
structure M.aQ.ok (x:M.aQ):Prop where
 aJv:(x.aJv.length<=maxLen/\∀y∈x.aJv,M.fE.ok y)
def M.aQ.sh:List Shp:=[.sl M.fE.sh]
theorem M.aQ.dJ(d:List D)(h:sM M.aQ.sh d):∃x,d=M.aQ.en x/\M.aQ.ok x:=by simp only[M.aQ.sh,sM,Has]at h;obtain⟨_,_,rfl,⟨_,rfl,I,C⟩,rfl⟩:=h;obtain⟨j,rfl,e1⟩:=bH M.fE.dJ C;exact⟨⟨j⟩,rfl,⟨⟨by simpa using I,e1⟩⟩⟩
def M.aQ.sz(x:M.aQ):Nat:=x.aJv.length+bA M.fE.sz x.aJv
theorem M.aQ.rH(x:M.aQ)(j:M.aQ.ok x):Sz (uY x) (M.aQ.sz x):=by intro l a b;unfold uY M.aQ.sz;exact(Sz.call (M.PC.rH _ j.aJv)) l a b
theorem M.aQ.pJ(x:M.aQ)(C:M.aQ.ok x)(j:M.aQ.sz x<=1048576):uZ x=some x:=by unfold M.aQ.sz at j;unfold uZ;rw[M.PC.pJ _ C.aJv jD,qA]
theorem M.aQ.pG(x:M.aQ)(j:M.aQ.ok x):vF x x=some true:=by simp[vF,M.PC.pG _ j.aJv]
structure M.kK.ok (x:M.kK):Prop where
 To:inI x.To
 aKe:inI x.aKe
 N:inI x.N
def M.kK.sh:List Shp:=[.int .i64,.int .i64,.int .i64]
theorem M.kK.dJ(d:List D)(h:sM M.kK.sh d):∃x,d=M.kK.en x/\M.kK.ok x:=by simp only[M.kK.sh,sM,Has]at h;obtain⟨_,_,rfl,⟨j,rfl,J⟩,_,_,rfl,⟨C,rfl,U⟩,_,_,rfl,⟨I,rfl,w3⟩,rfl⟩:=h;exact⟨⟨j,C,I⟩,rfl,⟨wf_i64 J,wf_i64 U,wf_i64 w3⟩⟩
theorem M.kK.pJ(x:M.kK)(j:M.kK.ok x):B0 x=some x:=by unfold B0;rfl
theorem M.kK.pG(x:M.kK)(j:M.kK.ok x):Cb x x=some true:=by simp[Cb]
theorem M.Qo.rH(xs:List M.kK)(j:(xs.length<=maxLen/\∀y∈xs,M.kK.ok y)):Sz (CA xs) (xs.length):=by intro l a b;unfold CA;exact(Sz.str j.1) l a b
theorem M.Qo.pJ(xs:List M.kK)(C:(xs.length<=maxLen/\∀y∈xs,M.kK.ok y))(j:xs.length<=1048576):Eu xs=some xs:=UT C j jG (λy h=>M.kK.pJ y h)
theorem M.Qo.pG(xs:List M.kK)(j:(xs.length<=maxLen/\∀y∈xs,M.kK.ok y)):EF xs xs=some true:=Fk j (λy h=>M.kK.pG y h)
structure M.aJp.ok (x:M.aJp):Prop where
 aKI:(x.aKI.length<=maxLen/\∀y∈x.aKI,M.kK.ok y)
def M.aJp.sh:List Shp:=[.sl M.kK.sh]
theorem M.aJp.dJ(d:List D)(h:sM M.aJp.sh d):∃x,d=M.aJp.en x/\M.aJp.ok x:=by simp only[M.aJp.sh,sM,Has]at h;obtain⟨_,_,rfl,⟨_,rfl,I,C⟩,rfl⟩:=h;obtain⟨j,rfl,e1⟩:=bH M.kK.dJ C;exact⟨⟨j⟩,rfl,⟨⟨by simpa using I,e1⟩⟩⟩
def M.aJp.sz(x:M.aJp):Nat:=x.aKI.length
theorem M.aJp.rH(x:M.aJp)(j:M.aJp.ok x):Sz (Ah x) (M.aJp.sz x):=by intro l a b;unfold Ah M.aJp.sz;exact(Sz.call (M.Qo.rH _ j.aKI)) l a b
theorem M.aJp.pJ(x:M.aJp)(C:M.aJp.ok x)(j:M.aJp.sz x<=1048576):zT x=some x:=by unfold M.aJp.sz at j;unfold zT;rw[M.Qo.pJ _ C.aKI jD,qA]
theorem M.aJp.pG(x:M.aJp)(j:M.aJp.ok x):zZ x x=some true:=by simp[zZ,M.Qo.pG _ j.aKI]
theorem M.Dv.rH(xs:List ByteArray)(j:okS xs):Sz (zK xs) (xs.length+bA ByteArray.size xs):=by intro l a b;unfold zK;exact(Sz.strs j (λ_ _ _=>rfl)) l a b
theorem M.Dv.pJ(xs:List ByteArray)(j:okS xs)(J:(xs.length+bA ByteArray.size xs)<=1048576):Aj xs=some xs:=by have C:=le_max j.1;unfold Aj;rw[TJ jD jD,qA];refine Rk j.1 (λn k r hk I=> ?_) (λn r=> ?_) fuel 0 _ jI jD jF jF;(simp only[nS];rw[if_pos (bE hk),aH hk,qA,aH jD,qA,bG jD,qH]);·simp only[nS];rw[if_neg jK]
theorem M.Dv.pG(xs:List ByteArray)(j:okS xs):Af xs xs=some true:=by have C:=le_max j.1;unfold Af;rw[if_neg jF];refine QN j.1 (λn k hk=> ?_) (λn=> ?_) fuel 0 jI jD;(simp only[nU];rw[if_pos (bE hk),aH hk];simp[bG (show k<9223372036854775807 by omega)]);·simp only[nU];rw[if_neg jK]
structure M.aJj.ok (x:M.aJj):Prop where
 Name:x.Name.size<=maxLen
 aJd:inI x.aJd
 aKA:okS x.aKA
def M.aJj.sh:List Shp:=[.str,.int .i64,.sl [.str],.bool]
theorem M.aJj.dJ(d:List D)(h:sM M.aJj.sh d):∃x,d=M.aJj.en x/\M.aJj.ok x:=by simp only[M.aJj.sh,sM,Has]at h;obtain⟨_,_,rfl,⟨j,rfl,w1⟩,_,_,rfl,⟨C,rfl,w2⟩,_,_,rfl,⟨_,rfl,w3,U⟩,_,_,rfl,⟨J,rfl⟩,rfl⟩:=h;obtain⟨I,rfl,e3⟩:=bH aCg U;exact⟨⟨j,C,I,J⟩,rfl,⟨w1,wf_i64 w2,⟨by simpa using w3,e3⟩⟩⟩
def M.aJj.sz(x:M.aJj):Nat:=x.Name.size+(x.aKA.length+bA ByteArray.size x.aKA)
theorem M.aJj.rH(x:M.aJj)(j:M.aJj.ok x):Sz (BI x) (M.aJj.sz x):=by intro l a b;unfold BI M.aJj.sz;exact(Sz.Gf j.Name (Sz.call (M.Dv.rH _ j.aKA))) l a b
theorem M.aJj.pJ(x:M.aJj)(C:M.aJj.ok x)(j:M.aJj.sz x<=1048576):BU x=some x:=by unfold M.aJj.sz at j;unfold BU;rw[M.Dv.pJ _ C.aKA jD,qA]
theorem M.aJj.pG(x:M.aJj)(j:M.aJj.ok x):BF x x=some true:=by simp[BF,M.Dv.pG _ j.aKA]
theorem M.Pu.rH(xs:List M.aJj)(j:(xs.length<=maxLen/\∀y∈xs,M.aJj.ok y)):Sz (EL xs) (xs.length+bA M.aJj.sz xs):=Gw j (λy h=>M.aJj.rH y h)
theorem M.Pu.pJ(xs:List M.aJj)(C:(xs.length<=maxLen/\∀y∈xs,M.aJj.ok y))(j:(xs.length+bA M.aJj.sz xs)<=1048576):ED xs=some xs:=FO C j jG (λy h z=>M.aJj.pJ y h z)
theorem M.Pu.pG(xs:List M.aJj)(j:(xs.length<=maxLen/\∀y∈xs,M.aJj.ok y)):EM xs xs=some true:=Fk j (λy h=>M.aJj.pG y h)
structure M.aK.ok (x:M.aK):Prop where
 aJq:inI x.aJq
 Seq:inI x.Seq
def M.aK.sh:List Shp:=[.int .i64,.int .i64]
theorem M.aK.dJ(d:List D)(h:sM M.aK.sh d):∃x,d=M.aK.en x/\M.aK.ok x:=by simp only[M.aK.sh,sM,Has]at h;obtain⟨_,_,rfl,⟨j,rfl,I⟩,_,_,rfl,⟨C,rfl,J⟩,rfl⟩:=h;exact⟨⟨j,C⟩,rfl,⟨wf_i64 I,wf_i64 J⟩⟩
theorem M.aK.pJ(x:M.aK)(j:M.aK.ok x):uG x=some x:=by unfold uG;rfl
theorem M.aK.pG(x:M.aK)(j:M.aK.ok x):tP x x=some true:=by simp[tP]
theorem M.FC.rH(xs:List M.aK)(j:(xs.length<=maxLen/\∀y∈xs,M.aK.ok y)):Sz (xT xs) (xs.length):=by intro l a b;unfold xT;exact(Sz.str j.1) l a b
theorem M.FC.pJ(xs:List M.aK)(C:(xs.length<=maxLen/\∀y∈xs,M.aK.ok y))(j:xs.length<=1048576):B5 xs=some xs:=UT C j jG (λy h=>M.aK.pJ y h)
theorem M.FC.pG(xs:List M.aK)(j:(xs.length<=maxLen/\∀y∈xs,M.aK.ok y)):BP xs xs=some true:=Fk j (λy h=>M.aK.pG y h)
structure M.aJn.ok (x:M.aJn):Prop where
 aD:M.aD.ok x.aD
 aK:(x.aK.length<=maxLen/\∀y∈x.aK,M.aK.ok y)
 aJ8:(x.aJ8.length<=maxLen/\∀y∈x.aJ8,M.aW.ok y)
def M.aJn.sh:List Shp:=[.str,.sl M.aJl.sh,.int .i64,.sl M.aK.sh,.sl M.aW.sh]
theorem M.aJn.dJ(d:List D)(h:sM M.aJn.sh d):∃x,d=M.aJn.en x/\M.aJn.ok x:=by simp only[M.aJn.sh,sM,Has]at h;obtain⟨_,_,rfl,⟨j,rfl,w1⟩,_,_,rfl,⟨_,rfl,w2,q2⟩,_,_,rfl,⟨I,rfl,w3⟩,_,_,rfl,⟨_,rfl,w4,q4⟩,_,_,rfl,⟨_,rfl,w5,q5⟩,rfl⟩:=h;obtain⟨C,rfl,e2⟩:=bH M.aJl.dJ q2;obtain⟨J,rfl,e4⟩:=bH M.aK.dJ q4;obtain⟨U,rfl,e5⟩:=bH M.aW.dJ q5;exact⟨⟨⟨j,C,I⟩,J,U⟩,rfl,⟨⟨w1,⟨by simpa using w2,e2⟩,wf_i64 w3⟩,⟨by simpa using w4,e4⟩,⟨by simpa using w5,e5⟩⟩⟩
def M.aJn.sz(x:M.aJn):Nat:=M.aD.sz x.aD+(x.aK.length+(x.aJ8.length+bA M.aW.sz x.aJ8))
theorem M.aJn.rH(x:M.aJn)(j:M.aJn.ok x):Sz (wR x) (M.aJn.sz x):=by intro l a b;unfold wR M.aJn.sz;exact(Sz.zE (M.aD.rH _ j.aD) (Sz.zE (M.FC.rH _ j.aK) (Sz.call (M.Gl.rH _ j.aJ8)))) l a b
theorem M.aJn.pJ(x:M.aJn)(j:M.aJn.ok x)(C:M.aJn.sz x<=1048576):yE x=some x:=by unfold M.aJn.sz at C;unfold yE;rw[M.aD.pJ _ j.aD jD,qA,M.FC.pJ _ j.aK jD,qA,M.Gl.pJ _ j.aJ8 jD,qA]
theorem M.aJn.pG(x:M.aJn)(j:M.aJn.ok x):xC x x=some true:=by simp[xC,M.aD.pG _ j.aD,M.FC.pG _ j.aK,M.Gl.pG _ j.aJ8]
theorem M.Ht.rH(xs:List M.aJn)(j:(xs.length<=maxLen/\∀y∈xs,M.aJn.ok y)):Sz (C9 xs) (xs.length+bA M.aJn.sz xs):=Gw j (λy h=>M.aJn.rH y h)
theorem M.Ht.pJ(xs:List M.aJn)(C:(xs.length<=maxLen/\∀y∈xs,M.aJn.ok y))(j:(xs.length+bA M.aJn.sz xs)<=1048576):CU xs=some xs:=FO C j jG (λy h z=>M.aJn.pJ y h z)
theorem M.Ht.pG(xs:List M.aJn)(j:(xs.length<=maxLen/\∀y∈xs,M.aJn.ok y)):C4 xs xs=some true:=Fk j (λy h=>M.aJn.pG y h)
structure M.World.ok (x:M.World):Prop where
 Now:inI x.Now
 aJq:inI x.aJq
 aC:M.aC.ok x.aC
 aJu:(x.aJu.length<=maxLen/\∀y∈x.aJu,M.bD.ok y)
 aJy:inI x.aJy
 aJv:M.aQ.ok x.aJv
 aJp:M.aJp.ok x.aJp
 aJ6:(x.aJ6.length<=maxLen/\∀y∈x.aJ6,M.aJj.ok y)
 aJ0:(x.aJ0.length<=maxLen/\∀y∈x.aJ0,M.aJn.ok y)
def M.World.sh:List Shp:=[.int .i64,.bool,.int .i64,.sl M.aJa.sh,.sl M.bD.sh,.int .i64,.sl M.fE.sh,.sl M.kK.sh,.sl M.aJj.sh,.sl M.aJn.sh]
theorem M.World.dJ(d:List D)(h:sM M.World.sh d):∃x,d=M.World.en x/\M.World.ok x:=by simp only[M.World.sh,sM,Has]at h;obtain⟨_,_,rfl,⟨j,rfl,w1⟩,_,_,rfl,⟨C,rfl⟩,_,_,rfl,⟨I,rfl,w3⟩,_,_,rfl,⟨_,rfl,w4,q4⟩,_,_,rfl,⟨_,rfl,w5,q5⟩,_,_,rfl,⟨a6,rfl,w6⟩,_,_,rfl,⟨_,rfl,w7,q7⟩,_,_,rfl,⟨_,rfl,w8,q8⟩,_,_,rfl,⟨_,rfl,w9,q9⟩,_,_,rfl,⟨_,rfl,aa,ae⟩,rfl⟩:=h;obtain⟨J,rfl,e4⟩:=bH M.aJa.dJ q4;obtain⟨U,rfl,e5⟩:=bH M.bD.dJ q5;obtain⟨a7,rfl,e7⟩:=bH M.fE.dJ q7;obtain⟨a8,rfl,e8⟩:=bH M.kK.dJ q8;obtain⟨a9,rfl,e9⟩:=bH M.aJj.dJ q9;obtain⟨af,rfl,ah⟩:=bH M.aJn.dJ ae;exact⟨⟨j,C,I,⟨J⟩,U,a6,⟨a7⟩,⟨a8⟩,a9,af⟩,rfl,⟨wf_i64 w1,wf_i64 w3,⟨⟨by simpa using w4,e4⟩⟩,⟨by simpa using w5,e5⟩,wf_i64 w6,⟨⟨by simpa using w7,e7⟩⟩,⟨⟨by simpa using w8,e8⟩⟩,⟨by simpa using w9,e9⟩,⟨by simpa using aa,ah⟩⟩⟩
def M.World.sz(x:M.World):Nat:=M.aC.sz x.aC+((x.aJu.length+bA M.bD.sz x.aJu)+(M.aQ.sz x.aJv+(M.aJp.sz x.aJp+((x.aJ6.length+bA M.aJj.sz x.aJ6)+(x.aJ0.length+bA M.aJn.sz x.aJ0)))))
theorem M.World.rH(x:M.World)(j:M.World.ok x):Sz (Cy x) (M.World.sz x):=by intro l a b;unfold Cy M.World.sz;exact(Sz.zE (M.aC.rH _ j.aC) (Sz.zE (M.Px.rH _ j.aJu) (Sz.zE (M.aQ.rH _ j.aJv) (Sz.zE (M.aJp.rH _ j.aJp) (Sz.zE (M.Pu.rH _ j.aJ6) (Sz.call (M.Ht.rH _ j.aJ0))))))) l a b
theorem M.World.pJ(x:M.World)(j:M.World.ok x)(C:M.World.sz x<=1048576):rR x=some x:=by unfold M.World.sz at C;unfold rR;rw[M.aC.pJ _ j.aC jD,qA,M.Px.pJ _ j.aJu jD,qA,M.aQ.pJ _ j.aJv jD,qA,M.aJp.pJ _ j.aJp jD,qA,M.Pu.pJ _ j.aJ6 jD,qA,M.Ht.pJ _ j.aJ0 jD,qA]
theorem M.World.pG(x:M.World)(j:M.World.ok x):rO x x=some true:=by simp[rO,M.aC.pG _ j.aC,M.Px.pG _ j.aJu,M.aQ.pG _ j.aJv,M.aJp.pG _ j.aJp,M.Pu.pG _ j.aJ6,M.Ht.pG _ j.aJ0]
