/-
  Helper text. No conditions.
-/
import Derived.Test.YtbpbocchokbggaaGreatWriteNoteMod
set_option linter.all false
namespace Go.Proofs.YtbpbocchokbggaaGreat.gen
open Go Go.Sh
structure M.aEL.ok (x:M.aEL):Prop where
 aET:x.aET.size<=maxLen
 aEn:inI x.aEn
 aEw:inI x.aEw
 aE0:inI x.aE0
def M.aEL.sh:List Shp:=[.str,.int .i64,.int .i64,.int .i64]
theorem M.aEL.cT(d:List D)(h:oH M.aEL.sh d):∃x,d=M.aEL.en x/\M.aEL.ok x:=by simp only[M.aEL.sh,oH,Has]at h;obtain⟨_,_,rfl,⟨j,rfl,U⟩,_,_,rfl,⟨C,rfl,w2⟩,_,_,rfl,⟨I,rfl,w3⟩,_,_,rfl,⟨J,rfl,w4⟩,rfl⟩:=h;exact⟨⟨j,C,I,J⟩,rfl,⟨U,wf_i64 w2,wf_i64 w3,wf_i64 w4⟩⟩
def M.aEL.sz(x:M.aEL):Nat:=x.aET.size
theorem M.aEL.mX(x:M.aEL)(j:M.aEL.ok x):Sz (mA x) (M.aEL.sz x):=by intro l a b;unfold mA M.aEL.sz;exact(Sz.str j.aET) l a b
theorem M.aEL.mH(x:M.aEL)(C:M.aEL.ok x)(j:M.aEL.sz x<=1048576):mE x=some x:=by unfold M.aEL.sz at j;unfold mE;rfl
theorem M.aEL.mG(x:M.aEL)(j:M.aEL.ok x):mF x x=some true:=by simp[mF]
theorem M.Es.mX(xs:List Int)(j:okB xs):Sz (wN xs) (xs.length):=by intro l a b;unfold wN;exact(Sz.str j.1) l a b
theorem M.Es.mH(xs:List Int)(j:okB xs)(J:xs.length<=1048576):wU xs=some xs:=by have C:=le_max j.1;unfold wU;rw[PS jD jD,qA];refine NH j.1 (λn k r hk I=> ?_) (λn r=> ?_) fuel 0 _ jI jD jF jF;(simp only[nW];rw[if_pos (bL hk),aM hk,qA,aM jD,qA,bI jD,qH]);·simp only[nW];rw[if_neg jK]
theorem M.Es.mG(xs:List Int)(j:okB xs):wX xs xs=some true:=by have C:=le_max j.1;unfold wX;rw[if_neg jF];refine Nc j.1 (λn k hk=> ?_) (λn=> ?_) fuel 0 jI jD;(simp only[nU];rw[if_pos (bL hk),aM hk];simp[bI (show k<9223372036854775807 by omega)]);·simp only[nU];rw[if_neg jK]
structure M.aEQ.ok (x:M.aEQ):Prop where
 aE8:inI x.aE8
 aE5:inI x.aE5
 aER:inI x.aER
 aFA:okB x.aFA
def M.aEQ.sh:List Shp:=[.int .i64,.int .i64,.int .i64,.sl [.int .u8],.bool]
theorem M.aEQ.cT(d:List D)(h:oH M.aEQ.sh d):∃x,d=M.aEQ.en x/\M.aEQ.ok x:=by simp only[M.aEQ.sh,oH,Has]at h;obtain⟨_,_,rfl,⟨j,rfl,w1⟩,_,_,rfl,⟨C,rfl,w2⟩,_,_,rfl,⟨I,rfl,w3⟩,_,_,rfl,⟨_,rfl,w4,q4⟩,_,_,rfl,⟨U,rfl⟩,rfl⟩:=h;obtain⟨J,rfl,e4⟩:=bA Ue q4;exact⟨⟨j,C,I,J,U⟩,rfl,⟨wf_i64 w1,wf_i64 w2,wf_i64 w3,⟨by simpa using w4,e4⟩⟩⟩
def M.aEQ.sz(x:M.aEQ):Nat:=x.aFA.length
theorem M.aEQ.mX(x:M.aEQ)(j:M.aEQ.ok x):Sz (tQ x) (M.aEQ.sz x):=by intro l a b;unfold tQ M.aEQ.sz;exact(Sz.call (M.Es.mX _ j.aFA)) l a b
theorem M.aEQ.mH(x:M.aEQ)(C:M.aEQ.ok x)(j:M.aEQ.sz x<=1048576):tA x=some x:=by unfold M.aEQ.sz at j;unfold tA;rw[M.Es.mH _ C.aFA jD,qA]
theorem M.aEQ.mG(x:M.aEQ)(j:M.aEQ.ok x):tW x x=some true:=by simp[tW,M.Es.mG _ j.aFA]
structure M.aEW.ok (x:M.aEW):Prop where
 aET:x.aET.size<=maxLen
 aEy:x.aEy.size<=maxLen
 aEQ:M.aEQ.ok x.aEQ
def M.aEW.sh:List Shp:=[.str,.str,.int .i64,.int .i64,.int .i64,.sl [.int .u8],.bool]
theorem M.aEW.cT(d:List D)(h:oH M.aEW.sh d):∃x,d=M.aEW.en x/\M.aEW.ok x:=by simp only[M.aEW.sh,oH,Has]at h;obtain⟨_,_,rfl,⟨j,rfl,w1⟩,_,_,rfl,⟨C,rfl,w2⟩,_,_,rfl,⟨I,rfl,w3⟩,_,_,rfl,⟨J,rfl,w4⟩,_,_,rfl,⟨U,rfl,w5⟩,_,_,rfl,⟨_,rfl,w6,q6⟩,_,_,rfl,⟨a7,rfl⟩,rfl⟩:=h;obtain⟨a6,rfl,e6⟩:=bA Ue q6;exact⟨⟨j,C,⟨I,J,U,a6,a7⟩⟩,rfl,⟨w1,w2,⟨wf_i64 w3,wf_i64 w4,wf_i64 w5,⟨by simpa using w6,e6⟩⟩⟩⟩
def M.aEW.sz(x:M.aEW):Nat:=x.aET.size+(x.aEy.size+(M.aEQ.sz x.aEQ))
theorem M.aEW.mX(x:M.aEW)(j:M.aEW.ok x):Sz (sN x) (M.aEW.sz x):=by intro l a b;unfold sN M.aEW.sz;exact(Sz.DI j.aET (Sz.DI j.aEy (Sz.call (M.aEQ.mX _ j.aEQ)))) l a b
theorem M.aEW.mH(x:M.aEW)(C:M.aEW.ok x)(j:M.aEW.sz x<=1048576):tD x=some x:=by unfold M.aEW.sz at j;unfold tD;rw[M.aEQ.mH _ C.aEQ jD,qA]
theorem M.aEW.mG(x:M.aEW)(j:M.aEW.ok x):tJ x x=some true:=by simp[tJ,M.aEQ.mG _ j.aEQ]
theorem M.Eu.mX(xs:List M.aEW)(j:(xs.length<=maxLen/\∀y∈xs,M.aEW.ok y)):Sz (AL xs) (xs.length+aV M.aEW.sz xs):=DR j (λy h=>M.aEW.mX y h)
theorem M.Eu.mH(xs:List M.aEW)(C:(xs.length<=maxLen/\∀y∈xs,M.aEW.ok y))(j:(xs.length+aV M.aEW.sz xs)<=1048576):AY xs=some xs:=Ds C j jG (λy h z=>M.aEW.mH y h z)
theorem M.Eu.mG(xs:List M.aEW)(j:(xs.length<=maxLen/\∀y∈xs,M.aEW.ok y)):AS xs xs=some true:=C5 j (λy h=>M.aEW.mG y h)
structure M.aEZ.ok (x:M.aEZ):Prop where
 aER:inI x.aER
 aEa:(x.aEa.length<=maxLen/\∀y∈x.aEa,M.aEW.ok y)
def M.aEZ.sh:List Shp:=[.int .i64,.sl M.aEW.sh]
theorem M.aEZ.cT(d:List D)(h:oH M.aEZ.sh d):∃x,d=M.aEZ.en x/\M.aEZ.ok x:=by simp only[M.aEZ.sh,oH,Has]at h;obtain⟨_,_,rfl,⟨j,rfl,J⟩,_,_,rfl,⟨_,rfl,U,I⟩,rfl⟩:=h;obtain⟨C,rfl,e2⟩:=bA M.aEW.cT I;exact⟨⟨j,C⟩,rfl,⟨wf_i64 J,⟨by simpa using U,e2⟩⟩⟩
def M.aEZ.sz(x:M.aEZ):Nat:=x.aEa.length+aV M.aEW.sz x.aEa
theorem M.aEZ.mX(x:M.aEZ)(j:M.aEZ.ok x):Sz (wZ x) (M.aEZ.sz x):=by intro l a b;unfold wZ M.aEZ.sz;exact(Sz.call (M.Eu.mX _ j.aEa)) l a b
theorem M.aEZ.mH(x:M.aEZ)(C:M.aEZ.ok x)(j:M.aEZ.sz x<=1048576):wS x=some x:=by unfold M.aEZ.sz at j;unfold wS;rw[M.Eu.mH _ C.aEa jD,qA]
theorem M.aEZ.mG(x:M.aEZ)(j:M.aEZ.ok x):xE x x=some true:=by simp[xE,M.Eu.mG _ j.aEa]
theorem M.Hd.mX(xs:List M.aEZ)(j:(xs.length<=maxLen/\∀y∈xs,M.aEZ.ok y)):Sz (B5 xs) (xs.length+aV M.aEZ.sz xs):=DR j (λy h=>M.aEZ.mX y h)
theorem M.Hd.mH(xs:List M.aEZ)(C:(xs.length<=maxLen/\∀y∈xs,M.aEZ.ok y))(j:(xs.length+aV M.aEZ.sz xs)<=1048576):BS xs=some xs:=Ds C j jG (λy h z=>M.aEZ.mH y h z)
theorem M.Hd.mG(xs:List M.aEZ)(j:(xs.length<=maxLen/\∀y∈xs,M.aEZ.ok y)):BR xs xs=some true:=C5 j (λy h=>M.aEZ.mG y h)
structure M.aP.ok (x:M.aP):Prop where
 aEV:(x.aEV.length<=maxLen/\∀y∈x.aEV,M.aEZ.ok y)
def M.aP.sh:List Shp:=[.sl M.aEZ.sh]
theorem M.aP.cT(d:List D)(h:oH M.aP.sh d):∃x,d=M.aP.en x/\M.aP.ok x:=by simp only[M.aP.sh,oH,Has]at h;obtain⟨_,_,rfl,⟨_,rfl,I,C⟩,rfl⟩:=h;obtain⟨j,rfl,e1⟩:=bA M.aEZ.cT C;exact⟨⟨j⟩,rfl,⟨⟨by simpa using I,e1⟩⟩⟩
def M.aP.sz(x:M.aP):Nat:=x.aEV.length+aV M.aEZ.sz x.aEV
theorem M.aP.mX(x:M.aP)(j:M.aP.ok x):Sz (uH x) (M.aP.sz x):=by intro l a b;unfold uH M.aP.sz;exact(Sz.call (M.Hd.mX _ j.aEV)) l a b
theorem M.aP.mH(x:M.aP)(C:M.aP.ok x)(j:M.aP.sz x<=1048576):tM x=some x:=by unfold M.aP.sz at j;unfold tM;rw[M.Hd.mH _ C.aEV jD,qA]
theorem M.aP.mG(x:M.aP)(j:M.aP.ok x):tL x x=some true:=by simp[tL,M.Hd.mG _ j.aEV]
structure M.Key.ok (x:M.Key):Prop where
 aEc:inI x.aEc
 N:inI x.N
 aEj:x.aEj.size<=maxLen
def M.Key.sh:List Shp:=[.int .i64,.int .i64,.str]
theorem M.Key.cT(d:List D)(h:oH M.Key.sh d):∃x,d=M.Key.en x/\M.Key.ok x:=by simp only[M.Key.sh,oH,Has]at h;obtain⟨_,_,rfl,⟨j,rfl,J⟩,_,_,rfl,⟨C,rfl,U⟩,_,_,rfl,⟨I,rfl,w3⟩,rfl⟩:=h;exact⟨⟨j,C,I⟩,rfl,⟨wf_i64 J,wf_i64 U,w3⟩⟩
def M.Key.sz(x:M.Key):Nat:=x.aEj.size
theorem M.Key.mX(x:M.Key)(j:M.Key.ok x):Sz (Bl x) (M.Key.sz x):=by intro l a b;unfold Bl M.Key.sz;exact(Sz.str j.aEj) l a b
theorem M.Key.mH(x:M.Key)(C:M.Key.ok x)(j:M.Key.sz x<=1048576):Bj x=some x:=by unfold M.Key.sz at j;unfold Bj;rfl
theorem M.Key.mG(x:M.Key)(j:M.Key.ok x):Bk x x=some true:=by simp[Bk]
structure M.Field.ok (x:M.Field):Prop where
 Name:x.Name.size<=maxLen
 N:inI x.N
def M.Field.sh:List Shp:=[.str,.int .i64]
theorem M.Field.cT(d:List D)(h:oH M.Field.sh d):∃x,d=M.Field.en x/\M.Field.ok x:=by simp only[M.Field.sh,oH,Has]at h;obtain⟨_,_,rfl,⟨j,rfl,I⟩,_,_,rfl,⟨C,rfl,J⟩,rfl⟩:=h;exact⟨⟨j,C⟩,rfl,⟨I,wf_i64 J⟩⟩
def M.Field.sz(x:M.Field):Nat:=x.Name.size
theorem M.Field.mX(x:M.Field)(j:M.Field.ok x):Sz (wW x) (M.Field.sz x):=by intro l a b;unfold wW M.Field.sz;exact(Sz.str j.Name) l a b
theorem M.Field.mH(x:M.Field)(C:M.Field.ok x)(j:M.Field.sz x<=1048576):xB x=some x:=by unfold M.Field.sz at j;unfold xB;rfl
theorem M.Field.mG(x:M.Field)(j:M.Field.ok x):wO x x=some true:=by simp[wO]
theorem M.HP.mX(xs:List M.Field)(j:(xs.length<=maxLen/\∀y∈xs,M.Field.ok y)):Sz (Bv xs) (xs.length+aV M.Field.sz xs):=DR j (λy h=>M.Field.mX y h)
theorem M.HP.mH(xs:List M.Field)(C:(xs.length<=maxLen/\∀y∈xs,M.Field.ok y))(j:(xs.length+aV M.Field.sz xs)<=1048576):Cb xs=some xs:=Ds C j jG (λy h z=>M.Field.mH y h z)
theorem M.HP.mG(xs:List M.Field)(j:(xs.length<=maxLen/\∀y∈xs,M.Field.ok y)):BW xs xs=some true:=C5 j (λy h=>M.Field.mG y h)
structure M.aA.ok (x:M.aA):Prop where
 aEN:(x.aEN.length<=maxLen/\∀y∈x.aEN,M.Field.ok y)
def M.aA.sh:List Shp:=[.sl M.Field.sh]
theorem M.aA.cT(d:List D)(h:oH M.aA.sh d):∃x,d=M.aA.en x/\M.aA.ok x:=by simp only[M.aA.sh,oH,Has]at h;obtain⟨_,_,rfl,⟨_,rfl,I,C⟩,rfl⟩:=h;obtain⟨j,rfl,e1⟩:=bA M.Field.cT C;exact⟨⟨j⟩,rfl,⟨⟨by simpa using I,e1⟩⟩⟩
def M.aA.sz(x:M.aA):Nat:=x.aEN.length+aV M.Field.sz x.aEN
theorem M.aA.mX(x:M.aA)(j:M.aA.ok x):Sz (yR x) (M.aA.sz x):=by intro l a b;unfold yR M.aA.sz;exact(Sz.call (M.HP.mX _ j.aEN)) l a b
theorem M.aA.mH(x:M.aA)(C:M.aA.ok x)(j:M.aA.sz x<=1048576):yF x=some x:=by unfold M.aA.sz at j;unfold yF;rw[M.HP.mH _ C.aEN jD,qA]
theorem M.aA.mG(x:M.aA)(j:M.aA.ok x):yO x x=some true:=by simp[yO,M.HP.mG _ j.aEN]
structure M.aES.ok (x:M.aES):Prop where
 Key:M.Key.ok x.Key
 aA:M.aA.ok x.aA
def M.aES.sh:List Shp:=[.int .i64,.int .i64,.str,.sl M.Field.sh]
theorem M.aES.cT(d:List D)(h:oH M.aES.sh d):∃x,d=M.aES.en x/\M.aES.ok x:=by simp only[M.aES.sh,oH,Has]at h;obtain⟨_,_,rfl,⟨j,rfl,w1⟩,_,_,rfl,⟨C,rfl,w2⟩,_,_,rfl,⟨I,rfl,w3⟩,_,_,rfl,⟨_,rfl,w4,U⟩,rfl⟩:=h;obtain⟨J,rfl,e4⟩:=bA M.Field.cT U;exact⟨⟨⟨j,C,I⟩,⟨J⟩⟩,rfl,⟨⟨wf_i64 w1,wf_i64 w2,w3⟩,⟨⟨by simpa using w4,e4⟩⟩⟩⟩
def M.aES.sz(x:M.aES):Nat:=M.Key.sz x.Key+(M.aA.sz x.aA)
theorem M.aES.mX(x:M.aES)(j:M.aES.ok x):Sz (zQ x) (M.aES.sz x):=by intro l a b;unfold zQ M.aES.sz;exact(Sz.uW (M.Key.mX _ j.Key) (Sz.call (M.aA.mX _ j.aA))) l a b
theorem M.aES.mH(x:M.aES)(j:M.aES.ok x)(C:M.aES.sz x<=1048576):yW x=some x:=by unfold M.aES.sz at C;unfold yW;rw[M.Key.mH _ j.Key jD,qA,M.aA.mH _ j.aA jD,qA]
theorem M.aES.mG(x:M.aES)(j:M.aES.ok x):yY x x=some true:=by simp[yY,M.Key.mG _ j.Key,M.aA.mG _ j.aA]
theorem M.Ic.mX(xs:List M.aES)(j:(xs.length<=maxLen/\∀y∈xs,M.aES.ok y)):Sz (CD xs) (xs.length+aV M.aES.sz xs):=DR j (λy h=>M.aES.mX y h)
theorem M.Ic.mH(xs:List M.aES)(C:(xs.length<=maxLen/\∀y∈xs,M.aES.ok y))(j:(xs.length+aV M.aES.sz xs)<=1048576):Cq xs=some xs:=Ds C j jG (λy h z=>M.aES.mH y h z)
theorem M.Ic.mG(xs:List M.aES)(j:(xs.length<=maxLen/\∀y∈xs,M.aES.ok y)):CC xs xs=some true:=C5 j (λy h=>M.aES.mG y h)
structure M.aC.ok (x:M.aC):Prop where
 Name:x.Name.size<=maxLen
 aEM:(x.aEM.length<=maxLen/\∀y∈x.aEM,M.aES.ok y)
 aEo:inI x.aEo
def M.aC.sh:List Shp:=[.str,.sl M.aES.sh,.int .i64]
theorem M.aC.cT(d:List D)(h:oH M.aC.sh d):∃x,d=M.aC.en x/\M.aC.ok x:=by simp only[M.aC.sh,oH,Has]at h;obtain⟨_,_,rfl,⟨j,rfl,U⟩,_,_,rfl,⟨_,rfl,w2,J⟩,_,_,rfl,⟨I,rfl,w3⟩,rfl⟩:=h;obtain⟨C,rfl,e2⟩:=bA M.aES.cT J;exact⟨⟨j,C,I⟩,rfl,⟨U,⟨by simpa using w2,e2⟩,wf_i64 w3⟩⟩
def M.aC.sz(x:M.aC):Nat:=x.Name.size+(x.aEM.length+aV M.aES.sz x.aEM)
theorem M.aC.mX(x:M.aC)(j:M.aC.ok x):Sz (nG x) (M.aC.sz x):=by intro l a b;unfold nG M.aC.sz;exact(Sz.DI j.Name (Sz.call (M.Ic.mX _ j.aEM))) l a b
theorem M.aC.mH(x:M.aC)(C:M.aC.ok x)(j:M.aC.sz x<=1048576):nO x=some x:=by unfold M.aC.sz at j;unfold nO;rw[M.Ic.mH _ C.aEM jD,qA]
theorem M.aC.mG(x:M.aC)(j:M.aC.ok x):nL x x=some true:=by simp[nL,M.Ic.mG _ j.aEM]
theorem M.GZ.mX(xs:List M.aC)(j:(xs.length<=maxLen/\∀y∈xs,M.aC.ok y)):Sz (BP xs) (xs.length+aV M.aC.sz xs):=DR j (λy h=>M.aC.mX y h)
theorem M.GZ.mH(xs:List M.aC)(C:(xs.length<=maxLen/\∀y∈xs,M.aC.ok y))(j:(xs.length+aV M.aC.sz xs)<=1048576):BB xs=some xs:=Ds C j jG (λy h z=>M.aC.mH y h z)
theorem M.GZ.mG(xs:List M.aC)(j:(xs.length<=maxLen/\∀y∈xs,M.aC.ok y)):Bu xs xs=some true:=C5 j (λy h=>M.aC.mG y h)
structure M.aG.ok (x:M.aG):Prop where
 aC:x.aC.size<=maxLen
 Field:x.Field.size<=maxLen
def M.aG.sh:List Shp:=[.str,.str]
theorem M.aG.cT(d:List D)(h:oH M.aG.sh d):∃x,d=M.aG.en x/\M.aG.ok x:=by simp only[M.aG.sh,oH,Has]at h;obtain⟨_,_,rfl,⟨j,rfl,I⟩,_,_,rfl,⟨C,rfl,J⟩,rfl⟩:=h;exact⟨⟨j,C⟩,rfl,⟨I,J⟩⟩
def M.aG.sz(x:M.aG):Nat:=x.aC.size+(x.Field.size)
theorem M.aG.mX(x:M.aG)(j:M.aG.ok x):Sz (nQ x) (M.aG.sz x):=by intro l a b;unfold nQ M.aG.sz;exact(Sz.DI j.aC (Sz.str j.Field)) l a b
theorem M.aG.mH(x:M.aG)(C:M.aG.ok x)(j:M.aG.sz x<=1048576):oA x=some x:=by unfold M.aG.sz at j;unfold oA;rfl
theorem M.aG.mG(x:M.aG)(j:M.aG.ok x):nY x x=some true:=by simp[nY]
theorem M.Ce.mX(xs:List M.aG)(j:(xs.length<=maxLen/\∀y∈xs,M.aG.ok y)):Sz (xK xs) (xs.length+aV M.aG.sz xs):=DR j (λy h=>M.aG.mX y h)
theorem M.Ce.mH(xs:List M.aG)(C:(xs.length<=maxLen/\∀y∈xs,M.aG.ok y))(j:(xs.length+aV M.aG.sz xs)<=1048576):xR xs=some xs:=Ds C j jG (λy h z=>M.aG.mH y h z)
theorem M.Ce.mG(xs:List M.aG)(j:(xs.length<=maxLen/\∀y∈xs,M.aG.ok y)):xL xs xs=some true:=C5 j (λy h=>M.aG.mG y h)
structure M.aEK.ok (x:M.aEK):Prop where
 Name:x.Name.size<=maxLen
 aER:inI x.aER
 aEU:(x.aEU.length<=maxLen/\∀y∈x.aEU,M.aC.ok y)
 aEb:(x.aEb.length<=maxLen/\∀y∈x.aEb,M.aG.ok y)
def M.aEK.sh:List Shp:=[.str,.int .i64,.sl M.aC.sh,.sl M.aG.sh]
theorem M.aEK.cT(d:List D)(h:oH M.aEK.sh d):∃x,d=M.aEK.en x/\M.aEK.ok x:=by simp only[M.aEK.sh,oH,Has]at h;obtain⟨_,_,rfl,⟨j,rfl,w1⟩,_,_,rfl,⟨C,rfl,w2⟩,_,_,rfl,⟨_,rfl,w3,U⟩,_,_,rfl,⟨_,rfl,w4,q4⟩,rfl⟩:=h;obtain⟨I,rfl,e3⟩:=bA M.aC.cT U;obtain⟨J,rfl,e4⟩:=bA M.aG.cT q4;exact⟨⟨j,C,I,J⟩,rfl,⟨w1,wf_i64 w2,⟨by simpa using w3,e3⟩,⟨by simpa using w4,e4⟩⟩⟩
def M.aEK.sz(x:M.aEK):Nat:=x.Name.size+((x.aEU.length+aV M.aC.sz x.aEU)+(x.aEb.length+aV M.aG.sz x.aEb))
theorem M.aEK.mX(x:M.aEK)(j:M.aEK.ok x):Sz (uC x) (M.aEK.sz x):=by intro l a b;unfold uC M.aEK.sz;exact(Sz.DI j.Name (Sz.uW (M.GZ.mX _ j.aEU) (Sz.call (M.Ce.mX _ j.aEb)))) l a b
theorem M.aEK.mH(x:M.aEK)(j:M.aEK.ok x)(C:M.aEK.sz x<=1048576):sH x=some x:=by unfold M.aEK.sz at C;unfold sH;rw[M.GZ.mH _ j.aEU jD,qA,M.Ce.mH _ j.aEb jD,qA]
theorem M.aEK.mG(x:M.aEK)(j:M.aEK.ok x):uF x x=some true:=by simp[uF,M.GZ.mG _ j.aEU,M.Ce.mG _ j.aEb]
structure M.bK.ok (x:M.bK):Prop where
 aEe:M.aEK.ok x.aEe
 Log:okB x.Log
 aEx:inI x.aEx
def M.bK.sh:List Shp:=[.str,.int .i64,.sl M.aC.sh,.sl M.aG.sh,.sl [.int .u8],.int .i64]
theorem M.bK.cT(d:List D)(h:oH M.bK.sh d):∃x,d=M.bK.en x/\M.bK.ok x:=by simp only[M.bK.sh,oH,Has]at h;obtain⟨_,_,rfl,⟨j,rfl,w1⟩,_,_,rfl,⟨C,rfl,w2⟩,_,_,rfl,⟨_,rfl,w3,q3⟩,_,_,rfl,⟨_,rfl,w4,q4⟩,_,_,rfl,⟨_,rfl,w5,q5⟩,_,_,rfl,⟨a6,rfl,w6⟩,rfl⟩:=h;obtain⟨I,rfl,e3⟩:=bA M.aC.cT q3;obtain⟨J,rfl,e4⟩:=bA M.aG.cT q4;obtain⟨U,rfl,e5⟩:=bA Ue q5;exact⟨⟨⟨j,C,I,J⟩,U,a6⟩,rfl,⟨⟨w1,wf_i64 w2,⟨by simpa using w3,e3⟩,⟨by simpa using w4,e4⟩⟩,⟨by simpa using w5,e5⟩,wf_i64 w6⟩⟩
def M.bK.sz(x:M.bK):Nat:=M.aEK.sz x.aEe+(x.Log.length)
theorem M.bK.mX(x:M.bK)(j:M.bK.ok x):Sz (Br x) (M.bK.sz x):=by intro l a b;unfold Br M.bK.sz;exact(Sz.uW (M.aEK.mX _ j.aEe) (Sz.call (M.Es.mX _ j.Log))) l a b
theorem M.bK.mH(x:M.bK)(j:M.bK.ok x)(C:M.bK.sz x<=1048576):B7 x=some x:=by unfold M.bK.sz at C;unfold B7;rw[M.aEK.mH _ j.aEe jD,qA,M.Es.mH _ j.Log jD,qA]
theorem M.bK.mG(x:M.bK)(j:M.bK.ok x):BU x x=some true:=by simp[BU,M.aEK.mG _ j.aEe,M.Es.mG _ j.Log]
structure M.bB.ok (x:M.bB):Prop where
 aEd:inI x.aEd
 Seq:inI x.Seq
 Key:M.Key.ok x.Key
 Field:x.Field.size<=maxLen
 N:inI x.N
def M.bB.sh:List Shp:=[.int .i64,.int .i64,.int .i64,.int .i64,.str,.str,.int .i64]
theorem M.bB.cT(d:List D)(h:oH M.bB.sh d):∃x,d=M.bB.en x/\M.bB.ok x:=by simp only[M.bB.sh,oH,Has]at h;obtain⟨_,_,rfl,⟨j,rfl,w1⟩,_,_,rfl,⟨C,rfl,w2⟩,_,_,rfl,⟨I,rfl,w3⟩,_,_,rfl,⟨J,rfl,w4⟩,_,_,rfl,⟨U,rfl,w5⟩,_,_,rfl,⟨a6,rfl,w6⟩,_,_,rfl,⟨a7,rfl,w7⟩,rfl⟩:=h;exact⟨⟨j,C,⟨I,J,U⟩,a6,a7⟩,rfl,⟨wf_i64 w1,wf_i64 w2,⟨wf_i64 w3,wf_i64 w4,w5⟩,w6,wf_i64 w7⟩⟩
def M.bB.sz(x:M.bB):Nat:=M.Key.sz x.Key+(x.Field.size)
theorem M.bB.mX(x:M.bB)(j:M.bB.ok x):Sz (wY x) (M.bB.sz x):=by intro l a b;unfold wY M.bB.sz;exact(Sz.uW (M.Key.mX _ j.Key) (Sz.str j.Field)) l a b
theorem M.bB.mH(x:M.bB)(C:M.bB.ok x)(j:M.bB.sz x<=1048576):wV x=some x:=by unfold M.bB.sz at j;unfold wV;rw[M.Key.mH _ C.Key jD,qA]
theorem M.bB.mG(x:M.bB)(j:M.bB.ok x):wQ x x=some true:=by simp[wQ,M.Key.mG _ j.Key]
theorem M.DL.mX(xs:List M.bB)(j:(xs.length<=maxLen/\∀y∈xs,M.bB.ok y)):Sz (yL xs) (xs.length+aV M.bB.sz xs):=DR j (λy h=>M.bB.mX y h)
theorem M.DL.mH(xs:List M.bB)(C:(xs.length<=maxLen/\∀y∈xs,M.bB.ok y))(j:(xs.length+aV M.bB.sz xs)<=1048576):yM xs=some xs:=Ds C j jG (λy h z=>M.bB.mH y h z)
theorem M.DL.mG(xs:List M.bB)(j:(xs.length<=maxLen/\∀y∈xs,M.bB.ok y)):yS xs xs=some true:=C5 j (λy h=>M.bB.mG y h)
structure M.aU.ok (x:M.aU):Prop where
 aEd:inI x.aEd
 aFB:inI x.aFB
 aEm:(x.aEm.length<=maxLen/\∀y∈x.aEm,M.bB.ok y)
def M.aU.sh:List Shp:=[.int .i64,.int .i64,.sl M.bB.sh]
theorem M.aU.cT(d:List D)(h:oH M.aU.sh d):∃x,d=M.aU.en x/\M.aU.ok x:=by simp only[M.aU.sh,oH,Has]at h;obtain⟨_,_,rfl,⟨j,rfl,U⟩,_,_,rfl,⟨C,rfl,w2⟩,_,_,rfl,⟨_,rfl,w3,J⟩,rfl⟩:=h;obtain⟨I,rfl,e3⟩:=bA M.bB.cT J;exact⟨⟨j,C,I⟩,rfl,⟨wf_i64 U,wf_i64 w2,⟨by simpa using w3,e3⟩⟩⟩
def M.aU.sz(x:M.aU):Nat:=x.aEm.length+aV M.bB.sz x.aEm
theorem M.aU.mX(x:M.aU)(j:M.aU.ok x):Sz (yE x) (M.aU.sz x):=by intro l a b;unfold yE M.aU.sz;exact(Sz.call (M.DL.mX _ j.aEm)) l a b
theorem M.aU.mH(x:M.aU)(C:M.aU.ok x)(j:M.aU.sz x<=1048576):xZ x=some x:=by unfold M.aU.sz at j;unfold xZ;rw[M.DL.mH _ C.aEm jD,qA]
theorem M.aU.mG(x:M.aU)(j:M.aU.ok x):yQ x x=some true:=by simp[yQ,M.DL.mG _ j.aEm]
structure M.aEf.ok (x:M.aEf):Prop where
 aU:M.aU.ok x.aU
 aE9:inI x.aE9
 aEt:inI x.aEt
def M.aEf.sh:List Shp:=[.int .i64,.int .i64,.sl M.bB.sh,.int .i64,.int .i64]
theorem M.aEf.cT(d:List D)(h:oH M.aEf.sh d):∃x,d=M.aEf.en x/\M.aEf.ok x:=by simp only[M.aEf.sh,oH,Has]at h;obtain⟨_,_,rfl,⟨j,rfl,w1⟩,_,_,rfl,⟨C,rfl,w2⟩,_,_,rfl,⟨_,rfl,w3,q3⟩,_,_,rfl,⟨J,rfl,w4⟩,_,_,rfl,⟨U,rfl,w5⟩,rfl⟩:=h;obtain⟨I,rfl,e3⟩:=bA M.bB.cT q3;exact⟨⟨⟨j,C,I⟩,J,U⟩,rfl,⟨⟨wf_i64 w1,wf_i64 w2,⟨by simpa using w3,e3⟩⟩,wf_i64 w4,wf_i64 w5⟩⟩
def M.aEf.sz(x:M.aEf):Nat:=M.aU.sz x.aU
theorem M.aEf.mX(x:M.aEf)(j:M.aEf.ok x):Sz (B9 x) (M.aEf.sz x):=by intro l a b;unfold B9 M.aEf.sz;exact(Sz.call (M.aU.mX _ j.aU)) l a b
theorem M.aEf.mH(x:M.aEf)(C:M.aEf.ok x)(j:M.aEf.sz x<=1048576):BX x=some x:=by unfold M.aEf.sz at j;unfold BX;rw[M.aU.mH _ C.aU jD,qA]
theorem M.aEf.mG(x:M.aEf)(j:M.aEf.ok x):BD x x=some true:=by simp[BD,M.aU.mG _ j.aU]
structure M.aF.ok (x:M.aF):Prop where
 aEe:M.aC.ok x.aEe
 aFF:inI x.aFF
 aEf:M.aEf.ok x.aEf
def M.aF.sh:List Shp:=[.str,.sl M.aES.sh,.int .i64,.int .i64,.int .i64,.int .i64,.sl M.bB.sh,.int .i64,.int .i64]
theorem M.aF.cT(d:List D)(h:oH M.aF.sh d):∃x,d=M.aF.en x/\M.aF.ok x:=by simp only[M.aF.sh,oH,Has]at h;obtain⟨_,_,rfl,⟨j,rfl,w1⟩,_,_,rfl,⟨_,rfl,w2,q2⟩,_,_,rfl,⟨I,rfl,w3⟩,_,_,rfl,⟨J,rfl,w4⟩,_,_,rfl,⟨U,rfl,w5⟩,_,_,rfl,⟨a6,rfl,w6⟩,_,_,rfl,⟨_,rfl,w7,q7⟩,_,_,rfl,⟨a8,rfl,w8⟩,_,_,rfl,⟨a9,rfl,w9⟩,rfl⟩:=h;obtain⟨C,rfl,e2⟩:=bA M.aES.cT q2;obtain⟨a7,rfl,e7⟩:=bA M.bB.cT q7;exact⟨⟨⟨j,C,I⟩,J,⟨⟨U,a6,a7⟩,a8,a9⟩⟩,rfl,⟨⟨w1,⟨by simpa using w2,e2⟩,wf_i64 w3⟩,wf_i64 w4,⟨⟨wf_i64 w5,wf_i64 w6,⟨by simpa using w7,e7⟩⟩,wf_i64 w8,wf_i64 w9⟩⟩⟩
def M.aF.sz(x:M.aF):Nat:=M.aC.sz x.aEe+(M.aEf.sz x.aEf)
theorem M.aF.mX(x:M.aF)(j:M.aF.ok x):Sz (wG x) (M.aF.sz x):=by intro l a b;unfold wG M.aF.sz;exact(Sz.uW (M.aC.mX _ j.aEe) (Sz.call (M.aEf.mX _ j.aEf))) l a b
theorem M.aF.mH(x:M.aF)(j:M.aF.ok x)(C:M.aF.sz x<=1048576):wB x=some x:=by unfold M.aF.sz at C;unfold wB;rw[M.aC.mH _ j.aEe jD,qA,M.aEf.mH _ j.aEf jD,qA]
theorem M.aF.mG(x:M.aF)(j:M.aF.ok x):wA x x=some true:=by simp[wA,M.aC.mG _ j.aEe,M.aEf.mG _ j.aEf]
structure M.aEJ.ok (x:M.aEJ):Prop where
 aET:x.aET.size<=maxLen
 Top:x.Top.size<=maxLen
 aEL:M.aEL.ok x.aEL
 aEV:M.aP.ok x.aEV
 bK:M.bK.ok x.bK
 aF:M.aF.ok x.aF
 aEk:inI x.aEk
def M.aEJ.sh:List Shp:=[.str,.str,.str,.int .i64,.int .i64,.int .i64,.sl M.aEZ.sh,.str,.int .i64,.sl M.aC.sh,.sl M.aG.sh,.sl [.int .u8],.int .i64,.str,.sl M.aES.sh,.int .i64,.int .i64,.int .i64,.int .i64,.sl M.bB.sh,.int .i64,.int .i64,.int .i64,.bool]
theorem M.aEJ.cT(d:List D)(h:oH M.aEJ.sh d):∃x,d=M.aEJ.en x/\M.aEJ.ok x:=by simp only[M.aEJ.sh,oH,Has]at h;obtain⟨_,_,rfl,⟨j,rfl,w1⟩,_,_,rfl,⟨C,rfl,w2⟩,_,_,rfl,⟨I,rfl,w3⟩,_,_,rfl,⟨J,rfl,w4⟩,_,_,rfl,⟨U,rfl,w5⟩,_,_,rfl,⟨a6,rfl,w6⟩,_,_,rfl,⟨_,rfl,w7,q7⟩,_,_,rfl,⟨a8,rfl,w8⟩,_,_,rfl,⟨a9,rfl,w9⟩,_,_,rfl,⟨_,rfl,aa,ae⟩,_,_,rfl,⟨_,rfl,af,ah⟩,_,_,rfl,⟨_,rfl,ai,aj⟩,_,_,rfl,⟨ak,rfl,al⟩,_,_,rfl,⟨ao,rfl,aq⟩,_,_,rfl,⟨_,rfl,ar,av⟩,_,_,rfl,⟨aw,rfl,ax⟩,_,_,rfl,⟨ay,rfl,az⟩,_,_,rfl,⟨ba,rfl,bd⟩,_,_,rfl,⟨bf,rfl,bg⟩,_,_,rfl,⟨_,rfl,bh,bj⟩,_,_,rfl,⟨bl,rfl,bm⟩,_,_,rfl,⟨bn,rfl,bo⟩,_,_,rfl,⟨bq,rfl,br⟩,_,_,rfl,⟨bt,rfl⟩,rfl⟩:=h;obtain⟨a7,rfl,e7⟩:=bA M.aEZ.cT q7;obtain⟨bu,rfl,bw⟩:=bA M.aC.cT ae;obtain⟨bz,rfl,c5⟩:=bA M.aG.cT ah;obtain⟨ca,rfl,cc⟩:=bA Ue aj;obtain⟨cd,rfl,cg⟩:=bA M.aES.cT av;obtain⟨cj,rfl,ck⟩:=bA M.bB.cT bj;exact⟨⟨j,C,⟨I,J,U,a6⟩,⟨a7⟩,⟨⟨a8,a9,bu,bz⟩,ca,ak⟩,⟨⟨ao,cd,aw⟩,ay,⟨⟨ba,bf,cj⟩,bl,bn⟩⟩,bq,bt⟩,rfl,⟨w1,w2,⟨w3,wf_i64 w4,wf_i64 w5,wf_i64 w6⟩,⟨⟨by simpa using w7,e7⟩⟩,⟨⟨w8,wf_i64 w9,⟨by simpa using aa,bw⟩,⟨by simpa using af,c5⟩⟩,⟨by simpa using ai,cc⟩,wf_i64 al⟩,⟨⟨aq,⟨by simpa using ar,cg⟩,wf_i64 ax⟩,wf_i64 az,⟨⟨wf_i64 bd,wf_i64 bg,⟨by simpa using bh,ck⟩⟩,wf_i64 bm,wf_i64 bo⟩⟩,wf_i64 br⟩⟩
def M.aEJ.sz(x:M.aEJ):Nat:=x.aET.size+(x.Top.size+(M.aEL.sz x.aEL+(M.aP.sz x.aEV+(M.bK.sz x.bK+(M.aF.sz x.aF)))))
theorem M.aEJ.mX(x:M.aEJ)(j:M.aEJ.ok x):Sz (uE x) (M.aEJ.sz x):=by intro l a b;unfold uE M.aEJ.sz;exact(Sz.DI j.aET (Sz.DI j.Top (Sz.uW (M.aEL.mX _ j.aEL) (Sz.uW (M.aP.mX _ j.aEV) (Sz.uW (M.bK.mX _ j.bK) (Sz.call (M.aF.mX _ j.aF))))))) l a b
theorem M.aEJ.mH(x:M.aEJ)(j:M.aEJ.ok x)(C:M.aEJ.sz x<=1048576):tR x=some x:=by unfold M.aEJ.sz at C;unfold tR;rw[M.aEL.mH _ j.aEL jD,qA,M.aP.mH _ j.aEV jD,qA,M.bK.mH _ j.bK jD,qA,M.aF.mH _ j.aF jD,qA]
theorem M.aEJ.mG(x:M.aEJ)(j:M.aEJ.ok x):sS x x=some true:=by simp[sS,M.aEL.mG _ j.aEL,M.aP.mG _ j.aEV,M.bK.mG _ j.bK,M.aF.mG _ j.aF]
theorem M.Ez.mX(xs:List M.aEJ)(j:(xs.length<=maxLen/\∀y∈xs,M.aEJ.ok y)):Sz (AM xs) (xs.length+aV M.aEJ.sz xs):=DR j (λy h=>M.aEJ.mX y h)
theorem M.Ez.mH(xs:List M.aEJ)(C:(xs.length<=maxLen/\∀y∈xs,M.aEJ.ok y))(j:(xs.length+aV M.aEJ.sz xs)<=1048576):A6 xs=some xs:=Ds C j jG (λy h z=>M.aEJ.mH y h z)
theorem M.Ez.mG(xs:List M.aEJ)(j:(xs.length<=maxLen/\∀y∈xs,M.aEJ.ok y)):A3 xs xs=some true:=C5 j (λy h=>M.aEJ.mG y h)
structure M.aD.ok (x:M.aD):Prop where
 aEP:(x.aEP.length<=maxLen/\∀y∈x.aEP,M.aEJ.ok y)
def M.aD.sh:List Shp:=[.sl M.aEJ.sh]
theorem M.aD.cT(d:List D)(h:oH M.aD.sh d):∃x,d=M.aD.en x/\M.aD.ok x:=by simp only[M.aD.sh,oH,Has]at h;obtain⟨_,_,rfl,⟨_,rfl,I,C⟩,rfl⟩:=h;obtain⟨j,rfl,e1⟩:=bA M.aEJ.cT C;exact⟨⟨j⟩,rfl,⟨⟨by simpa using I,e1⟩⟩⟩
def M.aD.sz(x:M.aD):Nat:=x.aEP.length+aV M.aEJ.sz x.aEP
theorem M.aD.mX(x:M.aD)(j:M.aD.ok x):Sz (vH x) (M.aD.sz x):=by intro l a b;unfold vH M.aD.sz;exact(Sz.call (M.Ez.mX _ j.aEP)) l a b
theorem M.aD.mH(x:M.aD)(C:M.aD.ok x)(j:M.aD.sz x<=1048576):vV x=some x:=by unfold M.aD.sz at j;unfold vV;rw[M.Ez.mH _ C.aEP jD,qA]
theorem M.aD.mG(x:M.aD)(j:M.aD.ok x):wE x x=some true:=by simp[wE,M.Ez.mG _ j.aEP]
structure M.aK.ok (x:M.aK):Prop where
 aEy:x.aEy.size<=maxLen
 aER:inI x.aER
def M.aK.sh:List Shp:=[.str,.int .i64]
theorem M.aK.cT(d:List D)(h:oH M.aK.sh d):∃x,d=M.aK.en x/\M.aK.ok x:=by simp only[M.aK.sh,oH,Has]at h;obtain⟨_,_,rfl,⟨j,rfl,I⟩,_,_,rfl,⟨C,rfl,J⟩,rfl⟩:=h;exact⟨⟨j,C⟩,rfl,⟨I,wf_i64 J⟩⟩
def M.aK.sz(x:M.aK):Nat:=x.aEy.size
theorem M.aK.mX(x:M.aK)(j:M.aK.ok x):Sz (sO x) (M.aK.sz x):=by intro l a b;unfold sO M.aK.sz;exact(Sz.str j.aEy) l a b
theorem M.aK.mH(x:M.aK)(C:M.aK.ok x)(j:M.aK.sz x<=1048576):sI x=some x:=by unfold M.aK.sz at j;unfold sI;rfl
theorem M.aK.mG(x:M.aK)(j:M.aK.ok x):sJ x x=some true:=by simp[sJ]
theorem M.Dm.mX(xs:List M.aK)(j:(xs.length<=maxLen/\∀y∈xs,M.aK.ok y)):Sz (AN xs) (xs.length+aV M.aK.sz xs):=DR j (λy h=>M.aK.mX y h)
theorem M.Dm.mH(xs:List M.aK)(C:(xs.length<=maxLen/\∀y∈xs,M.aK.ok y))(j:(xs.length+aV M.aK.sz xs)<=1048576):AO xs=some xs:=Ds C j jG (λy h z=>M.aK.mH y h z)
theorem M.Dm.mG(xs:List M.aK)(j:(xs.length<=maxLen/\∀y∈xs,M.aK.ok y)):A5 xs xs=some true:=C5 j (λy h=>M.aK.mG y h)
structure M.Instr.ok (x:M.Instr):Prop where
 aEc:inI x.aEc
 R:inI x.R
 N:inI x.N
 aEj:x.aEj.size<=maxLen
def M.Instr.sh:List Shp:=[.int .i64,.int .i64,.int .i64,.str]
theorem M.Instr.cT(d:List D)(h:oH M.Instr.sh d):∃x,d=M.Instr.en x/\M.Instr.ok x:=by simp only[M.Instr.sh,oH,Has]at h;obtain⟨_,_,rfl,⟨j,rfl,U⟩,_,_,rfl,⟨C,rfl,w2⟩,_,_,rfl,⟨I,rfl,w3⟩,_,_,rfl,⟨J,rfl,w4⟩,rfl⟩:=h;exact⟨⟨j,C,I,J⟩,rfl,⟨wf_i64 U,wf_i64 w2,wf_i64 w3,w4⟩⟩
def M.Instr.sz(x:M.Instr):Nat:=x.aEj.size
theorem M.Instr.mX(x:M.Instr)(j:M.Instr.ok x):Sz (wM x) (M.Instr.sz x):=by intro l a b;unfold wM M.Instr.sz;exact(Sz.str j.aEj) l a b
theorem M.Instr.mH(x:M.Instr)(C:M.Instr.ok x)(j:M.Instr.sz x<=1048576):xC x=some x:=by unfold M.Instr.sz at j;unfold xC;rfl
theorem M.Instr.mG(x:M.Instr)(j:M.Instr.ok x):wL x x=some true:=by simp[wL]
theorem M.FB.mX(xs:List M.Instr)(j:(xs.length<=maxLen/\∀y∈xs,M.Instr.ok y)):Sz (BT xs) (xs.length+aV M.Instr.sz xs):=DR j (λy h=>M.Instr.mX y h)
theorem M.FB.mH(xs:List M.Instr)(C:(xs.length<=maxLen/\∀y∈xs,M.Instr.ok y))(j:(xs.length+aV M.Instr.sz xs)<=1048576):Cc xs=some xs:=Ds C j jG (λy h z=>M.Instr.mH y h z)
theorem M.FB.mG(xs:List M.Instr)(j:(xs.length<=maxLen/\∀y∈xs,M.Instr.ok y)):BQ xs xs=some true:=C5 j (λy h=>M.Instr.mG y h)
theorem M.N7.mX(xs:List Int)(j:okI xs):Sz (BZ xs) (xs.length):=by intro l a b;unfold BZ;exact(Sz.str j.1) l a b
theorem M.N7.mH(xs:List Int)(j:okI xs)(J:xs.length<=1048576):BG xs=some xs:=by have C:=le_max j.1;unfold BG;rw[PS jD jD,qA];refine NH j.1 (λn k r hk I=> ?_) (λn r=> ?_) fuel 0 _ jI jD jF jF;(simp only[pP];rw[if_pos (bL hk),aM hk,qA,aM jD,qA,bI jD,qH]);·simp only[pP];rw[if_neg jK]
theorem M.N7.mG(xs:List Int)(j:okI xs):BV xs xs=some true:=by have C:=le_max j.1;unfold BV;rw[if_neg jF];refine Nc j.1 (λn k hk=> ?_) (λn=> ?_) fuel 0 jI jD;(simp only[pE];rw[if_pos (bL hk),aM hk];simp[bI (show k<9223372036854775807 by omega)]);·simp only[pE];rw[if_neg jK]
structure M.aEO.ok (x:M.aEO):Prop where
 aEp:(x.aEp.length<=maxLen/\∀y∈x.aEp,M.Instr.ok y)
 Pc:inI x.Pc
 aE3:okI x.aE3
 aE2:inI x.aE2
def M.aEO.sh:List Shp:=[.sl M.Instr.sh,.int .i64,.sl [.int .i64],.int .i64,.bool,.bool]
theorem M.aEO.cT(d:List D)(h:oH M.aEO.sh d):∃x,d=M.aEO.en x/\M.aEO.ok x:=by simp only[M.aEO.sh,oH,Has]at h;obtain⟨_,_,rfl,⟨_,rfl,w1,q1⟩,_,_,rfl,⟨C,rfl,w2⟩,_,_,rfl,⟨_,rfl,w3,q3⟩,_,_,rfl,⟨J,rfl,w4⟩,_,_,rfl,⟨U,rfl⟩,_,_,rfl,⟨a6,rfl⟩,rfl⟩:=h;obtain⟨j,rfl,e1⟩:=bA M.Instr.cT q1;obtain⟨I,rfl,e3⟩:=bA Tr q3;exact⟨⟨j,C,I,J,U,a6⟩,rfl,⟨⟨by simpa using w1,e1⟩,wf_i64 w2,⟨by simpa using w3,e3⟩,wf_i64 w4⟩⟩
def M.aEO.sz(x:M.aEO):Nat:=(x.aEp.length+aV M.Instr.sz x.aEp)+(x.aE3.length)
theorem M.aEO.mX(x:M.aEO)(j:M.aEO.ok x):Sz (wJ x) (M.aEO.sz x):=by intro l a b;unfold wJ M.aEO.sz;exact(Sz.uW (M.FB.mX _ j.aEp) (Sz.call (M.N7.mX _ j.aE3))) l a b
theorem M.aEO.mH(x:M.aEO)(j:M.aEO.ok x)(C:M.aEO.sz x<=1048576):vO x=some x:=by unfold M.aEO.sz at C;unfold vO;rw[M.FB.mH _ j.aEp jD,qA,M.N7.mH _ j.aE3 jD,qA]
theorem M.aEO.mG(x:M.aEO)(j:M.aEO.ok x):vC x x=some true:=by simp[vC,M.FB.mG _ j.aEp,M.N7.mG _ j.aE3]
structure M.bS.ok (x:M.bS):Prop where
 Id:inI x.Id
 aET:x.aET.size<=maxLen
 Top:x.Top.size<=maxLen
 aER:inI x.aER
 aK:(x.aK.length<=maxLen/\∀y∈x.aK,M.aK.ok y)
 aEO:M.aEO.ok x.aEO
def M.bS.sh:List Shp:=[.int .i64,.str,.str,.int .i64,.sl M.aK.sh,.sl M.Instr.sh,.int .i64,.sl [.int .i64],.int .i64,.bool,.bool]
theorem M.bS.cT(d:List D)(h:oH M.bS.sh d):∃x,d=M.bS.en x/\M.bS.ok x:=by simp only[M.bS.sh,oH,Has]at h;obtain⟨_,_,rfl,⟨j,rfl,w1⟩,_,_,rfl,⟨C,rfl,w2⟩,_,_,rfl,⟨I,rfl,w3⟩,_,_,rfl,⟨J,rfl,w4⟩,_,_,rfl,⟨_,rfl,w5,q5⟩,_,_,rfl,⟨_,rfl,w6,q6⟩,_,_,rfl,⟨a7,rfl,w7⟩,_,_,rfl,⟨_,rfl,w8,q8⟩,_,_,rfl,⟨a9,rfl,w9⟩,_,_,rfl,⟨aa,rfl⟩,_,_,rfl,⟨ae,rfl⟩,rfl⟩:=h;obtain⟨U,rfl,e5⟩:=bA M.aK.cT q5;obtain⟨a6,rfl,e6⟩:=bA M.Instr.cT q6;obtain⟨a8,rfl,e8⟩:=bA Tr q8;exact⟨⟨j,C,I,J,U,⟨a6,a7,a8,a9,aa,ae⟩⟩,rfl,⟨wf_i64 w1,w2,w3,wf_i64 w4,⟨by simpa using w5,e5⟩,⟨⟨by simpa using w6,e6⟩,wf_i64 w7,⟨by simpa using w8,e8⟩,wf_i64 w9⟩⟩⟩
def M.bS.sz(x:M.bS):Nat:=x.aET.size+(x.Top.size+((x.aK.length+aV M.aK.sz x.aK)+(M.aEO.sz x.aEO)))
theorem M.bS.mX(x:M.bS)(j:M.bS.ok x):Sz (uV x) (M.bS.sz x):=by intro l a b;unfold uV M.bS.sz;exact(Sz.DI j.aET (Sz.DI j.Top (Sz.uW (M.Dm.mX _ j.aK) (Sz.call (M.aEO.mX _ j.aEO))))) l a b
theorem M.bS.mH(x:M.bS)(j:M.bS.ok x)(C:M.bS.sz x<=1048576):lY x=some x:=by unfold M.bS.sz at C;unfold lY;rw[M.Dm.mH _ j.aK jD,qA,M.aEO.mH _ j.aEO jD,qA]
theorem M.bS.mG(x:M.bS)(j:M.bS.ok x):uR x x=some true:=by simp[uR,M.Dm.mG _ j.aK,M.aEO.mG _ j.aEO]
theorem M.LR.mX(xs:List M.bS)(j:(xs.length<=maxLen/\∀y∈xs,M.bS.ok y)):Sz (Ct xs) (xs.length+aV M.bS.sz xs):=DR j (λy h=>M.bS.mX y h)
theorem M.LR.mH(xs:List M.bS)(C:(xs.length<=maxLen/\∀y∈xs,M.bS.ok y))(j:(xs.length+aV M.bS.sz xs)<=1048576):Cu xs=some xs:=Ds C j jG (λy h z=>M.bS.mH y h z)
theorem M.LR.mG(xs:List M.bS)(j:(xs.length<=maxLen/\∀y∈xs,M.bS.ok y)):Cw xs xs=some true:=C5 j (λy h=>M.bS.mG y h)
structure M.eV.ok (x:M.eV):Prop where
 Name:x.Name.size<=maxLen
 bS:inI x.bS
def M.eV.sh:List Shp:=[.str,.int .i64,.bool,.bool]
theorem M.eV.cT(d:List D)(h:oH M.eV.sh d):∃x,d=M.eV.en x/\M.eV.ok x:=by simp only[M.eV.sh,oH,Has]at h;obtain⟨_,_,rfl,⟨j,rfl,U⟩,_,_,rfl,⟨C,rfl,w2⟩,_,_,rfl,⟨I,rfl⟩,_,_,rfl,⟨J,rfl⟩,rfl⟩:=h;exact⟨⟨j,C,I,J⟩,rfl,⟨U,wf_i64 w2⟩⟩
def M.eV.sz(x:M.eV):Nat:=x.Name.size
theorem M.eV.mX(x:M.eV)(j:M.eV.ok x):Sz (zZ x) (M.eV.sz x):=by intro l a b;unfold zZ M.eV.sz;exact(Sz.str j.Name) l a b
theorem M.eV.mH(x:M.eV)(C:M.eV.ok x)(j:M.eV.sz x<=1048576):zG x=some x:=by unfold M.eV.sz at j;unfold zG;rfl
theorem M.eV.mG(x:M.eV)(j:M.eV.ok x):zU x x=some true:=by simp[zU]
theorem M.LY.mX(xs:List M.eV)(j:(xs.length<=maxLen/\∀y∈xs,M.eV.ok y)):Sz (Cs xs) (xs.length+aV M.eV.sz xs):=DR j (λy h=>M.eV.mX y h)
theorem M.LY.mH(xs:List M.eV)(C:(xs.length<=maxLen/\∀y∈xs,M.eV.ok y))(j:(xs.length+aV M.eV.sz xs)<=1048576):Cr xs=some xs:=Ds C j jG (λy h z=>M.eV.mH y h z)
theorem M.LY.mG(xs:List M.eV)(j:(xs.length<=maxLen/\∀y∈xs,M.eV.ok y)):Cp xs xs=some true:=C5 j (λy h=>M.eV.mG y h)
structure M.aR.ok (x:M.aR):Prop where
 aEh:(x.aEh.length<=maxLen/\∀y∈x.aEh,M.eV.ok y)
def M.aR.sh:List Shp:=[.sl M.eV.sh]
theorem M.aR.cT(d:List D)(h:oH M.aR.sh d):∃x,d=M.aR.en x/\M.aR.ok x:=by simp only[M.aR.sh,oH,Has]at h;obtain⟨_,_,rfl,⟨_,rfl,I,C⟩,rfl⟩:=h;obtain⟨j,rfl,e1⟩:=bA M.eV.cT C;exact⟨⟨j⟩,rfl,⟨⟨by simpa using I,e1⟩⟩⟩
def M.aR.sz(x:M.aR):Nat:=x.aEh.length+aV M.eV.sz x.aEh
theorem M.aR.mX(x:M.aR)(j:M.aR.ok x):Sz (rA x) (M.aR.sz x):=by intro l a b;unfold rA M.aR.sz;exact(Sz.call (M.LY.mX _ j.aEh)) l a b
theorem M.aR.mH(x:M.aR)(C:M.aR.ok x)(j:M.aR.sz x<=1048576):rC x=some x:=by unfold M.aR.sz at j;unfold rC;rw[M.LY.mH _ C.aEh jD,qA]
theorem M.aR.mG(x:M.aR)(j:M.aR.ok x):rD x x=some true:=by simp[rD,M.LY.mG _ j.aEh]
structure M.gT.ok (x:M.gT):Prop where
 To:inI x.To
 aFL:inI x.aFL
 N:inI x.N
def M.gT.sh:List Shp:=[.int .i64,.int .i64,.int .i64]
theorem M.gT.cT(d:List D)(h:oH M.gT.sh d):∃x,d=M.gT.en x/\M.gT.ok x:=by simp only[M.gT.sh,oH,Has]at h;obtain⟨_,_,rfl,⟨j,rfl,J⟩,_,_,rfl,⟨C,rfl,U⟩,_,_,rfl,⟨I,rfl,w3⟩,rfl⟩:=h;exact⟨⟨j,C,I⟩,rfl,⟨wf_i64 J,wf_i64 U,wf_i64 w3⟩⟩
theorem M.gT.mH(x:M.gT)(j:M.gT.ok x):zO x=some x:=by unfold zO;rfl
theorem M.gT.mG(x:M.gT)(j:M.gT.ok x):zW x x=some true:=by simp[zW]
theorem M.MK.mX(xs:List M.gT)(j:(xs.length<=maxLen/\∀y∈xs,M.gT.ok y)):Sz (As xs) (xs.length):=by intro l a b;unfold As;exact(Sz.str j.1) l a b
theorem M.MK.mH(xs:List M.gT)(C:(xs.length<=maxLen/\∀y∈xs,M.gT.ok y))(j:xs.length<=1048576):Cm xs=some xs:=QP C j jG (λy h=>M.gT.mH y h)
theorem M.MK.mG(xs:List M.gT)(j:(xs.length<=maxLen/\∀y∈xs,M.gT.ok y)):Cz xs xs=some true:=C5 j (λy h=>M.gT.mG y h)
structure M.aEY.ok (x:M.aEY):Prop where
 aEv:(x.aEv.length<=maxLen/\∀y∈x.aEv,M.gT.ok y)
def M.aEY.sh:List Shp:=[.sl M.gT.sh]
theorem M.aEY.cT(d:List D)(h:oH M.aEY.sh d):∃x,d=M.aEY.en x/\M.aEY.ok x:=by simp only[M.aEY.sh,oH,Has]at h;obtain⟨_,_,rfl,⟨_,rfl,I,C⟩,rfl⟩:=h;obtain⟨j,rfl,e1⟩:=bA M.gT.cT C;exact⟨⟨j⟩,rfl,⟨⟨by simpa using I,e1⟩⟩⟩
def M.aEY.sz(x:M.aEY):Nat:=x.aEv.length
theorem M.aEY.mX(x:M.aEY)(j:M.aEY.ok x):Sz (wF x) (M.aEY.sz x):=by intro l a b;unfold wF M.aEY.sz;exact(Sz.call (M.MK.mX _ j.aEv)) l a b
theorem M.aEY.mH(x:M.aEY)(C:M.aEY.ok x)(j:M.aEY.sz x<=1048576):vM x=some x:=by unfold M.aEY.sz at j;unfold vM;rw[M.MK.mH _ C.aEv jD,qA]
theorem M.aEY.mG(x:M.aEY)(j:M.aEY.ok x):vX x x=some true:=by simp[vX,M.MK.mG _ j.aEv]
theorem M.Bs.mX(xs:List ByteArray)(j:okS xs):Sz (vA xs) (xs.length+aV ByteArray.size xs):=by intro l a b;unfold vA;exact(Sz.strs j (λ_ _ _=>rfl)) l a b
theorem M.Bs.mH(xs:List ByteArray)(j:okS xs)(J:(xs.length+aV ByteArray.size xs)<=1048576):wI xs=some xs:=by have C:=le_max j.1;unfold wI;rw[PS jD jD,qA];refine NH j.1 (λn k r hk I=> ?_) (λn r=> ?_) fuel 0 _ jI jD jF jF;(simp only[lI];rw[if_pos (bL hk),aM hk,qA,aM jD,qA,bI jD,qH]);·simp only[lI];rw[if_neg jK]
theorem M.Bs.mG(xs:List ByteArray)(j:okS xs):wD xs xs=some true:=by have C:=le_max j.1;unfold wD;rw[if_neg jF];refine Nc j.1 (λn k hk=> ?_) (λn=> ?_) fuel 0 jI jD;(simp only[lJ];rw[if_pos (bL hk),aM hk];simp[bI (show k<9223372036854775807 by omega)]);·simp only[lJ];rw[if_neg jK]
structure M.aET.ok (x:M.aET):Prop where
 Name:x.Name.size<=maxLen
 aER:inI x.aER
 aE6:okS x.aE6
def M.aET.sh:List Shp:=[.str,.int .i64,.sl [.str],.bool]
theorem M.aET.cT(d:List D)(h:oH M.aET.sh d):∃x,d=M.aET.en x/\M.aET.ok x:=by simp only[M.aET.sh,oH,Has]at h;obtain⟨_,_,rfl,⟨j,rfl,w1⟩,_,_,rfl,⟨C,rfl,w2⟩,_,_,rfl,⟨_,rfl,w3,U⟩,_,_,rfl,⟨J,rfl⟩,rfl⟩:=h;obtain⟨I,rfl,e3⟩:=bA WI U;exact⟨⟨j,C,I,J⟩,rfl,⟨w1,wf_i64 w2,⟨by simpa using w3,e3⟩⟩⟩
def M.aET.sz(x:M.aET):Nat:=x.Name.size+(x.aE6.length+aV ByteArray.size x.aE6)
theorem M.aET.mX(x:M.aET)(j:M.aET.ok x):Sz (yZ x) (M.aET.sz x):=by intro l a b;unfold yZ M.aET.sz;exact(Sz.DI j.Name (Sz.call (M.Bs.mX _ j.aE6))) l a b
theorem M.aET.mH(x:M.aET)(C:M.aET.ok x)(j:M.aET.sz x<=1048576):zK x=some x:=by unfold M.aET.sz at j;unfold zK;rw[M.Bs.mH _ C.aE6 jD,qA]
theorem M.aET.mG(x:M.aET)(j:M.aET.ok x):yX x x=some true:=by simp[yX,M.Bs.mG _ j.aE6]
theorem M.LL.mX(xs:List M.aET)(j:(xs.length<=maxLen/\∀y∈xs,M.aET.ok y)):Sz (CF xs) (xs.length+aV M.aET.sz xs):=DR j (λy h=>M.aET.mX y h)
theorem M.LL.mH(xs:List M.aET)(C:(xs.length<=maxLen/\∀y∈xs,M.aET.ok y))(j:(xs.length+aV M.aET.sz xs)<=1048576):Cx xs=some xs:=Ds C j jG (λy h z=>M.aET.mH y h z)
theorem M.LL.mG(xs:List M.aET)(j:(xs.length<=maxLen/\∀y∈xs,M.aET.ok y)):CH xs xs=some true:=C5 j (λy h=>M.aET.mG y h)
structure M.aQ.ok (x:M.aQ):Prop where
 aEd:inI x.aEd
 Seq:inI x.Seq
def M.aQ.sh:List Shp:=[.int .i64,.int .i64]
theorem M.aQ.cT(d:List D)(h:oH M.aQ.sh d):∃x,d=M.aQ.en x/\M.aQ.ok x:=by simp only[M.aQ.sh,oH,Has]at h;obtain⟨_,_,rfl,⟨j,rfl,I⟩,_,_,rfl,⟨C,rfl,J⟩,rfl⟩:=h;exact⟨⟨j,C⟩,rfl,⟨wf_i64 I,wf_i64 J⟩⟩
theorem M.aQ.mH(x:M.aQ)(j:M.aQ.ok x):pN x=some x:=by unfold pN;rfl
theorem M.aQ.mG(x:M.aQ)(j:M.aQ.ok x):pC x x=some true:=by simp[pC]
theorem M.Di.mX(xs:List M.aQ)(j:(xs.length<=maxLen/\∀y∈xs,M.aQ.ok y)):Sz (tO xs) (xs.length):=by intro l a b;unfold tO;exact(Sz.str j.1) l a b
theorem M.Di.mH(xs:List M.aQ)(C:(xs.length<=maxLen/\∀y∈xs,M.aQ.ok y))(j:xs.length<=1048576):zS xs=some xs:=QP C j jG (λy h=>M.aQ.mH y h)
theorem M.Di.mG(xs:List M.aQ)(j:(xs.length<=maxLen/\∀y∈xs,M.aQ.ok y)):zF xs xs=some true:=C5 j (λy h=>M.aQ.mG y h)
structure M.aEX.ok (x:M.aEX):Prop where
 aC:M.aC.ok x.aC
 aQ:(x.aQ.length<=maxLen/\∀y∈x.aQ,M.aQ.ok y)
 aEu:(x.aEu.length<=maxLen/\∀y∈x.aEu,M.bB.ok y)
def M.aEX.sh:List Shp:=[.str,.sl M.aES.sh,.int .i64,.sl M.aQ.sh,.sl M.bB.sh]
theorem M.aEX.cT(d:List D)(h:oH M.aEX.sh d):∃x,d=M.aEX.en x/\M.aEX.ok x:=by simp only[M.aEX.sh,oH,Has]at h;obtain⟨_,_,rfl,⟨j,rfl,w1⟩,_,_,rfl,⟨_,rfl,w2,q2⟩,_,_,rfl,⟨I,rfl,w3⟩,_,_,rfl,⟨_,rfl,w4,q4⟩,_,_,rfl,⟨_,rfl,w5,q5⟩,rfl⟩:=h;obtain⟨C,rfl,e2⟩:=bA M.aES.cT q2;obtain⟨J,rfl,e4⟩:=bA M.aQ.cT q4;obtain⟨U,rfl,e5⟩:=bA M.bB.cT q5;exact⟨⟨⟨j,C,I⟩,J,U⟩,rfl,⟨⟨w1,⟨by simpa using w2,e2⟩,wf_i64 w3⟩,⟨by simpa using w4,e4⟩,⟨by simpa using w5,e5⟩⟩⟩
def M.aEX.sz(x:M.aEX):Nat:=M.aC.sz x.aC+(x.aQ.length+(x.aEu.length+aV M.bB.sz x.aEu))
theorem M.aEX.mX(x:M.aEX)(j:M.aEX.ok x):Sz (sL x) (M.aEX.sz x):=by intro l a b;unfold sL M.aEX.sz;exact(Sz.uW (M.aC.mX _ j.aC) (Sz.uW (M.Di.mX _ j.aQ) (Sz.call (M.DL.mX _ j.aEu)))) l a b
theorem M.aEX.mH(x:M.aEX)(j:M.aEX.ok x)(C:M.aEX.sz x<=1048576):uA x=some x:=by unfold M.aEX.sz at C;unfold uA;rw[M.aC.mH _ j.aC jD,qA,M.Di.mH _ j.aQ jD,qA,M.DL.mH _ j.aEu jD,qA]
theorem M.aEX.mG(x:M.aEX)(j:M.aEX.ok x):sW x x=some true:=by simp[sW,M.aC.mG _ j.aC,M.Di.mG _ j.aQ,M.DL.mG _ j.aEu]
theorem M.EB.mX(xs:List M.aEX)(j:(xs.length<=maxLen/\∀y∈xs,M.aEX.ok y)):Sz (A7 xs) (xs.length+aV M.aEX.sz xs):=DR j (λy h=>M.aEX.mX y h)
theorem M.EB.mH(xs:List M.aEX)(C:(xs.length<=maxLen/\∀y∈xs,M.aEX.ok y))(j:(xs.length+aV M.aEX.sz xs)<=1048576):AP xs=some xs:=Ds C j jG (λy h z=>M.aEX.mH y h z)
theorem M.EB.mG(xs:List M.aEX)(j:(xs.length<=maxLen/\∀y∈xs,M.aEX.ok y)):A0 xs xs=some true:=C5 j (λy h=>M.aEX.mG y h)
structure M.World.ok (x:M.World):Prop where
 Now:inI x.Now
 aEd:inI x.aEd
 aD:M.aD.ok x.aD
 aEq:(x.aEq.length<=maxLen/\∀y∈x.aEq,M.bS.ok y)
 aEl:inI x.aEl
 aEh:M.aR.ok x.aEh
 aEY:M.aEY.ok x.aEY
 aEr:(x.aEr.length<=maxLen/\∀y∈x.aEr,M.aET.ok y)
 aEi:(x.aEi.length<=maxLen/\∀y∈x.aEi,M.aEX.ok y)
def M.World.sh:List Shp:=[.int .i64,.bool,.int .i64,.sl M.aEJ.sh,.sl M.bS.sh,.int .i64,.sl M.eV.sh,.sl M.gT.sh,.sl M.aET.sh,.sl M.aEX.sh]
theorem M.World.cT(d:List D)(h:oH M.World.sh d):∃x,d=M.World.en x/\M.World.ok x:=by simp only[M.World.sh,oH,Has]at h;obtain⟨_,_,rfl,⟨j,rfl,w1⟩,_,_,rfl,⟨C,rfl⟩,_,_,rfl,⟨I,rfl,w3⟩,_,_,rfl,⟨_,rfl,w4,q4⟩,_,_,rfl,⟨_,rfl,w5,q5⟩,_,_,rfl,⟨a6,rfl,w6⟩,_,_,rfl,⟨_,rfl,w7,q7⟩,_,_,rfl,⟨_,rfl,w8,q8⟩,_,_,rfl,⟨_,rfl,w9,q9⟩,_,_,rfl,⟨_,rfl,aa,ae⟩,rfl⟩:=h;obtain⟨J,rfl,e4⟩:=bA M.aEJ.cT q4;obtain⟨U,rfl,e5⟩:=bA M.bS.cT q5;obtain⟨a7,rfl,e7⟩:=bA M.eV.cT q7;obtain⟨a8,rfl,e8⟩:=bA M.gT.cT q8;obtain⟨a9,rfl,e9⟩:=bA M.aET.cT q9;obtain⟨af,rfl,ah⟩:=bA M.aEX.cT ae;exact⟨⟨j,C,I,⟨J⟩,U,a6,⟨a7⟩,⟨a8⟩,a9,af⟩,rfl,⟨wf_i64 w1,wf_i64 w3,⟨⟨by simpa using w4,e4⟩⟩,⟨by simpa using w5,e5⟩,wf_i64 w6,⟨⟨by simpa using w7,e7⟩⟩,⟨⟨by simpa using w8,e8⟩⟩,⟨by simpa using w9,e9⟩,⟨by simpa using aa,ah⟩⟩⟩
def M.World.sz(x:M.World):Nat:=M.aD.sz x.aD+((x.aEq.length+aV M.bS.sz x.aEq)+(M.aR.sz x.aEh+(M.aEY.sz x.aEY+((x.aEr.length+aV M.aET.sz x.aEr)+(x.aEi.length+aV M.aEX.sz x.aEi)))))
theorem M.World.mX(x:M.World)(j:M.World.ok x):Sz (Aq x) (M.World.sz x):=by intro l a b;unfold Aq M.World.sz;exact(Sz.uW (M.aD.mX _ j.aD) (Sz.uW (M.LR.mX _ j.aEq) (Sz.uW (M.aR.mX _ j.aEh) (Sz.uW (M.aEY.mX _ j.aEY) (Sz.uW (M.LL.mX _ j.aEr) (Sz.call (M.EB.mX _ j.aEi))))))) l a b
theorem M.World.mH(x:M.World)(j:M.World.ok x)(C:M.World.sz x<=1048576):nP x=some x:=by unfold M.World.sz at C;unfold nP;rw[M.aD.mH _ j.aD jD,qA,M.LR.mH _ j.aEq jD,qA,M.aR.mH _ j.aEh jD,qA,M.aEY.mH _ j.aEY jD,qA,M.LL.mH _ j.aEr jD,qA,M.EB.mH _ j.aEi jD,qA]
theorem M.World.mG(x:M.World)(j:M.World.ok x):nK x x=some true:=by simp[nK,M.aD.mG _ j.aD,M.LR.mG _ j.aEq,M.aR.mG _ j.aEh,M.aEY.mG _ j.aEY,M.LL.mG _ j.aEr,M.EB.mG _ j.aEi]
