/-
  Helper text. No conditions.
-/
import Derived.Test.YtjlnkcoeghonfaaGreatRunPagePl
set_option linter.all false
namespace Go.Proofs.YtjlnkcoeghonfaaGreat.gen
open Go Go.Sh
def NH(b o:M.aJi):M.aJi×Bool:=if yY b=true then if yY o=true then(o,true)else(b,false)else(b,false)
theorem Wr{b o:M.aJi}(hb:b.ok)(j:o.ok):M.aJi.ok (NH b o).1:=by unfold NH;split;(split;(exact j);·exact hb);·exact hb
theorem W9(b o:M.aJi):M.aJi.sz (NH b o).1<=M.aJi.sz b+M.aJi.sz o:=by unfold NH;split;(split<;>simp only<;>omega);·simp only;omega
theorem HT{b o:M.aJi}(hb:b.ok)(j:o.ok)(C:M.aJi.sz b<=1500000)(J:M.aJi.sz o<=1073741824)(I:M.aJj.sz o.bL.aJ8<=1500000):nK b o=some (NH b o):=by unfold nK NH;rw[Og hb C,qA,AO b jD,Ff j I];cases yY b;(simp);·cases yY o<;>simp
theorem QB(b o:M.aJi):((some (NH b o)).bind λx=>if x.2=true then some (o,true)else some (x.1,false))=some (NH b o):=by unfold NH;cases yY b<;>cases yY o<;>rfl
theorem Ft{b o:M.aJi}(hb:b.ok)(j:o.ok)(C:M.aJi.sz b<=1500000)(J:M.aJi.sz o<=1073741824)(I:M.aJj.sz o.bL.aJ8<=1500000):nC b o=some (NH b o):=by unfold nC NH;rw[Nc hb C,qA,yS b jD,Fh j I,yS o jD];cases yY b;(simp);·cases yY o<;>simp
def nQ(b:M.aJi)(k:M.bL):M.aJi:=(⟨b.aJr,b.Top,b.aJk,b.aJs,k,b.aE,b.aKC,b.aKB⟩:M.aJi)
theorem Iw{b:M.aJi}{k:M.bL}(hb:b.ok)(hk:k.ok):(nQ b k).ok:=⟨hb.aJr,hb.Top,hb.aJk,hb.aJs,hk,hb.aE,hb.aKC⟩
theorem Iy(b:M.aJi)(k:M.bL):M.aJi.sz (nQ b k)<=M.aJi.sz b+M.bL.sz k:=by simp only[nQ,M.aJi.sz];omega
theorem Ku{b:M.aJi}{k:M.bL}(hb:b.ok)(hk:k.ok)(j:M.aJi.sz b<=1500000)(zs:M.bL.sz k<=536870912)(C:M.aJj.sz (nQ b k).bL.aJ8<=1500000):vV b k=some (NH b (nQ b k)):=by have I:=Iy b k;unfold vV;rw[AO b jD,qA,GM k jD,qA];have e:=HT hb (Iw hb hk) j (show M.aJi.sz (nQ b k)<=1073741824 by omega) C;have e2:=QB b (nQ b k);unfold nQ at e e2⊢;rw[e];exact e2
theorem Kk{b:M.aJi}{k:M.bL}(hb:b.ok)(hk:k.ok)(j:M.aJi.sz b<=1500000)(zs:M.bL.sz k<=536870912)(C:M.aJj.sz (nQ b k).bL.aJ8<=1500000):uY b k=some (NH b (nQ b k)):=by have I:=Iy b k;unfold uY;have e:=Ft hb (Iw hb hk) j (show M.aJi.sz (nQ b k)<=1073741824 by omega) C;unfold nQ at e;rw[e];rfl
def eP(b:M.aJi)(r:M.aE):M.aJi:=(⟨b.aJr,b.Top,b.aJk,b.aJs,b.bL,r,b.aKC,b.aKB⟩:M.aJi)
theorem FT{b:M.aJi}{r:M.aE}(hb:b.ok)(j:r.ok):(eP b r).ok:=⟨hb.aJr,hb.Top,hb.aJk,hb.aJs,hb.bL,j,hb.aKC⟩
theorem Gc(b:M.aJi)(r:M.aE):M.aJi.sz (eP b r)<=M.aJi.sz b+M.aE.sz r:=by simp only[eP,M.aJi.sz];omega
theorem I4{b:M.aJi}{r:M.aE}(hb:b.ok)(j:r.ok)(C:M.aJi.sz b<=1500000)(zs:M.aE.sz r<=536870912)(I:M.aJj.sz (eP b r).bL.aJ8<=1500000):pF b r=some (NH b (eP b r)):=by have J:=Gc b r;unfold pF;rw[AO b jD,qA,GQ r jD,qA];have e:=HT hb (FT hb j) C (show M.aJi.sz (eP b r)<=1073741824 by omega) I;have e2:=QB b (eP b r);unfold eP at e e2⊢;rw[e];exact e2
theorem IZ{b:M.aJi}{r:M.aE}(hb:b.ok)(j:r.ok)(C:M.aJi.sz b<=1500000)(zs:M.aE.sz r<=536870912)(I:M.aJj.sz (eP b r).bL.aJ8<=1500000):pC b r=some (NH b (eP b r)):=by have J:=Gc b r;unfold pC;have e:=Ft hb (FT hb j) C (show M.aJi.sz (eP b r)<=1073741824 by omega) I;unfold eP at e;rw[e];rfl
