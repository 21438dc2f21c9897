/-
  Helper text. No conditions.
-/
import Derived.Test.YtjlnkcoeghonfaaGreatStepPagePl
set_option linter.all false
namespace Go.Proofs.YtjlnkcoeghonfaaGreat.gen
open Go Go.Sh
def NB(b o:M.aJa):M.aJa×Bool:=if yW b=true then if yW o=true then(o,true)else(b,false)else(b,false)
theorem Wm{b o:M.aJa}(hb:b.ok)(j:o.ok):M.aJa.ok (NB b o).1:=by unfold NB;split;(split;(exact j);·exact hb);·exact hb
theorem W3(b o:M.aJa):M.aJa.sz (NB b o).1<=M.aJa.sz b+M.aJa.sz o:=by unfold NB;split;(split<;>simp only<;>omega);·simp only;omega
theorem HN{b o:M.aJa}(hb:b.ok)(j:o.ok)(C:M.aJa.sz b<=1048576)(J:M.aJa.sz o<=1073741824)(I:M.aJb.sz o.bL.aJz<=1048576):nH b o=some (NB b o):=by unfold nH NB;rw[Ob hb C,qA,AM b jD,E4 j I];cases yW b;(simp);·cases yW o<;>simp
theorem Qx(b o:M.aJa):((some (NB b o)).bind λx=>if x.2=true then some (o,true)else some (x.1,false))=some (NB b o):=by unfold NB;cases yW b<;>cases yW o<;>rfl
theorem Fh{b o:M.aJa}(hb:b.ok)(j:o.ok)(C:M.aJa.sz b<=1048576)(J:M.aJa.sz o<=1073741824)(I:M.aJb.sz o.bL.aJz<=1048576):nA b o=some (NB b o):=by unfold nA NB;rw[M6 hb C,qA,yQ b jD,E7 j I,yQ o jD];cases yW b;(simp);·cases yW o<;>simp
def nN(b:M.aJa)(k:M.bL):M.aJa:=(⟨b.aJj,b.Top,b.aJc,b.aJk,k,b.aE,b.aJ4,b.aJ3⟩:M.aJa)
theorem Io{b:M.aJa}{k:M.bL}(hb:b.ok)(hk:k.ok):(nN b k).ok:=⟨hb.aJj,hb.Top,hb.aJc,hb.aJk,hk,hb.aE,hb.aJ4⟩
theorem Iq(b:M.aJa)(k:M.bL):M.aJa.sz (nN b k)<=M.aJa.sz b+M.bL.sz k:=by simp only[nN,M.aJa.sz];omega
theorem Ko{b:M.aJa}{k:M.bL}(hb:b.ok)(hk:k.ok)(j:M.aJa.sz b<=1048576)(zs:M.bL.sz k<=536870912)(C:M.aJb.sz (nN b k).bL.aJz<=1048576):vQ b k=some (NB b (nN b k)):=by have I:=Iq b k;unfold vQ;rw[AM b jD,qA,GH k jD,qA];have e:=HN hb (Io hb hk) j (show M.aJa.sz (nN b k)<=1073741824 by omega) C;have e2:=Qx b (nN b k);unfold nN at e e2⊢;rw[e];exact e2
theorem Ke{b:M.aJa}{k:M.bL}(hb:b.ok)(hk:k.ok)(j:M.aJa.sz b<=1048576)(zs:M.bL.sz k<=536870912)(C:M.aJb.sz (nN b k).bL.aJz<=1048576):uW b k=some (NB b (nN b k)):=by have I:=Iq b k;unfold uW;have e:=Fh hb (Io hb hk) j (show M.aJa.sz (nN b k)<=1073741824 by omega) C;unfold nN at e;rw[e];rfl
def eO(b:M.aJa)(r:M.aE):M.aJa:=(⟨b.aJj,b.Top,b.aJc,b.aJk,b.bL,r,b.aJ4,b.aJ3⟩:M.aJa)
theorem FM{b:M.aJa}{r:M.aE}(hb:b.ok)(j:r.ok):(eO b r).ok:=⟨hb.aJj,hb.Top,hb.aJc,hb.aJk,hb.bL,j,hb.aJ4⟩
theorem F7(b:M.aJa)(r:M.aE):M.aJa.sz (eO b r)<=M.aJa.sz b+M.aE.sz r:=by simp only[eO,M.aJa.sz];omega
theorem IU{b:M.aJa}{r:M.aE}(hb:b.ok)(j:r.ok)(C:M.aJa.sz b<=1048576)(zs:M.aE.sz r<=536870912)(I:M.aJb.sz (eO b r).bL.aJz<=1048576):pA b r=some (NB b (eO b r)):=by have J:=F7 b r;unfold pA;rw[AM b jD,qA,GK r jD,qA];have e:=HN hb (FM hb j) C (show M.aJa.sz (eO b r)<=1073741824 by omega) I;have e2:=Qx b (eO b r);unfold eO at e e2⊢;rw[e];exact e2
theorem IP{b:M.aJa}{r:M.aE}(hb:b.ok)(j:r.ok)(C:M.aJa.sz b<=1048576)(zs:M.aE.sz r<=536870912)(I:M.aJb.sz (eO b r).bL.aJz<=1048576):oV b r=some (NB b (eO b r)):=by have J:=F7 b r;unfold oV;have e:=Fh hb (FM hb j) C (show M.aJa.sz (eO b r)<=1073741824 by omega) I;unfold eO at e;rw[e];rfl
