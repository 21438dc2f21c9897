/-
  Helper text. No conditions.
-/
import Derived.Test.YtbpbocchokbggaaGreatWriteNotePl
set_option linter.all false
namespace Go.Proofs.YtbpbocchokbggaaGreat.gen
open Go Go.Sh
def N9(b o:M.aEJ):M.aEJ×Bool:=if uO b=true then if uO o=true then(o,true)else(b,false)else(b,false)
theorem VF{b o:M.aEJ}(hb:b.ok)(j:o.ok):M.aEJ.ok (N9 b o).1:=by unfold N9;split;(split;(exact j);·exact hb);·exact hb
theorem VZ(b o:M.aEJ):M.aEJ.sz (N9 b o).1<=M.aEJ.sz b+M.aEJ.sz o:=by unfold N9;split;(split<;>simp only<;>omega);·simp only;omega
theorem Jj{b o:M.aEJ}(hb:b.ok)(j:o.ok)(C:M.aEJ.sz b<=1048576)(J:M.aEJ.sz o<=1073741824)(I:M.aEK.sz o.bK.aEe<=1048576):mV b o=some (N9 b o):=by unfold mV N9;rw[KD hb C,qA,Az b jD,C1 j I];cases uO b;(simp);·cases uO o<;>simp
theorem Q4(b o:M.aEJ):((some (N9 b o)).bind λx=>if x.2=true then some (o,true)else some (x.1,false))=some (N9 b o):=by unfold N9;cases uO b<;>cases uO o<;>rfl
theorem F9{b o:M.aEJ}(hb:b.ok)(j:o.ok)(C:M.aEJ.sz b<=1048576)(J:M.aEJ.sz o<=1073741824)(I:M.aEK.sz o.bK.aEe<=1048576):nA b o=some (N9 b o):=by unfold nA N9;rw[JR hb C,qA,uI b jD,C3 j I,uI o jD];cases uO b;(simp);·cases uO o<;>simp
def nC(b:M.aEJ)(k:M.bK):M.aEJ:=(⟨b.aET,b.Top,b.aEL,b.aEV,k,b.aF,b.aEk,b.aEg⟩:M.aEJ)
theorem Fk{b:M.aEJ}{k:M.bK}(hb:b.ok)(hk:k.ok):(nC b k).ok:=⟨hb.aET,hb.Top,hb.aEL,hb.aEV,hk,hb.aF,hb.aEk⟩
theorem Fo(b:M.aEJ)(k:M.bK):M.aEJ.sz (nC b k)<=M.aEJ.sz b+M.bK.sz k:=by simp only[nC,M.aEJ.sz];omega
theorem Hr{b:M.aEJ}{k:M.bK}(hb:b.ok)(hk:k.ok)(j:M.aEJ.sz b<=1048576)(zs:M.bK.sz k<=536870912)(C:M.aEK.sz (nC b k).bK.aEe<=1048576):rQ b k=some (N9 b (nC b k)):=by have I:=Fo b k;unfold rQ;rw[Az b jD,qA,DY k jD,qA];have e:=Jj hb (Fk hb hk) j (show M.aEJ.sz (nC b k)<=1073741824 by omega) C;have e2:=Q4 b (nC b k);unfold nC at e e2⊢;rw[e];exact e2
theorem He{b:M.aEJ}{k:M.bK}(hb:b.ok)(hk:k.ok)(j:M.aEJ.sz b<=1048576)(zs:M.bK.sz k<=536870912)(C:M.aEK.sz (nC b k).bK.aEe<=1048576):pY b k=some (N9 b (nC b k)):=by have I:=Fo b k;unfold pY;have e:=F9 hb (Fk hb hk) j (show M.aEJ.sz (nC b k)<=1073741824 by omega) C;unfold nC at e;rw[e];rfl
