/-
  Helper text. No conditions.
-/
import Derived.Test.YtbpbocchokbggaaGreatWriteNotePi
set_option linter.all false
namespace Go.Proofs.YtbpbocchokbggaaGreat.gen
open Go Go.Sh
theorem FU(x:Int):inI (IntKind.i64.wrap x):=by unfold inI;rw[IntKind.wrap_i64];omega
theorem HU{α:Type}{f:α->Nat}{x:α}:∀{l:List α} {i:Nat},aV f (l.set i x)<=aV f l+f x
 |[],_=>by simp[aV]
 |y::l,0=>by simp only[List.set_cons_zero,aV];omega
 |y::l,i+1=>by have:=HU (f:=f) (x:=x) (l:=l) (i:=i);simp only[List.set_cons_succ,aV];omega
theorem G7{α:Type}{f:α->Nat}:∀(l r:List α),aV f (l++r)=aV f l+aV f r
 |[],r=>by simp[aV]
 |y::l,r=>by simp only[List.cons_append,aV,G7 l r];omega
theorem JC(x:List M.Instr)(j:x.length<=1073741824):vW x=some x:=by unfold vW;rw[GN j jD,qA]
theorem KI(x:M.aEO)(j:M.aEO.sz x<=1073741824):Av x=some x:=by simp only[M.aEO.sz]at j;unfold Av;rw[JC _ jD,qA,GN jD jD,qA]
theorem KR(x:M.bS)(j:M.bS.sz x<=1073741824):Ao x=some x:=by simp only[M.bS.sz]at j;unfold Ao;rw[GN jD jD,qA,KI _ jD,qA]
theorem KU(x:M.aR)(j:M.aR.sz x<=1073741824):xD x=some x:=by simp only[M.aR.sz]at j;unfold xD;rw[GN jD jD,qA]
theorem KW(x:M.aEY)(j:M.aEY.sz x<=1073741824):xA x=some x:=by simp only[M.aEY.sz]at j;unfold xA;rw[GN jD jD,qA]
theorem KQ(x:M.aET)(j:M.aET.sz x<=1073741824):Ay x=some x:=by simp only[M.aET.sz]at j;unfold Ay;rw[GN jD jD,qA]
theorem KM(x:M.aEX)(j:M.aEX.sz x<=1073741824):Ar x=some x:=by simp only[M.aEX.sz]at j;unfold Ar;rw[uX _ jD,qA,GN jD jD,qA,GN jD jD,qA]
theorem Hb(x:M.aEO)(j:M.aEO.sz x<=1073741824):rH x=some x:=by simp only[M.aEO.sz]at j;unfold rH;rw[GN jD jD,qA,GN jD jD,qA]
theorem Kk(x:M.bS)(j:M.bS.sz x<=1073741824):yU x=some x:=by simp only[M.bS.sz]at j;unfold yU;rw[GN jD jD,qA,Hb _ jD,qA]
theorem Jz(x:M.aR)(j:M.aR.sz x<=1073741824):vG x=some x:=by simp only[M.aR.sz]at j;unfold vG;rw[GN jD jD,qA]
theorem Hu(x:M.aEY)(j:M.aEY.sz x<=1073741824):rM x=some x:=by simp only[M.aEY.sz]at j;unfold rM;rw[GN jD jD,qA]
theorem Kq(x:M.aET)(j:M.aET.sz x<=1073741824):yK x=some x:=by simp only[M.aET.sz]at j;unfold yK;rw[GN jD jD,qA]
theorem IK(x:M.aEX)(j:M.aEX.sz x<=1073741824):tK x=some x:=by simp only[M.aEX.sz]at j;unfold tK;rw[lA _ jD,qA,GN jD jD,qA,GN jD jD,qA]
theorem Ju(x:List M.bS)(j:x.length+aV M.bS.sz x<=1073741824):vD x=some x:=by
 unfold vD
 exact Ac (xs:=x) (b:=144) (L:=iT x) (E:=some) jD jD (λn r k hk=>by
  have C:=gL (f:=M.bS.sz) (qG hk)
  simp only[iT]
  rw[if_pos (bL hk),aM hk,qA,Kk _ jD,qA,bI jD]) (λn r=>by
  simp only[iT]
  rw[if_neg jK])
theorem Gf(w:M.World)(C:M.World.sz w<=1073741824):xH w=some w:=by
 simp only[M.World.sz]at C
 have e3:gM w w.aD w.aEq w.aEh w.aEY w.aEr fuel 0 ([]:List M.aEX)=some w:=Ac (xs:=w.aEi) (b:=96) (L:=gM w w.aD w.aEq w.aEh w.aEY w.aEr) (E:=λr=>some { w with aEi:=r }) jD jD (λn r k hk=>by
   have j:=gL (f:=M.aEX.sz) (qG hk)
   simp only[gM]
   rw[if_pos (bL hk),aM hk,qA,KM _ jD,qA,bI jD]) (λn r=>by
   simp only[gM]
   rw[if_neg jK])
 have e2:gQ w w.aD w.aEq w.aEh w.aEY fuel 0 ([]:List M.aET)=some w:=(Ac (xs:=w.aEr) (b:=56) (L:=gQ w w.aD w.aEq w.aEh w.aEY) (E:=λr=>gM w w.aD w.aEq w.aEh w.aEY r fuel 0 ([]:List M.aEX)) jD jD (λn r k hk=>by
   have j:=gL (f:=M.aET.sz) (qG hk)
   simp only[gQ]
   rw[if_pos (bL hk),aM hk,qA,KQ _ jD,qA,bI jD]) (λn r=>by
   simp only[gQ]
   rw[if_neg jK])).trans e3
 have e1:jW w w.aD fuel 0 ([]:List M.bS)=some w:=(Ac (xs:=w.aEq) (b:=144) (L:=jW w w.aD) (E:=λr=>(xD w.aEh).bind λx=>(xA w.aEY).bind λy=>gQ w w.aD r x y fuel 0 ([]:List M.aET)) jD jD (λn r k hk=>by
   have j:=gL (f:=M.bS.sz) (qG hk)
   simp only[jW]
   rw[if_pos (bL hk),aM hk,qA,KR _ jD,qA,bI jD]) (λn r=>by
   simp only[jW]
   rw[if_neg jK])).trans (by rw[KU _ jD,qA,KW _ jD,qA];exact e2)
 unfold xH
 rw[DZ _ jD,qA]
 exact e1
theorem Jy(w:M.World)(j:M.World.sz w<=1073741824):vY w=some w:=by
 simp only[M.World.sz]at j
 have e3:eQ w w.aD w.aEq w.aEh w.aEY w.aEr fuel 0 ([]:List M.aEX)=some w:=Ac (xs:=w.aEi) (b:=96) (L:=eQ w w.aD w.aEq w.aEh w.aEY w.aEr) (E:=λr=>some { w with aEi:=r }) jD jD (λn r k hk=>by
   have C:=gL (f:=M.aEX.sz) (qG hk)
   simp only[eQ]
   rw[if_pos (bL hk),aM hk,qA,IK _ jD,qA,bI jD]) (λn r=>by
   simp only[eQ]
   rw[if_neg jK])
 have e2:gE w w.aD w.aEq w.aEh w.aEY fuel 0 ([]:List M.aET)=some w:=(Ac (xs:=w.aEr) (b:=56) (L:=gE w w.aD w.aEq w.aEh w.aEY) (E:=λr=>eQ w w.aD w.aEq w.aEh w.aEY r fuel 0 ([]:List M.aEX)) jD jD (λn r k hk=>by
   have C:=gL (f:=M.aET.sz) (qG hk)
   simp only[gE]
   rw[if_pos (bL hk),aM hk,qA,Kq _ jD,qA,bI jD]) (λn r=>by
   simp only[gE]
   rw[if_neg jK])).trans e3
 unfold vY
 rw[B8 _ jD,qA,Ju _ jD,qA,Jz _ jD,qA,Hu _ jD,qA]
 exact e2
