/-
  Helper text. No conditions.
-/
import Derived.Test.YtjlnkcoeghonfaaGreatRunPagePh
set_option linter.all false
namespace Go.Proofs.YtjlnkcoeghonfaaGreat.gen
open Go Go.Sh
open Go.IntKind (i64)
def nPl(f:M.aJt->Bool)(l:List M.aJt):Nat->Nat
 |0=>0
 |k+1=>if(l[k]?).any f=true then nPl f l k else k+1
theorem TY(f:M.aJt->Bool)(l:List M.aJt):∀k,nPl f l k<=k
 |0=>by simp[nPl]
 |k+1=>by unfold nPl;split;(exact Nat.le_succ_of_le (TY f l k));·exact qf _
theorem VN{α:Type}{l:List α}{i:Int}{x:α}(h:idx l i=some x):x∈l:=jB (aU h).2.1
theorem Lq{α:Type}{l:List α}{k:Nat}(h:k<=l.length):GR l (k:Int)=some (l.take k):=by unfold GR;rw[if_pos ⟨jD,by simpa using h⟩,qH]
def X9(a:ByteArray)(out:List M.aJt)(x:M.aJt):List M.aJt:=
 if(dV x.aC a).2=true then out.take (nPl (JO a x) out out.length)++(x::out.drop (nPl (JO a x) out out.length))else out
def Mj(s:M.aD)(a:ByteArray):List M.aJt:=s.aJm.foldl (X9 a) []
theorem Td(a:ByteArray)(out:List M.aJt)(x:M.aJt):(X9 a out x).length<=out.length+1:=by unfold X9;have:=TY (JO a x) out out.length;split;(simp only[qE,qU,qJ,qV];omega);·omega
theorem S8{a:ByteArray}{out:List M.aJt}{x y:M.aJt}(h:y∈X9 a out x):y=x\/y∈out:=by unfold X9 at h;split at h;(rcases qP.1 h with h|h;(exact .inr (qj h));·rcases qp.1 h with h|h;(exact .inl h);·exact .inr (qv h));·exact .inr h
theorem VC{a:ByteArray}{l:List M.aJt}{x:M.aJt}{K:Int->Option (List M.aJt)}(J:l.length<=1500000)(I:x.ok)(C:∀y∈l,M.aJt.ok y):
  ∀(n k:Nat),k<n->k<=l.length->nS a l x K n (k:Int)=K ((nPl (JO a x) l k:Nat):Int)
 |0,k,h,_=>by omega
 |n+1,0,h,_=>by simp only[nS,nPl];rw[if_neg jF]
 |n+1,k+1,h,hk=>by
  have j:k<l.length:=by omega
  have e:i64.wrap (((k+1:Nat):Int)-1)=(k:Int):=by rw[bI jD jD];omega
  simp only[nS]
  rw[if_pos jF,e,aH j,qA,P1 I (C _ (qG j)),qA,nPl,qF j,qe]
  cases hc:JO a x l[k]with
  |true=>rw[if_pos rfl,if_pos rfl];exact VC J I C n k jD jD
  |false=>rw[if_neg jF,if_neg jF]
theorem U3{a:ByteArray}{l:List M.aJt}{x:M.aJt}{K:Int->Option (List M.aJt)}(J:l.length<=1500000)(I:x.ok)(C:∀y∈l,M.aJt.ok y):
  ∀(n k:Nat),k<n->k<=l.length->oJ a l x K n (k:Int)=K ((nPl (JO a x) l k:Nat):Int)
 |0,k,h,_=>by omega
 |n+1,0,h,_=>by simp only[oJ,nPl];rw[if_neg jF]
 |n+1,k+1,h,hk=>by
  have j:k<l.length:=by omega
  have e:i64.wrap (((k+1:Nat):Int)-1)=(k:Int):=by rw[bI jD jD];omega
  simp only[oJ]
  rw[if_pos jF,e,aH j,qA,KR I (C _ (qG j)),qA,nPl,qF j,qe]
  cases hc:JO a x l[k]with
  |true=>rw[if_pos rfl,if_pos rfl];exact U3 J I C n k jD jD
  |false=>rw[if_neg jF,if_neg jF]
theorem XQ{s:M.aD}{a:ByteArray}(C:s.ok)(hz:M.aD.sz s<=1500000):CJ s a=some (Mj s a)/\(Mj s a).length<=s.aJm.length/\∀y∈Mj s a,M.aJt.ok y:=by
 have hl:s.aJm.length<=1500000:=by simp only[M.aD.sz]at hz;omega
 unfold CJ Mj
 refine QE (L:=lO s a) (xs:=s.aJm) (step:=X9 a) (I:=λk out=>out.length<=k/\∀y∈out,M.aJt.ok y) (E:=λout=>some out) C.aJm.1 (λout k hk j=>⟨?_,λy J=> ?_⟩) (λn out k hk j=> ?_) (λn out j=> ?_) [] ⟨qf _,jF⟩
 ·have:=Td a out s.aJm[k];have:=j.1;omega
 ·rcases S8 J with rfl|J;(exact C.aJm.2 _ (qG hk));·exact j.2 y J
 ·have hx:=C.aJm.2 _ (qG hk)
  have U:M.aJt.sz s.aJm[k]<=1073741824:=by have:=dW (f:=M.aJt.sz) (qG hk);simp only[M.aD.sz]at hz;omega
  have hi1:=j.1
  simp only[lO]
  rw[if_pos (bE hk),aH hk,qA,pA hx.aC,qA,bG jD,C8]
  unfold X9
  by_cases hg:(dV s.aJm[k].aC a).2=true
  ·have hp:=TY (JO a s.aJm[k]) out out.length;rw[if_pos hg,if_pos hg,VC jD hx j.2 fuel out.length jI (qf _)];generalize nPl (JO a s.aJm[k]) out out.length=p at hp;simp only[qH];rw[Lq hp,qA,eH (by simp only[qK,qU];omega),qA,HK _ U,qA,eH (by simp only[qJ,qK,qU];omega),qA,eH (by simp only[qE,qJ,qK,qU,qV];omega),qA,qT,List.singleton_append]
  ·rw[if_neg hg,if_neg hg]
 ·simp only[lO];rw[if_neg jK]
theorem T0{s:M.aD}{a:ByteArray}(C:s.ok)(hz:M.aD.sz s<=1500000):Cy s a=some (Mj s a)/\(Mj s a).length<=s.aJm.length/\∀y∈Mj s a,M.aJt.ok y:=by
 have hl:s.aJm.length<=1500000:=by simp only[M.aD.sz]at hz;omega
 unfold Cy Mj
 refine QE (L:=lM s a) (xs:=s.aJm) (step:=X9 a) (I:=λk out=>out.length<=k/\∀y∈out,M.aJt.ok y) (E:=λout=>some out) C.aJm.1 (λout k hk j=>⟨?_,λy J=> ?_⟩) (λn out k hk j=> ?_) (λn out j=> ?_) [] ⟨qf _,jF⟩
 ·have:=Td a out s.aJm[k];have:=j.1;omega
 ·rcases S8 J with rfl|J;(exact C.aJm.2 _ (qG hk));·exact j.2 y J
 ·have hx:=C.aJm.2 _ (qG hk)
  have U:M.aJt.sz s.aJm[k]<=1073741824:=by have:=dW (f:=M.aJt.sz) (qG hk);simp only[M.aD.sz]at hz;omega
  have hi1:=j.1
  simp only[lM]
  rw[if_pos (bE hk),aH hk,qA,kN hx.aC,qA,bG jD,C8]
  unfold X9
  by_cases hg:(dV s.aJm[k].aC a).2=true
  ·have hp:=TY (JO a s.aJm[k]) out out.length;rw[if_pos hg,if_pos hg,U3 jD hx j.2 fuel out.length jI (qf _)];generalize nPl (JO a s.aJm[k]) out out.length=p at hp;simp only[qH];rw[IB _ U,qA,MZ ⟨jD,by simpa using hp,jF,jP⟩,qA,List.singleton_append]
  ·rw[if_neg hg,if_neg hg]
 ·simp only[lM];rw[if_neg jK]
theorem WC{a:ByteArray}{l:List M.aJt}(j:∀y∈l,M.aJt.ok y):∀(n:Nat) (v:Int),lX a l n v=fM a l n v
 |0,v=>rfl
 |n+1,v=>by
  simp only[lX,fM,WC j n]
  cases h1:idx l (i64.wrap (v-1))with
  |none=>rfl
  |some x=>
   have C:=(j x (VN h1)).aC
   simp only[qA,pA C,kN C]
   cases h2:idx l v with
   |none=>rfl
   |some y=>
    have I:=(j y (VN h2)).aC
    simp only[qA,pA I,kN I]
theorem Vj{a:ByteArray}{l:List M.aJt}(C:∀y∈l,M.aJt.ok y)(I:l.length<=1500000):∀(n k:Nat),l.length-k<n->1<=k->∃r,fM a l n (k:Int)=some r
 |0,k,h,_=>by omega
 |n+1,k,h,h1=>by
  simp only[fM]
  by_cases hk:k<l.length
  ·have e:i64.wrap ((k:Int)-1)=((k-1:Nat):Int):=by rw[bI jD jD];omega
   have j:k-1<l.length:=by omega
   rw[if_pos (bE hk),e,aH j,qA,kN (C _ (qG j)).aC,qA,aH hk,qA,kN (C _ (qG hk)).aC,qA,bG jD]
   split
   ·exact⟨_,rfl⟩
   ·exact Vj C I n (k+1) jD jD
  ·rw[if_neg jE];exact⟨_,rfl⟩
def OX(s:M.aD)(a:ByteArray):M.Key×M.Key×Bool:=(kD s a).getD (⟨0,0,⟨#[]⟩⟩,⟨0,0,⟨#[]⟩⟩,false)
theorem GF{s:M.aD}{a:ByteArray}(J:s.ok)(hz:M.aD.sz s<=1500000):kD s a=some (OX s a):=by
 obtain⟨e,U,C⟩:=T0 (a:=a) J hz
 have j:s.aJm.length<=1500000:=by simp only[M.aD.sz]at hz;omega
 obtain⟨r,I⟩:=Vj (a:=a) C jD fuel 1 jI jD
 have:kD s a=some r:=by unfold kD;rw[e,qA];exact I
 unfold OX
 rw[this]
 rfl
theorem Kl{s:M.aD}{a:ByteArray}(j:s.ok)(hz:M.aD.sz s<=1500000):uU s a=some (OX s a):=by obtain⟨e,I,C⟩:=XQ (a:=a) j hz;obtain⟨e2,_⟩:=T0 (a:=a) j hz;rw[<-GF j hz];unfold uU kD;rw[e,e2,qA,qA];exact WC C _ _
def HJ(l:List M.aD)(k:Nat):Bool:=(l[k]?).any lQ&&(decide (k=0)||(l[k-1]?).any λy=>(l[k]?).any λx=>Op.bytesLess y.Name.toList x.Name.toList)
def FB(x y:M.aG):Bool:=(x.aD.toList==y.aD.toList)&&(x.Field.toList==y.Field.toList)
def O6(l:List M.aG)(k:Nat)(x:M.aG):Bool:=(List.range k).all λj=> !((l[j]?).any λy=>FB y x)
def Ik(d:M.aJj)(k:Nat):Bool:=(d.aJ5[k]?).any λu=>decide (0<=mF (Cl u.aD) d.aJw)&&(mN u.Field&&(!((d.aJw[(mF (Cl u.aD) d.aJw).toNat]?).any λs=>(OX s u.Field).2.2)&&O6 d.aJ5 k u))
def nDb(d:M.aJj):Bool:=(List.range d.aJw.length).all (HJ d.aJw)&&((List.range d.aJ5.length).all (Ik d)&&(mN d.Name&&(inR d.aJl 0 1000&&(decide (d.aJw.length<=4)&&decide (d.aJ5.length<=4)))))
theorem Xk{l:List M.aG}{k:Nat}{x:M.aG}(hk:k<=l.length):(l.take k).any (FB x)= !(O6 l k x):=by
 have hc:∀y,FB y x=FB x y:=λy=>by unfold FB;rw[BEq.comm (a:=y.aD.toList),BEq.comm (a:=y.Field.toList)]
 unfold O6
 rw[Bool.eq_iff_iff]
 simp only[List.any_eq_true,Bool.not_eq_true',List.all_eq_false,qS,Bool.not_eq_true,Bool.not_eq_false',hc]
 constructor
 ·rintro⟨y,J,C⟩;obtain⟨j,I,rfl⟩:=List.mem_iff_getElem.1 J;rw[qU]at I;refine⟨j,jD,?_⟩;rw[qF jD,qe];rw[List.getElem_take]at C;simp[C]
 ·rintro⟨j,I,C⟩;rw[qF jD,qe]at C;refine⟨l[j],List.mem_iff_getElem.2 ⟨j,by rw[qU];omega,by rw[List.getElem_take]⟩,by simpa using C⟩
theorem Ou{l:List M.aG}{x:M.aG}(j:l.length<=maxLen):iV l x=some (l.any (FB x)):=by
 have C:=le_max j
 have:mL l x=some (mF (FB x) l):=by unfold mL;rw[findAll (L:=dX l x) (f:=FB x) (A:=λi=>some (i:Int)) (E:=some (-1)) j (λm k hk=> ?_) (λm=> ?_),pG];(simp only[dX];rw[if_pos (bE hk),aH hk,qA,bG jD];rfl);·simp only[dX];rw[if_neg jK]
 unfold iV
 rw[this,qA,Ks]
theorem UI{d:M.aJj}{u:M.aG}{k:Nat}{K:Int->Option Bool}(I:d.aJ5.length<=maxLen)(hk:k<=d.aJ5.length):gE d (k:Int) u K fuel 0=if O6 d.aJ5 k u=true then K (k:Int)else some false:=by
 have U:=le_max I
 refine oS (L:=gE d (k:Int) u K) (g:=λj=> !((d.aJ5[j]?).any λy=>FB y u)) (F:=some false) (E:=K (k:Int)) (qg hk I) (λn j J=> ?_) (λn=> ?_)
 ·have C:j<d.aJ5.length:=by omega
  simp only[gE]
  rw[if_pos (bE J),aH C,qA,bG jD,qF C,qe,C8]
  rfl
 ·simp only[gE];rw[if_neg jK]
theorem M6{d:M.aJj}(hz:M.aJj.sz d<=1500000):∀s∈d.aJw,M.aD.sz s<=1500000:=λs j=>by have:=dW (f:=M.aD.sz) j;simp only[M.aJj.sz]at hz;omega
theorem TM(a b:List UInt8):(Op.bytesLess a b||a==b)= !(Op.bytesLess b a):=by have h:=Ch b a;cases h1:Op.bytesLess b a<;>cases h2:(Op.bytesLess a b||a==b)<;>simp_all
theorem B1{d:M.aJj}(C:d.ok)(hz:M.aJj.sz d<=1500000):lP d=some (nDb d):=by
 have hm:=le_max C.aJw.1
 have hm2:=le_max C.aJ5.1
 unfold lP nDb
 rw[oS (L:=eX d) (g:=HJ d.aJw) (F:=some false) (E:=eY d fuel 0) C.aJw.1 (λn k hk=> ?_) (λn=> ?_),
  oS (L:=eY d) (g:=Ik d) (F:=some false) (E:=some (mN d.Name&&(inR d.aJl 0 1000&&(decide (d.aJw.length<=4)&&decide (d.aJ5.length<=4))))) C.aJ5.1 (λn k hk=> ?_) (λn=> ?_),bY,bY]
 ·have U:=C.aJ5.2 _ (qG hk)
  simp only[eY]
  rw[if_pos (bE hk),aH hk,qA,E3 C,qA,bG jD]
  unfold Ik
  rw[qF hk,qe,dG U.Field,qA]
  by_cases h:mF (Cl d.aJ5[k].aD) d.aJw<0
  ·rw[if_pos (by simpa using h),decide_eq_false jD];simp
  ·obtain⟨j,e,J⟩:=eN h
   have hs:=C.aJw.2 _ (qG J)
   rw[if_neg (by simpa using h),e,aH J,qA,Kl hs (M6 hz _ (qG J)),qA,qH,qF J,qe,UI C.aJ5.1 jD]
   have:decide ((0:Int)<=(j:Int))=true:=by simp
   rw[this]
   generalize eY d n ((k+1:Nat):Int)=Z
   cases mN d.aJ5[k].Field<;>cases (OX d.aJw[j] d.aJ5[k].Field).2.2<;>cases O6 d.aJ5 k d.aJ5[k]<;>simp
 ·simp only[eY]
  rw[if_neg jK,dG C.Name,qA,cG,qA,bY,bY,bY]
  congr 3
  have e1:decide ((d.aJw.length:Int)<=4)=decide (d.aJw.length<=4):=by rw[Bool.eq_iff_iff];simp;omega
  have e2:decide ((d.aJ5.length:Int)<=4)=decide (d.aJ5.length<=4):=by rw[Bool.eq_iff_iff];simp;omega
  rw[e1,e2]
 ·have U:=C.aJw.2 _ (qG hk)
  simp only[eX]
  rw[if_pos (bE hk),aH hk,qA,bG jD,CS U,qA]
  unfold HJ
  rw[qF hk]
  generalize eX d n ((k+1:Nat):Int)=Z
  by_cases h0:k=0
  ·subst h0;simp only[qe];cases lQ d.aJw[0]<;>simp
  ·have e:i64.wrap ((k:Int)-1)=((k-1:Nat):Int):=by rw[bI jD jD];omega
   have I:k-1<d.aJw.length:=by omega
   rw[if_pos (c:=(decide ((k:Int)>0))=true) jE,e,aH I,qA,qF I]
   simp only[qe,h0,decide_false,Bool.false_or]
   cases lQ d.aJw[k]<;>cases Op.bytesLess d.aJw[k-1].Name.toList d.aJw[k].Name.toList<;>simp
 ·simp only[eX];rw[if_neg jK]
theorem BX{d:M.aJj}(C:d.ok)(hz:M.aJj.sz d<=1500000):lL d=some (nDb d):=by
 have hm:=le_max C.aJw.1
 have hm2:=le_max C.aJ5.1
 unfold lL nDb
 rw[oS (L:=eW d) (g:=HJ d.aJw) (F:=some false) (E:=fA d fuel 0) C.aJw.1 (λn k hk=> ?_) (λn=> ?_),
  oS (L:=fA d) (g:=Ik d) (F:=some false) (E:=some true) C.aJ5.1 (λn k hk=> ?_) (λn=> ?_)]
 ·simp only[cT C.Name,bR,qA]
  have e1:decide ((d.aJw.length:Int)>4)= !decide (d.aJw.length<=4):=by rw[Bool.eq_iff_iff];simp;omega
  have e2:decide ((d.aJ5.length:Int)>4)= !decide (d.aJ5.length<=4):=by rw[Bool.eq_iff_iff];simp;omega
  rw[e1,e2]
  cases mN d.Name<;>cases inR d.aJl 0 1000<;>cases decide (d.aJw.length<=4)<;>cases decide (d.aJ5.length<=4)<;>cases (List.range d.aJw.length).all (HJ d.aJw)<;>cases (List.range d.aJ5.length).all (Ik d)<;>rfl
 ·have U:=C.aJ5.2 _ (qG hk)
  simp only[fA]
  rw[if_pos (bE hk),aH hk,qA,E5 C,qA,bG jD]
  unfold Ik
  rw[qF hk,qe,cT U.Field,qA,Lq jD,qA,qH,Ou (qg (by rw[qU];exact Nat.min_le_right _ _) C.aJ5.1),qA,Xk jD]
  by_cases h:mF (Cl d.aJ5[k].aD) d.aJw<0
  ·rw[if_pos (by simpa using h),decide_eq_false jD];simp
  ·obtain⟨j,e,J⟩:=eN h
   have hs:=C.aJw.2 _ (qG J)
   rw[if_neg (by simpa using h),e,aH J,qA,GF hs (M6 hz _ (qG J)),qA,qH,qF J,qe]
   have:decide ((0:Int)<=(j:Int))=true:=by simp
   rw[this]
   generalize fA d n ((k+1:Nat):Int)=Z
   cases mN d.aJ5[k].Field<;>cases (OX d.aJw[j] d.aJ5[k].Field).2.2<;>cases O6 d.aJ5 k d.aJ5[k]<;>simp
 ·simp only[fA];rw[if_neg jK]
 ·have U:=C.aJw.2 _ (qG hk)
  simp only[eW]
  rw[if_pos (bE hk),aH hk,qA,bG jD,Ay U,qA]
  unfold HJ
  rw[qF hk]
  generalize eW d n ((k+1:Nat):Int)=Z
  by_cases h0:k=0
  ·subst h0;simp only[qe];cases lQ d.aJw[0]<;>simp
  ·have e:i64.wrap ((k:Int)-1)=((k-1:Nat):Int):=by rw[bI jD jD];omega
   have I:k-1<d.aJw.length:=by omega
   rw[if_pos (c:=(decide ((k:Int)>0))=true) jE,e,aH I,qA,qF I,TM]
   simp only[qe,h0,decide_false,Bool.false_or]
   cases lQ d.aJw[k]<;>cases Op.bytesLess d.aJw[k-1].Name.toList d.aJw[k].Name.toList<;>simp
 ·simp only[eW];rw[if_neg jK]
def yY(b:M.aJi):Bool:=mN b.aJr&&(mN b.Top&&(aBB b.aJk&&((b.aJk.aJr.toList==b.aJr.toList)&&(IV b.aJs&&(nDb b.bL.aJ8&&(Gz b.aE&&(inR b.aKC 0 1000000000000&&decide (Rd b<=2500))))))))
theorem CI{b:M.aJi}(hz:M.aJi.sz b<=1500000):M.aJj.sz b.bL.aJ8<=1500000:=by simp only[M.aJi.sz,M.bL.sz]at hz;omega
theorem Ff{b:M.aJi}(hb:b.ok)(hz:M.aJj.sz b.bL.aJ8<=1500000):pE b=some (yY b):=by unfold pE yY;simp only[dG hb.aJr,dG hb.Top,EY hb.aJk,LS hb.aJs,B1 hb.bL.aJ8 hz,HP hb.aE,cG,OI hb,qA,bY]
theorem Og{b:M.aJi}(hb:b.ok)(hz:M.aJi.sz b<=1500000):pE b=some (yY b):=Ff hb (CI hz)
theorem Fh{b:M.aJi}(hb:b.ok)(hz:M.aJj.sz b.bL.aJ8<=1500000):pD b=some (yY b):=by unfold pD yY;simp only[cT hb.aJr,cT hb.Top,IU hb.aJk,K9 hb.aJs,BX hb.bL.aJ8 hz,HS hb.aE,bR,OR hb,qA,bY]
theorem Nc{b:M.aJi}(hb:b.ok)(hz:M.aJi.sz b<=1500000):pD b=some (yY b):=Fh hb (CI hz)
def GK(x y:M.aJi):Bool:=Op.bytesLess x.aJr.toList y.aJr.toList||((x.aJr.toList==y.aJr.toList)&&Op.bytesLess x.Top.toList y.Top.toList)
theorem Jw(x y:M.aJi):AA x y.aJr y.Top=some (GK x y):=by unfold AA GK;cases Op.bytesLess x.aJr.toList y.aJr.toList<;>cases (x.aJr.toList==y.aJr.toList)<;>simp
theorem FY(x y:M.aJi):oO x y=some (GK x y):=by unfold oO GK;cases Op.bytesLess x.aJr.toList y.aJr.toList<;>cases (x.aJr.toList==y.aJr.toList)<;>simp
def Ie(l:List M.aJi)(k:Nat):Bool:=(l[k]?).any yY&&(decide (k=0)||(l[k-1]?).any λy=>(l[k]?).any λx=>GK y x)
def vG(s:M.aA):Bool:=(List.range s.aJp.length).all (Ie s.aJp)&&decide ((s.aJp.length:Int)<=9)
theorem Er{s:M.aA}(C:s.ok)(hz:∀b∈s.aJp,M.aJj.sz b.bL.aJ8<=1500000):cQ s=some (vG s):=by
 have U:=le_max C.aJp.1
 unfold cQ vG
 rw[oS (L:=gA s) (g:=Ie s.aJp) (F:=some false) (E:=some (decide ((s.aJp.length:Int)<=9))) C.aJp.1 (λn k hk=> ?_) (λn=> ?_),bY]
 ·have J:=C.aJp.2 _ (qG hk)
  have I:M.aJj.sz s.aJp[k].bL.aJ8<=1500000:=hz _ (qG hk)
  simp only[gA]
  rw[if_pos (bE hk),aH hk,qA,bG jD,Ff J I,qA]
  unfold Ie
  rw[qF hk]
  generalize gA s n ((k+1:Nat):Int)=Z
  by_cases h0:k=0
  ·subst h0;simp only[qe];cases yY s.aJp[0]<;>simp
  ·have e:i64.wrap ((k:Int)-1)=((k-1:Nat):Int):=by rw[bI jD jD];omega
   have j:k-1<s.aJp.length:=by omega
   rw[if_pos (c:=(decide ((k:Int)>0))=true) jE,e,aH j,qA,Jw,qA,qF j]
   simp only[qe,h0,decide_false,Bool.false_or]
   cases yY s.aJp[k]<;>cases GK s.aJp[k-1] s.aJp[k]<;>simp
 ·simp only[gA];rw[if_neg jK]
theorem MS{s:M.aA}(j:s.ok)(hz:M.aA.sz s<=1500000):cQ s=some (vG s):=Er j (λb hb=>CI (by have:=dW (f:=M.aJi.sz) hb;simp only[M.aA.sz]at hz;omega))
theorem Ev{s:M.aA}(C:s.ok)(hz:∀b∈s.aJp,M.aJj.sz b.bL.aJ8<=1500000):cR s=some (vG s):=by
 have U:=le_max C.aJp.1
 unfold cR vG
 rw[oS (L:=fW s) (g:=Ie s.aJp) (F:=some false) (E:=some (decide ((s.aJp.length:Int)<=9))) C.aJp.1 (λn k hk=> ?_) (λn=> ?_),bY]
 ·have J:=C.aJp.2 _ (qG hk)
  have I:M.aJj.sz s.aJp[k].bL.aJ8<=1500000:=hz _ (qG hk)
  simp only[fW]
  rw[if_pos (bE hk),aH hk,qA,bG jD,Fh J I,qA]
  unfold Ie
  rw[qF hk]
  generalize fW s n ((k+1:Nat):Int)=Z
  by_cases h0:k=0
  ·subst h0;simp only[qe];cases yY s.aJp[0]<;>simp
  ·have e:i64.wrap ((k:Int)-1)=((k-1:Nat):Int):=by rw[bI jD jD];omega
   have j:k-1<s.aJp.length:=by omega
   rw[if_pos (c:=(decide ((k:Int)>0))=true) jE,e,aH j,qA,FY,qA,qF j]
   simp only[qe,h0,decide_false,Bool.false_or]
   cases yY s.aJp[k]<;>cases GK s.aJp[k-1] s.aJp[k]<;>simp
 ·simp only[fW];rw[if_neg jK]
theorem Mz{s:M.aA}(j:s.ok)(hz:M.aA.sz s<=1500000):cR s=some (vG s):=Ev j (λb hb=>CI (by have:=dW (f:=M.aJi.sz) hb;simp only[M.aA.sz]at hz;omega))
