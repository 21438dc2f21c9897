/-
  Helper text. No conditions.
-/
import Derived.Test.YtjlnkcoeghonfaaGreatStepPagePh
set_option linter.all false
namespace Go.Proofs.YtjlnkcoeghonfaaGreat.gen
open Go Go.Sh
open Go.IntKind (i64)
def nPl(f:M.aJl->Bool)(l:List M.aJl):Nat->Nat
 |0=>0
 |k+1=>if(l[k]?).any f=true then nPl f l k else k+1
theorem TS(f:M.aJl->Bool)(l:List M.aJl):∀k,nPl f l k<=k
 |0=>by simp[nPl]
 |k+1=>by unfold nPl;split;(exact Nat.le_succ_of_le (TS f l k));·exact qf _
theorem VH{α:Type}{l:List α}{i:Int}{x:α}(h:idx l i=some x):x∈l:=jB (aU h).2.1
theorem Lk{α:Type}{l:List α}{k:Nat}(h:k<=l.length):GL l (k:Int)=some (l.take k):=by unfold GL;rw[if_pos ⟨jD,by simpa using h⟩,qH]
def X0(a:ByteArray)(out:List M.aJl)(x:M.aJl):List M.aJl:=
 if(dU x.aA a).2=true then out.take (nPl (JI a x) out out.length)++(x::out.drop (nPl (JI a x) out out.length))else out
def Md(s:M.aD)(a:ByteArray):List M.aJl:=s.aJe.foldl (X0 a) []
theorem S7(a:ByteArray)(out:List M.aJl)(x:M.aJl):(X0 a out x).length<=out.length+1:=by unfold X0;have:=TS (JI a x) out out.length;split;(simp only[qE,qU,qJ,qV];omega);·omega
theorem S2{a:ByteArray}{out:List M.aJl}{x y:M.aJl}(h:y∈X0 a out x):y=x\/y∈out:=by unfold X0 at h;split at h;(rcases qP.1 h with h|h;(exact .inr (qj h));·rcases qp.1 h with h|h;(exact .inl h);·exact .inr (qv h));·exact .inr h
theorem Vw{a:ByteArray}{l:List M.aJl}{x:M.aJl}{K:Int->Option (List M.aJl)}(J:l.length<=1048576)(I:x.ok)(C:∀y∈l,M.aJl.ok y):
  ∀(n k:Nat),k<n->k<=l.length->nP a l x K n (k:Int)=K ((nPl (JI a x) l k:Nat):Int)
 |0,k,h,_=>by omega
 |n+1,0,h,_=>by simp only[nP,nPl];rw[if_neg jF]
 |n+1,k+1,h,hk=>by
  have j:k<l.length:=by omega
  have e:i64.wrap (((k+1:Nat):Int)-1)=(k:Int):=by rw[bK jD jD];omega
  simp only[nP]
  rw[if_pos jF,e,aH j,qA,PX I (C _ (qG j)),qA,nPl,qF j,qe]
  cases hc:JI a x l[k]with
  |true=>rw[if_pos rfl,if_pos rfl];exact Vw J I C n k jD jD
  |false=>rw[if_neg jF,if_neg jF]
theorem UY{a:ByteArray}{l:List M.aJl}{x:M.aJl}{K:Int->Option (List M.aJl)}(J:l.length<=1048576)(I:x.ok)(C:∀y∈l,M.aJl.ok y):
  ∀(n k:Nat),k<n->k<=l.length->oF a l x K n (k:Int)=K ((nPl (JI a x) l k:Nat):Int)
 |0,k,h,_=>by omega
 |n+1,0,h,_=>by simp only[oF,nPl];rw[if_neg jF]
 |n+1,k+1,h,hk=>by
  have j:k<l.length:=by omega
  have e:i64.wrap (((k+1:Nat):Int)-1)=(k:Int):=by rw[bK jD jD];omega
  simp only[oF]
  rw[if_pos jF,e,aH j,qA,KL I (C _ (qG j)),qA,nPl,qF j,qe]
  cases hc:JI a x l[k]with
  |true=>rw[if_pos rfl,if_pos rfl];exact UY J I C n k jD jD
  |false=>rw[if_neg jF,if_neg jF]
theorem XK{s:M.aD}{a:ByteArray}(C:s.ok)(hz:M.aD.sz s<=1048576):CE s a=some (Md s a)/\(Md s a).length<=s.aJe.length/\∀y∈Md s a,M.aJl.ok y:=by
 have hl:s.aJe.length<=1048576:=by simp only[M.aD.sz]at hz;omega
 unfold CE Md
 refine QA (L:=lM s a) (xs:=s.aJe) (step:=X0 a) (I:=λk out=>out.length<=k/\∀y∈out,M.aJl.ok y) (E:=λout=>some out) C.aJe.1 (λout k hk j=>⟨?_,λy J=> ?_⟩) (λn out k hk j=> ?_) (λn out j=> ?_) [] ⟨qf _,jF⟩
 ·have:=S7 a out s.aJe[k];have:=j.1;omega
 ·rcases S2 J with rfl|J;(exact C.aJe.2 _ (qG hk));·exact j.2 y J
 ·have hx:=C.aJe.2 _ (qG hk)
  have U:M.aJl.sz s.aJe[k]<=1073741824:=by have:=eD (f:=M.aJl.sz) (qG hk);simp only[M.aD.sz]at hz;omega
  have hi1:=j.1
  simp only[lM]
  rw[if_pos (bE hk),aH hk,qA,oT hx.aA,qA,bG jD,C2]
  unfold X0
  by_cases hg:(dU s.aJe[k].aA a).2=true
  ·have hp:=TS (JI a s.aJe[k]) out out.length;rw[if_pos hg,if_pos hg,Vw jD hx j.2 fuel out.length jI (qf _)];generalize nPl (JI a s.aJe[k]) out out.length=p at hp;simp only[qH];rw[Lk hp,qA,eH (by simp only[qK,qU];omega),qA,HE _ U,qA,eH (by simp only[qJ,qK,qU];omega),qA,eH (by simp only[qE,qJ,qK,qU,qV];omega),qA,qT,List.singleton_append]
  ·rw[if_neg hg,if_neg hg]
 ·simp only[lM];rw[if_neg jK]
theorem TU{s:M.aD}{a:ByteArray}(C:s.ok)(hz:M.aD.sz s<=1048576):Ct s a=some (Md s a)/\(Md s a).length<=s.aJe.length/\∀y∈Md s a,M.aJl.ok y:=by
 have hl:s.aJe.length<=1048576:=by simp only[M.aD.sz]at hz;omega
 unfold Ct Md
 refine QA (L:=lK s a) (xs:=s.aJe) (step:=X0 a) (I:=λk out=>out.length<=k/\∀y∈out,M.aJl.ok y) (E:=λout=>some out) C.aJe.1 (λout k hk j=>⟨?_,λy J=> ?_⟩) (λn out k hk j=> ?_) (λn out j=> ?_) [] ⟨qf _,jF⟩
 ·have:=S7 a out s.aJe[k];have:=j.1;omega
 ·rcases S2 J with rfl|J;(exact C.aJe.2 _ (qG hk));·exact j.2 y J
 ·have hx:=C.aJe.2 _ (qG hk)
  have U:M.aJl.sz s.aJe[k]<=1073741824:=by have:=eD (f:=M.aJl.sz) (qG hk);simp only[M.aD.sz]at hz;omega
  have hi1:=j.1
  simp only[lK]
  rw[if_pos (bE hk),aH hk,qA,kL hx.aA,qA,bG jD,C2]
  unfold X0
  by_cases hg:(dU s.aJe[k].aA a).2=true
  ·have hp:=TS (JI a s.aJe[k]) out out.length;rw[if_pos hg,if_pos hg,UY jD hx j.2 fuel out.length jI (qf _)];generalize nPl (JI a s.aJe[k]) out out.length=p at hp;simp only[qH];rw[Iu _ U,qA,MQ ⟨jD,by simpa using hp,jF,jP⟩,qA,List.singleton_append]
  ·rw[if_neg hg,if_neg hg]
 ·simp only[lK];rw[if_neg jK]
theorem Wx{a:ByteArray}{l:List M.aJl}(j:∀y∈l,M.aJl.ok y):∀(n:Nat) (v:Int),lV a l n v=fM a l n v
 |0,v=>rfl
 |n+1,v=>by
  simp only[lV,fM,Wx j n]
  cases h1:idx l (i64.wrap (v-1))with
  |none=>rfl
  |some x=>
   have C:=(j x (VH h1)).aA
   simp only[qA,oT C,kL C]
   cases h2:idx l v with
   |none=>rfl
   |some y=>
    have I:=(j y (VH h2)).aA
    simp only[qA,oT I,kL I]
theorem Ve{a:ByteArray}{l:List M.aJl}(C:∀y∈l,M.aJl.ok y)(I:l.length<=1048576):∀(n k:Nat),l.length-k<n->1<=k->∃r,fM a l n (k:Int)=some r
 |0,k,h,_=>by omega
 |n+1,k,h,h1=>by
  simp only[fM]
  by_cases hk:k<l.length
  ·have e:i64.wrap ((k:Int)-1)=((k-1:Nat):Int):=by rw[bK jD jD];omega
   have j:k-1<l.length:=by omega
   rw[if_pos (bE hk),e,aH j,qA,kL (C _ (qG j)).aA,qA,aH hk,qA,kL (C _ (qG hk)).aA,qA,bG jD]
   split
   ·exact⟨_,rfl⟩
   ·exact Ve C I n (k+1) jD jD
  ·rw[if_neg jE];exact⟨_,rfl⟩
def OT(s:M.aD)(a:ByteArray):M.Key×M.Key×Bool:=(kA s a).getD (⟨0,0,⟨#[]⟩⟩,⟨0,0,⟨#[]⟩⟩,false)
theorem Gz{s:M.aD}{a:ByteArray}(J:s.ok)(hz:M.aD.sz s<=1048576):kA s a=some (OT s a):=by
 obtain⟨e,U,C⟩:=TU (a:=a) J hz
 have j:s.aJe.length<=1048576:=by simp only[M.aD.sz]at hz;omega
 obtain⟨r,I⟩:=Ve (a:=a) C jD fuel 1 jI jD
 have:kA s a=some r:=by unfold kA;rw[e,qA];exact I
 unfold OT
 rw[this]
 rfl
theorem Kf{s:M.aD}{a:ByteArray}(j:s.ok)(hz:M.aD.sz s<=1048576):uS s a=some (OT s a):=by obtain⟨e,I,C⟩:=XK (a:=a) j hz;obtain⟨e2,_⟩:=TU (a:=a) j hz;rw[<-Gz j hz];unfold uS kA;rw[e,e2,qA,qA];exact Wx C _ _
def HD(l:List M.aD)(k:Nat):Bool:=(l[k]?).any lO&&(decide (k=0)||(l[k-1]?).any λy=>(l[k]?).any λx=>Op.bytesLess y.Name.toList x.Name.toList)
def Fv(x y:M.aG):Bool:=(x.aD.toList==y.aD.toList)&&(x.Field.toList==y.Field.toList)
def O2(l:List M.aG)(k:Nat)(x:M.aG):Bool:=(List.range k).all λj=> !((l[j]?).any λy=>Fv y x)
def Ib(d:M.aJb)(k:Nat):Bool:=(d.aJw[k]?).any λu=>decide (0<=mD (Ch u.aD) d.aJm)&&(mL u.Field&&(!((d.aJm[(mD (Ch u.aD) d.aJm).toNat]?).any λs=>(OT s u.Field).2.2)&&O2 d.aJw k u))
def nDb(d:M.aJb):Bool:=(List.range d.aJm.length).all (HD d.aJm)&&((List.range d.aJw.length).all (Ib d)&&(mL d.Name&&(inR d.aJd 0 1000&&(decide (d.aJm.length<=4)&&decide (d.aJw.length<=4)))))
theorem Xe{l:List M.aG}{k:Nat}{x:M.aG}(hk:k<=l.length):(l.take k).any (Fv x)= !(O2 l k x):=by
 have hc:∀y,Fv y x=Fv x y:=λy=>by unfold Fv;rw[BEq.comm (a:=y.aD.toList),BEq.comm (a:=y.Field.toList)]
 unfold O2
 rw[Bool.eq_iff_iff]
 simp only[List.any_eq_true,Bool.not_eq_true',List.all_eq_false,qS,Bool.not_eq_true,Bool.not_eq_false',hc]
 constructor
 ·rintro⟨y,J,C⟩;obtain⟨j,I,rfl⟩:=List.mem_iff_getElem.1 J;rw[qU]at I;refine⟨j,jD,?_⟩;rw[qF jD,qe];rw[List.getElem_take]at C;simp[C]
 ·rintro⟨j,I,C⟩;rw[qF jD,qe]at C;refine⟨l[j],List.mem_iff_getElem.2 ⟨j,by rw[qU];omega,by rw[List.getElem_take]⟩,by simpa using C⟩
theorem Om{l:List M.aG}{x:M.aG}(j:l.length<=maxLen):iS l x=some (l.any (Fv x)):=by
 have C:=le_max j
 have:mJ l x=some (mD (Fv x) l):=by unfold mJ;rw[findAll (L:=dV l x) (f:=Fv x) (A:=λi=>some (i:Int)) (E:=some (-1)) j (λm k hk=> ?_) (λm=> ?_),pB];(simp only[dV];rw[if_pos (bE hk),aH hk,qA,bG jD];rfl);·simp only[dV];rw[if_neg jK]
 unfold iS
 rw[this,qA,Km]
theorem UC{d:M.aJb}{u:M.aG}{k:Nat}{K:Int->Option Bool}(I:d.aJw.length<=maxLen)(hk:k<=d.aJw.length):gD d (k:Int) u K fuel 0=if O2 d.aJw k u=true then K (k:Int)else some false:=by
 have U:=le_max I
 refine oO (L:=gD d (k:Int) u K) (g:=λj=> !((d.aJw[j]?).any λy=>Fv y u)) (F:=some false) (E:=K (k:Int)) (qg hk I) (λn j J=> ?_) (λn=> ?_)
 ·have C:j<d.aJw.length:=by omega
  simp only[gD]
  rw[if_pos (bE J),aH C,qA,bG jD,qF C,qe,C2]
  rfl
 ·simp only[gD];rw[if_neg jK]
theorem MZ{d:M.aJb}(hz:M.aJb.sz d<=1048576):∀s∈d.aJm,M.aD.sz s<=1048576:=λs j=>by have:=eD (f:=M.aD.sz) j;simp only[M.aJb.sz]at hz;omega
theorem TD(a b:List UInt8):(Op.bytesLess a b||a==b)= !(Op.bytesLess b a):=by have h:=Cd b a;cases h1:Op.bytesLess b a<;>cases h2:(Op.bytesLess a b||a==b)<;>simp_all
theorem BW{d:M.aJb}(C:d.ok)(hz:M.aJb.sz d<=1048576):lN d=some (nDb d):=by
 have hm:=le_max C.aJm.1
 have hm2:=le_max C.aJw.1
 unfold lN nDb
 rw[oO (L:=eW d) (g:=HD d.aJm) (F:=some false) (E:=eX d fuel 0) C.aJm.1 (λn k hk=> ?_) (λn=> ?_),
  oO (L:=eX d) (g:=Ib d) (F:=some false) (E:=some (mL d.Name&&(inR d.aJd 0 1000&&(decide (d.aJm.length<=4)&&decide (d.aJw.length<=4))))) C.aJw.1 (λn k hk=> ?_) (λn=> ?_),bY,bY]
 ·have U:=C.aJw.2 _ (qG hk)
  simp only[eX]
  rw[if_pos (bE hk),aH hk,qA,EX C,qA,bG jD]
  unfold Ib
  rw[qF hk,qe,dF U.Field,qA]
  by_cases h:mD (Ch d.aJw[k].aD) d.aJm<0
  ·rw[if_pos (by simpa using h),decide_eq_false jD];simp
  ·obtain⟨j,e,J⟩:=eN h
   have hs:=C.aJm.2 _ (qG J)
   rw[if_neg (by simpa using h),e,aH J,qA,Kf hs (MZ hz _ (qG J)),qA,qH,qF J,qe,UC C.aJw.1 jD]
   have:decide ((0:Int)<=(j:Int))=true:=by simp
   rw[this]
   generalize eX d n ((k+1:Nat):Int)=Z
   cases mL d.aJw[k].Field<;>cases (OT d.aJm[j] d.aJw[k].Field).2.2<;>cases O2 d.aJw k d.aJw[k]<;>simp
 ·simp only[eX]
  rw[if_neg jK,dF C.Name,qA,cG,qA,bY,bY,bY]
  congr 3
  have e1:decide ((d.aJm.length:Int)<=4)=decide (d.aJm.length<=4):=by rw[Bool.eq_iff_iff];simp;omega
  have e2:decide ((d.aJw.length:Int)<=4)=decide (d.aJw.length<=4):=by rw[Bool.eq_iff_iff];simp;omega
  rw[e1,e2]
 ·have U:=C.aJm.2 _ (qG hk)
  simp only[eW]
  rw[if_pos (bE hk),aH hk,qA,bG jD,CM U,qA]
  unfold HD
  rw[qF hk]
  generalize eW d n ((k+1:Nat):Int)=Z
  by_cases h0:k=0
  ·subst h0;simp only[qe];cases lO d.aJm[0]<;>simp
  ·have e:i64.wrap ((k:Int)-1)=((k-1:Nat):Int):=by rw[bK jD jD];omega
   have I:k-1<d.aJm.length:=by omega
   rw[if_pos (c:=(decide ((k:Int)>0))=true) jE,e,aH I,qA,qF I]
   simp only[qe,h0,decide_false,Bool.false_or]
   cases lO d.aJm[k]<;>cases Op.bytesLess d.aJm[k-1].Name.toList d.aJm[k].Name.toList<;>simp
 ·simp only[eW];rw[if_neg jK]
theorem BT{d:M.aJb}(C:d.ok)(hz:M.aJb.sz d<=1048576):lJ d=some (nDb d):=by
 have hm:=le_max C.aJm.1
 have hm2:=le_max C.aJw.1
 unfold lJ nDb
 rw[oO (L:=eV d) (g:=HD d.aJm) (F:=some false) (E:=eZ d fuel 0) C.aJm.1 (λn k hk=> ?_) (λn=> ?_),
  oO (L:=eZ d) (g:=Ib d) (F:=some false) (E:=some true) C.aJw.1 (λn k hk=> ?_) (λn=> ?_)]
 ·simp only[cT C.Name,bR,qA]
  have e1:decide ((d.aJm.length:Int)>4)= !decide (d.aJm.length<=4):=by rw[Bool.eq_iff_iff];simp;omega
  have e2:decide ((d.aJw.length:Int)>4)= !decide (d.aJw.length<=4):=by rw[Bool.eq_iff_iff];simp;omega
  rw[e1,e2]
  cases mL d.Name<;>cases inR d.aJd 0 1000<;>cases decide (d.aJm.length<=4)<;>cases decide (d.aJw.length<=4)<;>cases (List.range d.aJm.length).all (HD d.aJm)<;>cases (List.range d.aJw.length).all (Ib d)<;>rfl
 ·have U:=C.aJw.2 _ (qG hk)
  simp only[eZ]
  rw[if_pos (bE hk),aH hk,qA,EY C,qA,bG jD]
  unfold Ib
  rw[qF hk,qe,cT U.Field,qA,Lk jD,qA,qH,Om (qg (by rw[qU];exact Nat.min_le_right _ _) C.aJw.1),qA,Xe jD]
  by_cases h:mD (Ch d.aJw[k].aD) d.aJm<0
  ·rw[if_pos (by simpa using h),decide_eq_false jD];simp
  ·obtain⟨j,e,J⟩:=eN h
   have hs:=C.aJm.2 _ (qG J)
   rw[if_neg (by simpa using h),e,aH J,qA,Gz hs (MZ hz _ (qG J)),qA,qH,qF J,qe]
   have:decide ((0:Int)<=(j:Int))=true:=by simp
   rw[this]
   generalize eZ d n ((k+1:Nat):Int)=Z
   cases mL d.aJw[k].Field<;>cases (OT d.aJm[j] d.aJw[k].Field).2.2<;>cases O2 d.aJw k d.aJw[k]<;>simp
 ·simp only[eZ];rw[if_neg jK]
 ·have U:=C.aJm.2 _ (qG hk)
  simp only[eV]
  rw[if_pos (bE hk),aH hk,qA,bG jD,Aw U,qA]
  unfold HD
  rw[qF hk]
  generalize eV d n ((k+1:Nat):Int)=Z
  by_cases h0:k=0
  ·subst h0;simp only[qe];cases lO d.aJm[0]<;>simp
  ·have e:i64.wrap ((k:Int)-1)=((k-1:Nat):Int):=by rw[bK jD jD];omega
   have I:k-1<d.aJm.length:=by omega
   rw[if_pos (c:=(decide ((k:Int)>0))=true) jE,e,aH I,qA,qF I,TD]
   simp only[qe,h0,decide_false,Bool.false_or]
   cases lO d.aJm[k]<;>cases Op.bytesLess d.aJm[k-1].Name.toList d.aJm[k].Name.toList<;>simp
 ·simp only[eV];rw[if_neg jK]
def yW(b:M.aJa):Bool:=mL b.aJj&&(mL b.Top&&(aA4 b.aJc&&((b.aJc.aJj.toList==b.aJj.toList)&&(IJ b.aJk&&(nDb b.bL.aJz&&(Gu b.aE&&(inR b.aJ4 0 1000000000000&&decide (Q9 b<=2500))))))))
theorem CD{b:M.aJa}(hz:M.aJa.sz b<=1048576):M.aJb.sz b.bL.aJz<=1048576:=by simp only[M.aJa.sz,M.bL.sz]at hz;omega
theorem E4{b:M.aJa}(hb:b.ok)(hz:M.aJb.sz b.bL.aJz<=1048576):oZ b=some (yW b):=by unfold oZ yW;simp only[dF hb.aJj,dF hb.Top,ES hb.aJc,LJ hb.aJk,BW hb.bL.aJz hz,HI hb.aE,cG,OC hb,qA,bY]
theorem Ob{b:M.aJa}(hb:b.ok)(hz:M.aJa.sz b<=1048576):oZ b=some (yW b):=E4 hb (CD hz)
theorem E7{b:M.aJa}(hb:b.ok)(hz:M.aJb.sz b.bL.aJz<=1048576):oY b=some (yW b):=by unfold oY yW;simp only[cT hb.aJj,cT hb.Top,II hb.aJc,K3 hb.aJk,BT hb.bL.aJz hz,HM hb.aE,bR,ON hb,qA,bY]
theorem M6{b:M.aJa}(hb:b.ok)(hz:M.aJa.sz b<=1048576):oY b=some (yW b):=E7 hb (CD hz)
def GF(x y:M.aJa):Bool:=Op.bytesLess x.aJj.toList y.aJj.toList||((x.aJj.toList==y.aJj.toList)&&Op.bytesLess x.Top.toList y.Top.toList)
theorem Jq(x y:M.aJa):Ay x y.aJj y.Top=some (GF x y):=by unfold Ay GF;cases Op.bytesLess x.aJj.toList y.aJj.toList<;>cases (x.aJj.toList==y.aJj.toList)<;>simp
theorem FR(x y:M.aJa):oK x y=some (GF x y):=by unfold oK GF;cases Op.bytesLess x.aJj.toList y.aJj.toList<;>cases (x.aJj.toList==y.aJj.toList)<;>simp
def H7(l:List M.aJa)(k:Nat):Bool:=(l[k]?).any yW&&(decide (k=0)||(l[k-1]?).any λy=>(l[k]?).any λx=>GF y x)
def vD(s:M.aC):Bool:=(List.range s.aJh.length).all (H7 s.aJh)&&decide ((s.aJh.length:Int)<=9)
theorem Ej{s:M.aC}(C:s.ok)(hz:∀b∈s.aJh,M.aJb.sz b.bL.aJz<=1048576):cQ s=some (vD s):=by
 have U:=le_max C.aJh.1
 unfold cQ vD
 rw[oO (L:=gA s) (g:=H7 s.aJh) (F:=some false) (E:=some (decide ((s.aJh.length:Int)<=9))) C.aJh.1 (λn k hk=> ?_) (λn=> ?_),bY]
 ·have J:=C.aJh.2 _ (qG hk)
  have I:M.aJb.sz s.aJh[k].bL.aJz<=1048576:=hz _ (qG hk)
  simp only[gA]
  rw[if_pos (bE hk),aH hk,qA,bG jD,E4 J I,qA]
  unfold H7
  rw[qF hk]
  generalize gA s n ((k+1:Nat):Int)=Z
  by_cases h0:k=0
  ·subst h0;simp only[qe];cases yW s.aJh[0]<;>simp
  ·have e:i64.wrap ((k:Int)-1)=((k-1:Nat):Int):=by rw[bK jD jD];omega
   have j:k-1<s.aJh.length:=by omega
   rw[if_pos (c:=(decide ((k:Int)>0))=true) jE,e,aH j,qA,Jq,qA,qF j]
   simp only[qe,h0,decide_false,Bool.false_or]
   cases yW s.aJh[k]<;>cases GF s.aJh[k-1] s.aJh[k]<;>simp
 ·simp only[gA];rw[if_neg jK]
theorem MK{s:M.aC}(j:s.ok)(hz:M.aC.sz s<=1048576):cQ s=some (vD s):=Ej j (λb hb=>CD (by have:=eD (f:=M.aJa.sz) hb;simp only[M.aC.sz]at hz;omega))
theorem En{s:M.aC}(C:s.ok)(hz:∀b∈s.aJh,M.aJb.sz b.bL.aJz<=1048576):cR s=some (vD s):=by
 have U:=le_max C.aJh.1
 unfold cR vD
 rw[oO (L:=fW s) (g:=H7 s.aJh) (F:=some false) (E:=some (decide ((s.aJh.length:Int)<=9))) C.aJh.1 (λn k hk=> ?_) (λn=> ?_),bY]
 ·have J:=C.aJh.2 _ (qG hk)
  have I:M.aJb.sz s.aJh[k].bL.aJz<=1048576:=hz _ (qG hk)
  simp only[fW]
  rw[if_pos (bE hk),aH hk,qA,bG jD,E7 J I,qA]
  unfold H7
  rw[qF hk]
  generalize fW s n ((k+1:Nat):Int)=Z
  by_cases h0:k=0
  ·subst h0;simp only[qe];cases yW s.aJh[0]<;>simp
  ·have e:i64.wrap ((k:Int)-1)=((k-1:Nat):Int):=by rw[bK jD jD];omega
   have j:k-1<s.aJh.length:=by omega
   rw[if_pos (c:=(decide ((k:Int)>0))=true) jE,e,aH j,qA,FR,qA,qF j]
   simp only[qe,h0,decide_false,Bool.false_or]
   cases yW s.aJh[k]<;>cases GF s.aJh[k-1] s.aJh[k]<;>simp
 ·simp only[fW];rw[if_neg jK]
theorem Ms{s:M.aC}(j:s.ok)(hz:M.aC.sz s<=1048576):cR s=some (vD s):=En j (λb hb=>CD (by have:=eD (f:=M.aJa.sz) hb;simp only[M.aC.sz]at hz;omega))
