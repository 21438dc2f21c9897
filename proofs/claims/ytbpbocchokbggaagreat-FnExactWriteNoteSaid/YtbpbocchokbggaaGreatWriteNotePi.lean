/-
  Helper text. No conditions.
-/
import Derived.Test.YtbpbocchokbggaaGreatWriteNotePh
set_option linter.all false
namespace Go.Proofs.YtbpbocchokbggaaGreat.gen
open Go Go.Sh
open Go.IntKind (i64)
def nPl(f:M.aES->Bool)(l:List M.aES):Nat->Nat
 |0=>0
 |k+1=>if(l[k]?).any f=true then nPl f l k else k+1
theorem PZ(f:M.aES->Bool)(l:List M.aES):∀k,nPl f l k<=k
 |0=>by simp[nPl]
 |k+1=>by unfold nPl;split;(exact Nat.le_succ_of_le (PZ f l k));·exact qf _
theorem RG{α:Type}{l:List α}{i:Int}{x:α}(h:idx l i=some x):x∈l:=jB (aO h).2.1
theorem J7{α:Type}{l:List α}{k:Nat}(h:k<=l.length):Ek l (k:Int)=some (l.take k):=by unfold Ek;rw[if_pos ⟨jD,by simpa using h⟩,qH]
def T0(a:ByteArray)(out:List M.aES)(x:M.aES):List M.aES:=
 if(fN x.aA a).2=true then out.take (nPl (GF a x) out out.length)++(x::out.drop (nPl (GF a x) out out.length))else out
def I8(s:M.aC)(a:ByteArray):List M.aES:=s.aEM.foldl (T0 a) []
theorem Pk(a:ByteArray)(out:List M.aES)(x:M.aES):(T0 a out x).length<=out.length+1:=by unfold T0;have:=PZ (GF a x) out out.length;split;(simp only[qE,qU,qJ,qV];omega);·omega
theorem Pf{a:ByteArray}{out:List M.aES}{x y:M.aES}(h:y∈T0 a out x):y=x\/y∈out:=by unfold T0 at h;split at h;(rcases qP.1 h with h|h;(exact .inr (qj h));·rcases qp.1 h with h|h;(exact .inl h);·exact .inr (qv h));·exact .inr h
theorem Ru{a:ByteArray}{l:List M.aES}{x:M.aES}{K:Int->Option (List M.aES)}(J:l.length<=1048576)(I:x.ok)(C:∀y∈l,M.aES.ok y):
  ∀(n k:Nat),k<n->k<=l.length->lF a l x K n (k:Int)=K ((nPl (GF a x) l k:Nat):Int)
 |0,k,h,_=>by omega
 |n+1,0,h,_=>by simp only[lF,nPl];rw[if_neg jF]
 |n+1,k+1,h,hk=>by
  have j:k<l.length:=by omega
  have e:i64.wrap (((k+1:Nat):Int)-1)=(k:Int):=by rw[bP jD jD];omega
  simp only[lF]
  rw[if_pos jF,e,aM j,qA,Mi I (C _ (qG j)),qA,nPl,qF j,qe]
  cases hc:GF a x l[k]with
  |true=>rw[if_pos rfl,if_pos rfl];exact Ru J I C n k jD jD
  |false=>rw[if_neg jF,if_neg jF]
theorem QT{a:ByteArray}{l:List M.aES}{x:M.aES}{K:Int->Option (List M.aES)}(J:l.length<=1048576)(I:x.ok)(C:∀y∈l,M.aES.ok y):
  ∀(n k:Nat),k<n->k<=l.length->lQ a l x K n (k:Int)=K ((nPl (GF a x) l k:Nat):Int)
 |0,k,h,_=>by omega
 |n+1,0,h,_=>by simp only[lQ,nPl];rw[if_neg jF]
 |n+1,k+1,h,hk=>by
  have j:k<l.length:=by omega
  have e:i64.wrap (((k+1:Nat):Int)-1)=(k:Int):=by rw[bP jD jD];omega
  simp only[lQ]
  rw[if_pos jF,e,aM j,qA,HN I (C _ (qG j)),qA,nPl,qF j,qe]
  cases hc:GF a x l[k]with
  |true=>rw[if_pos rfl,if_pos rfl];exact QT J I C n k jD jD
  |false=>rw[if_neg jF,if_neg jF]
theorem TF{s:M.aC}{a:ByteArray}(C:s.ok)(hz:M.aC.sz s<=1048576):Aw s a=some (I8 s a)/\(I8 s a).length<=s.aEM.length/\∀y∈I8 s a,M.aES.ok y:=by
 have hl:s.aEM.length<=1048576:=by simp only[M.aC.sz]at hz;omega
 unfold Aw I8
 refine Ra (L:=jT s a) (xs:=s.aEM) (step:=T0 a) (I:=λk out=>out.length<=k/\∀y∈out,M.aES.ok y) (E:=λout=>some out) C.aEM.1 (λout k hk j=>⟨?_,λy J=> ?_⟩) (λn out k hk j=> ?_) (λn out j=> ?_) [] ⟨qf _,jF⟩
 ·have:=Pk a out s.aEM[k];have:=j.1;omega
 ·rcases Pf J with rfl|J;(exact C.aEM.2 _ (qG hk));·exact j.2 y J
 ·have hx:=C.aEM.2 _ (qG hk)
  have U:M.aES.sz s.aEM[k]<=1073741824:=by have:=gL (f:=M.aES.sz) (qG hk);simp only[M.aC.sz]at hz;omega
  have hi1:=j.1
  simp only[jT]
  rw[if_pos (bL hk),aM hk,qA,oF hx.aA,qA,bI jD,DQ]
  unfold T0
  by_cases hg:(fN s.aEM[k].aA a).2=true
  ·have hp:=PZ (GF a s.aEM[k]) out out.length;rw[if_pos hg,if_pos hg,Ru jD hx j.2 fuel out.length jI (qf _)];generalize nPl (GF a s.aEM[k]) out out.length=p at hp;simp only[qH];rw[J7 hp,qA,fR (by simp only[qK,qU];omega),qA,EK _ U,qA,fR (by simp only[qJ,qK,qU];omega),qA,fR (by simp only[qE,qJ,qK,qU,qV];omega),qA,qT,List.singleton_append]
  ·rw[if_neg hg,if_neg hg]
 ·simp only[jT];rw[if_neg jK]
theorem P1{s:M.aC}{a:ByteArray}(C:s.ok)(hz:M.aC.sz s<=1048576):Am s a=some (I8 s a)/\(I8 s a).length<=s.aEM.length/\∀y∈I8 s a,M.aES.ok y:=by
 have hl:s.aEM.length<=1048576:=by simp only[M.aC.sz]at hz;omega
 unfold Am I8
 refine Ra (L:=jS s a) (xs:=s.aEM) (step:=T0 a) (I:=λk out=>out.length<=k/\∀y∈out,M.aES.ok y) (E:=λout=>some out) C.aEM.1 (λout k hk j=>⟨?_,λy J=> ?_⟩) (λn out k hk j=> ?_) (λn out j=> ?_) [] ⟨qf _,jF⟩
 ·have:=Pk a out s.aEM[k];have:=j.1;omega
 ·rcases Pf J with rfl|J;(exact C.aEM.2 _ (qG hk));·exact j.2 y J
 ·have hx:=C.aEM.2 _ (qG hk)
  have U:M.aES.sz s.aEM[k]<=1073741824:=by have:=gL (f:=M.aES.sz) (qG hk);simp only[M.aC.sz]at hz;omega
  have hi1:=j.1
  simp only[jS]
  rw[if_pos (bL hk),aM hk,qA,kO hx.aA,qA,bI jD,DQ]
  unfold T0
  by_cases hg:(fN s.aEM[k].aA a).2=true
  ·have hp:=PZ (GF a s.aEM[k]) out out.length;rw[if_pos hg,if_pos hg,QT jD hx j.2 fuel out.length jI (qf _)];generalize nPl (GF a s.aEM[k]) out out.length=p at hp;simp only[qH];rw[Fu _ U,qA,JE ⟨jD,by simpa using hp,jF,by simp only[qJ,qK];omega⟩,qA,List.singleton_append]
  ·rw[if_neg hg,if_neg hg]
 ·simp only[jS];rw[if_neg jK]
theorem SD{a:ByteArray}{l:List M.aES}(j:∀y∈l,M.aES.ok y):∀(n:Nat) (v:Int),jY a l n v=eK a l n v
 |0,v=>rfl
 |n+1,v=>by
  simp only[jY,eK,SD j n]
  cases h1:idx l (i64.wrap (v-1))with
  |none=>rfl
  |some x=>
   have C:=(j x (RG h1)).aA
   simp only[qA,oF C,kO C]
   cases h2:idx l v with
   |none=>rfl
   |some y=>
    have I:=(j y (RG h2)).aA
    simp only[qA,oF I,kO I]
theorem Q9{a:ByteArray}{l:List M.aES}(C:∀y∈l,M.aES.ok y)(I:l.length<=1048576):∀(n k:Nat),l.length-k<n->1<=k->∃r,eK a l n (k:Int)=some r
 |0,k,h,_=>by omega
 |n+1,k,h,h1=>by
  simp only[eK]
  by_cases hk:k<l.length
  ·have e:i64.wrap ((k:Int)-1)=((k-1:Nat):Int):=by rw[bP jD jD];omega
   have j:k-1<l.length:=by omega
   rw[if_pos (bL hk),e,aM j,qA,kO (C _ (qG j)).aA,qA,aM hk,qA,kO (C _ (qG hk)).aA,qA,bI jD]
   split
   ·exact⟨_,rfl⟩
   ·exact Q9 C I n (k+1) jD jD
  ·rw[if_neg jE];exact⟨_,rfl⟩
def Lc(s:M.aC)(a:ByteArray):M.Key×M.Key×Bool:=(hU s a).getD (⟨0,0,⟨#[]⟩⟩,⟨0,0,⟨#[]⟩⟩,false)
theorem DT{s:M.aC}{a:ByteArray}(J:s.ok)(hz:M.aC.sz s<=1048576):hU s a=some (Lc s a):=by
 obtain⟨e,U,C⟩:=P1 (a:=a) J hz
 have j:s.aEM.length<=1048576:=by simp only[M.aC.sz]at hz;omega
 obtain⟨r,I⟩:=Q9 (a:=a) C jD fuel 1 jI jD
 have:hU s a=some r:=by unfold hU;rw[e,qA];exact I
 unfold Lc
 rw[this]
 rfl
theorem Hf{s:M.aC}{a:ByteArray}(j:s.ok)(hz:M.aC.sz s<=1048576):pV s a=some (Lc s a):=by obtain⟨e,I,C⟩:=TF (a:=a) j hz;obtain⟨e2,_⟩:=P1 (a:=a) j hz;rw[<-DT j hz];unfold pV hU;rw[e,e2,qA,qA];exact SD C _ _
def EJ(l:List M.aC)(k:Nat):Bool:=(l[k]?).any kZ&&(decide (k=0)||(l[k-1]?).any λy=>(l[k]?).any λx=>Op.bytesLess y.Name.toList x.Name.toList)
def Db(x y:M.aG):Bool:=(x.aC.toList==y.aC.toList)&&(x.Field.toList==y.Field.toList)
def Lk(l:List M.aG)(k:Nat)(x:M.aG):Bool:=(List.range k).all λj=> !((l[j]?).any λy=>Db y x)
def E6(d:M.aEK)(k:Nat):Bool:=(d.aEb[k]?).any λu=>decide (0<=rY (Ab u.aC) d.aEU)&&(sY u.Field&&(!((d.aEU[(rY (Ab u.aC) d.aEU).toNat]?).any λs=>(Lc s u.Field).2.2)&&Lk d.aEb k u))
def nDb(d:M.aEK):Bool:=(List.range d.aEU.length).all (EJ d.aEU)&&((List.range d.aEb.length).all (E6 d)&&(sY d.Name&&(inR d.aER 0 1000&&(decide (d.aEU.length<=4)&&decide (d.aEb.length<=4)))))
theorem Tb{l:List M.aG}{k:Nat}{x:M.aG}(hk:k<=l.length):(l.take k).any (Db x)= !(Lk l k x):=by
 have hc:∀y,Db y x=Db x y:=λy=>by unfold Db;rw[BEq.comm (a:=y.aC.toList),BEq.comm (a:=y.Field.toList)]
 unfold Lk
 rw[Bool.eq_iff_iff]
 simp only[List.any_eq_true,Bool.not_eq_true',List.all_eq_false,qS,Bool.not_eq_true,Bool.not_eq_false',hc]
 constructor
 ·rintro⟨y,J,C⟩;obtain⟨j,I,rfl⟩:=List.mem_iff_getElem.1 J;rw[qU]at I;refine⟨j,jD,?_⟩;rw[qF jD,qe];rw[List.getElem_take]at C;simp[C]
 ·rintro⟨j,I,C⟩;rw[qF jD,qe]at C;refine⟨l[j],List.mem_iff_getElem.2 ⟨j,by rw[qU];omega,by rw[List.getElem_take]⟩,by simpa using C⟩
theorem KL{l:List M.aG}{x:M.aG}(j:l.length<=maxLen):gU l x=some (l.any (Db x)):=by
 have C:=le_max j
 have:kI l x=some (rY (Db x) l):=by unfold kI;rw[findAll (L:=dB l x) (f:=Db x) (A:=λi=>some (i:Int)) (E:=some (-1)) j (λm k hk=> ?_) (λm=> ?_),B2];(simp only[dB];rw[if_pos (bL hk),aM hk,qA,bI jD];rfl);·simp only[dB];rw[if_neg jK]
 unfold gU
 rw[this,qA,Ma]
theorem Qz{d:M.aEK}{u:M.aG}{k:Nat}{K:Int->Option Bool}(I:d.aEb.length<=maxLen)(hk:k<=d.aEb.length):fB d (k:Int) u K fuel 0=if Lk d.aEb k u=true then K (k:Int)else some false:=by
 have U:=le_max I
 refine Bh (L:=fB d (k:Int) u K) (g:=λj=> !((d.aEb[j]?).any λy=>Db y u)) (F:=some false) (E:=K (k:Int)) (qg hk I) (λn j J=> ?_) (λn=> ?_)
 ·have C:j<d.aEb.length:=by omega
  simp only[fB]
  rw[if_pos (bL J),aM C,qA,bI jD,qF C,qe,DQ]
  rfl
 ·simp only[fB];rw[if_neg jK]
theorem JL{d:M.aEK}(hz:M.aEK.sz d<=1048576):∀s∈d.aEU,M.aC.sz s<=1048576:=λs j=>by have:=gL (f:=M.aC.sz) j;simp only[M.aEK.sz]at hz;omega
theorem TZ(a b:List UInt8):(Op.bytesLess a b||a==b)= !(Op.bytesLess b a):=by have h:=zX b a;cases h1:Op.bytesLess b a<;>cases h2:(Op.bytesLess a b||a==b)<;>simp_all
theorem zM{d:M.aEK}(C:d.ok)(hz:M.aEK.sz d<=1048576):jU d=some (nDb d):=by
 have hm:=le_max C.aEU.1
 have hm2:=le_max C.aEb.1
 unfold jU nDb
 rw[Bh (L:=dY d) (g:=EJ d.aEU) (F:=some false) (E:=dZ d fuel 0) C.aEU.1 (λn k hk=> ?_) (λn=> ?_),
  Bh (L:=dZ d) (g:=E6 d) (F:=some false) (E:=some (sY d.Name&&(inR d.aER 0 1000&&(decide (d.aEU.length<=4)&&decide (d.aEb.length<=4))))) C.aEb.1 (λn k hk=> ?_) (λn=> ?_),fF,fF]
 ·have U:=C.aEb.2 _ (qG hk)
  simp only[dZ]
  rw[if_pos (bL hk),aM hk,qA,CU C,qA,bI jD]
  unfold E6
  rw[qF hk,qe,gN U.Field,qA]
  by_cases h:rY (Ab d.aEb[k].aC) d.aEU<0
  ·rw[if_pos (by simpa using h),decide_eq_false jD];simp
  ·obtain⟨j,e,J⟩:=kN h
   have hs:=C.aEU.2 _ (qG J)
   rw[if_neg (by simpa using h),e,aM J,qA,Hf hs (JL hz _ (qG J)),qA,qH,qF J,qe,Qz C.aEb.1 jD]
   have:decide ((0:Int)<=(j:Int))=true:=by simp
   rw[this]
   generalize dZ d n ((k+1:Nat):Int)=Z
   cases sY d.aEb[k].Field<;>cases (Lc d.aEU[j] d.aEb[k].Field).2.2<;>cases Lk d.aEb k d.aEb[k]<;>simp
 ·simp only[dZ]
  rw[if_neg jK,gN C.Name,qA,fY,qA,fF,fF,fF]
  congr 3
  have e1:decide ((d.aEU.length:Int)<=4)=decide (d.aEU.length<=4):=by rw[Bool.eq_iff_iff];simp;omega
  have e2:decide ((d.aEb.length:Int)<=4)=decide (d.aEb.length<=4):=by rw[Bool.eq_iff_iff];simp;omega
  rw[e1,e2]
 ·have U:=C.aEU.2 _ (qG hk)
  simp only[dY]
  rw[if_pos (bL hk),aM hk,qA,bI jD,CG U,qA]
  unfold EJ
  rw[qF hk]
  generalize dY d n ((k+1:Nat):Int)=Z
  by_cases h0:k=0
  ·subst h0;simp only[qe];cases kZ d.aEU[0]<;>simp
  ·have e:i64.wrap ((k:Int)-1)=((k-1:Nat):Int):=by rw[bP jD jD];omega
   have I:k-1<d.aEU.length:=by omega
   rw[if_pos (c:=(decide ((k:Int)>0))=true) jE,e,aM I,qA,qF I]
   simp only[qe,h0,decide_false,Bool.false_or]
   cases kZ d.aEU[k]<;>cases Op.bytesLess d.aEU[k-1].Name.toList d.aEU[k].Name.toList<;>simp
 ·simp only[dY];rw[if_neg jK]
theorem zJ{d:M.aEK}(C:d.ok)(hz:M.aEK.sz d<=1048576):jR d=some (nDb d):=by
 have hm:=le_max C.aEU.1
 have hm2:=le_max C.aEb.1
 unfold jR nDb
 rw[Bh (L:=dX d) (g:=EJ d.aEU) (F:=some false) (E:=eB d fuel 0) C.aEU.1 (λn k hk=> ?_) (λn=> ?_),
  Bh (L:=eB d) (g:=E6 d) (F:=some false) (E:=some true) C.aEb.1 (λn k hk=> ?_) (λn=> ?_)]
 ·simp only[fP C.Name,dM,qA]
  have e1:decide ((d.aEU.length:Int)>4)= !decide (d.aEU.length<=4):=by rw[Bool.eq_iff_iff];simp;omega
  have e2:decide ((d.aEb.length:Int)>4)= !decide (d.aEb.length<=4):=by rw[Bool.eq_iff_iff];simp;omega
  rw[e1,e2]
  cases sY d.Name<;>cases inR d.aER 0 1000<;>cases decide (d.aEU.length<=4)<;>cases decide (d.aEb.length<=4)<;>cases (List.range d.aEU.length).all (EJ d.aEU)<;>cases (List.range d.aEb.length).all (E6 d)<;>rfl
 ·have U:=C.aEb.2 _ (qG hk)
  simp only[eB]
  rw[if_pos (bL hk),aM hk,qA,CV C,qA,bI jD]
  unfold E6
  rw[qF hk,qe,fP U.Field,qA,J7 jD,qA,qH,KL (qg (by rw[qU];exact Nat.min_le_right _ _) C.aEb.1),qA,Tb jD]
  by_cases h:rY (Ab d.aEb[k].aC) d.aEU<0
  ·rw[if_pos (by simpa using h),decide_eq_false jD];simp
  ·obtain⟨j,e,J⟩:=kN h
   have hs:=C.aEU.2 _ (qG J)
   rw[if_neg (by simpa using h),e,aM J,qA,DT hs (JL hz _ (qG J)),qA,qH,qF J,qe]
   have:decide ((0:Int)<=(j:Int))=true:=by simp
   rw[this]
   generalize eB d n ((k+1:Nat):Int)=Z
   cases sY d.aEb[k].Field<;>cases (Lc d.aEU[j] d.aEb[k].Field).2.2<;>cases Lk d.aEb k d.aEb[k]<;>simp
 ·simp only[eB];rw[if_neg jK]
 ·have U:=C.aEU.2 _ (qG hk)
  simp only[dX]
  rw[if_pos (bL hk),aM hk,qA,bI jD,Ai U,qA]
  unfold EJ
  rw[qF hk]
  generalize dX d n ((k+1:Nat):Int)=Z
  by_cases h0:k=0
  ·subst h0;simp only[qe];cases kZ d.aEU[0]<;>simp
  ·have e:i64.wrap ((k:Int)-1)=((k-1:Nat):Int):=by rw[bP jD jD];omega
   have I:k-1<d.aEU.length:=by omega
   rw[if_pos (c:=(decide ((k:Int)>0))=true) jE,e,aM I,qA,qF I,TZ]
   simp only[qe,h0,decide_false,Bool.false_or]
   cases kZ d.aEU[k]<;>cases Op.bytesLess d.aEU[k-1].Name.toList d.aEU[k].Name.toList<;>simp
 ·simp only[dX];rw[if_neg jK]
def uO(b:M.aEJ):Bool:=sY b.aET&&(sY b.Top&&(WV b.aEL&&((b.aEL.aET.toList==b.aET.toList)&&(FH b.aEV&&(nDb b.bK.aEe&&(Hy b.aF&&(inR b.aEk 0 1000000000000&&decide (Nw b<=2500))))))))
theorem CM{b:M.aEJ}(hz:M.aEJ.sz b<=1048576):M.aEK.sz b.bK.aEe<=1048576:=by simp only[M.aEJ.sz,M.bK.sz]at hz;omega
theorem C1{b:M.aEJ}(hb:b.ok)(hz:M.aEK.sz b.bK.aEe<=1048576):mC b=some (uO b):=by unfold mC uO;simp only[gN hb.aET,gN hb.Top,CO hb.aEL,IF hb.aEV,zM hb.bK.aEe hz,Ja hb.aF,fY,KZ hb,qA,fF]
theorem KD{b:M.aEJ}(hb:b.ok)(hz:M.aEJ.sz b<=1048576):mC b=some (uO b):=C1 hb (CM hz)
theorem C3{b:M.aEJ}(hb:b.ok)(hz:M.aEK.sz b.bK.aEe<=1048576):mB b=some (uO b):=by unfold mB uO;simp only[fP hb.aET,fP hb.Top,FF hb.aEL,H5 hb.aEV,zJ hb.bK.aEe hz,Jh hb.aF,dM,K7 hb,qA,fF]
theorem JR{b:M.aEJ}(hb:b.ok)(hz:M.aEJ.sz b<=1048576):mB b=some (uO b):=C3 hb (CM hz)
def DX(x y:M.aEJ):Bool:=Op.bytesLess x.aET.toList y.aET.toList||((x.aET.toList==y.aET.toList)&&Op.bytesLess x.Top.toList y.Top.toList)
theorem Gk(x y:M.aEJ):wR x y.aET y.Top=some (DX x y):=by unfold wR DX;cases Op.bytesLess x.aET.toList y.aET.toList<;>cases (x.aET.toList==y.aET.toList)<;>simp
theorem Du(x y:M.aEJ):lV x y=some (DX x y):=by unfold lV DX;cases Op.bytesLess x.aET.toList y.aET.toList<;>cases (x.aET.toList==y.aET.toList)<;>simp
def E1(l:List M.aEJ)(k:Nat):Bool:=(l[k]?).any uO&&(decide (k=0)||(l[k-1]?).any λy=>(l[k]?).any λx=>DX y x)
def AR(s:M.aD):Bool:=(List.range s.aEP.length).all (E1 s.aEP)&&decide ((s.aEP.length:Int)<=9)
theorem D3{s:M.aD}(C:s.ok)(hz:∀b∈s.aEP,M.aEK.sz b.bK.aEe<=1048576):cK s=some (AR s):=by
 have U:=le_max C.aEP.1
 unfold cK AR
 rw[Bh (L:=eY s) (g:=E1 s.aEP) (F:=some false) (E:=some (decide ((s.aEP.length:Int)<=9))) C.aEP.1 (λn k hk=> ?_) (λn=> ?_),fF]
 ·have J:=C.aEP.2 _ (qG hk)
  have I:M.aEK.sz s.aEP[k].bK.aEe<=1048576:=hz _ (qG hk)
  simp only[eY]
  rw[if_pos (bL hk),aM hk,qA,bI jD,C1 J I,qA]
  unfold E1
  rw[qF hk]
  generalize eY s n ((k+1:Nat):Int)=Z
  by_cases h0:k=0
  ·subst h0;simp only[qe];cases uO s.aEP[0]<;>simp
  ·have e:i64.wrap ((k:Int)-1)=((k-1:Nat):Int):=by rw[bP jD jD];omega
   have j:k-1<s.aEP.length:=by omega
   rw[if_pos (c:=(decide ((k:Int)>0))=true) jE,e,aM j,qA,Gk,qA,qF j]
   simp only[qe,h0,decide_false,Bool.false_or]
   cases uO s.aEP[k]<;>cases DX s.aEP[k-1] s.aEP[k]<;>simp
 ·simp only[eY];rw[if_neg jK]
theorem JA{s:M.aD}(j:s.ok)(hz:M.aD.sz s<=1048576):cK s=some (AR s):=D3 j (λb hb=>CM (by have:=gL (f:=M.aEJ.sz) hb;simp only[M.aD.sz]at hz;omega))
theorem D8{s:M.aD}(C:s.ok)(hz:∀b∈s.aEP,M.aEK.sz b.bK.aEe<=1048576):cM s=some (AR s):=by
 have U:=le_max C.aEP.1
 unfold cM AR
 rw[Bh (L:=eT s) (g:=E1 s.aEP) (F:=some false) (E:=some (decide ((s.aEP.length:Int)<=9))) C.aEP.1 (λn k hk=> ?_) (λn=> ?_),fF]
 ·have J:=C.aEP.2 _ (qG hk)
  have I:M.aEK.sz s.aEP[k].bK.aEe<=1048576:=hz _ (qG hk)
  simp only[eT]
  rw[if_pos (bL hk),aM hk,qA,bI jD,C3 J I,qA]
  unfold E1
  rw[qF hk]
  generalize eT s n ((k+1:Nat):Int)=Z
  by_cases h0:k=0
  ·subst h0;simp only[qe];cases uO s.aEP[0]<;>simp
  ·have e:i64.wrap ((k:Int)-1)=((k-1:Nat):Int):=by rw[bP jD jD];omega
   have j:k-1<s.aEP.length:=by omega
   rw[if_pos (c:=(decide ((k:Int)>0))=true) jE,e,aM j,qA,Du,qA,qF j]
   simp only[qe,h0,decide_false,Bool.false_or]
   cases uO s.aEP[k]<;>cases DX s.aEP[k-1] s.aEP[k]<;>simp
 ·simp only[eT];rw[if_neg jK]
theorem Jn{s:M.aD}(j:s.ok)(hz:M.aD.sz s<=1048576):cM s=some (AR s):=D8 j (λb hb=>CM (by have:=gL (f:=M.aEJ.sz) hb;simp only[M.aD.sz]at hz;omega))
