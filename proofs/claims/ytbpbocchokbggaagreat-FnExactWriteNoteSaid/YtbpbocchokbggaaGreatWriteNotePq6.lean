/-
  Helper text. No conditions.
-/
import Derived.Test.YtbpbocchokbggaaGreatWriteNotePq5
set_option linter.all false
namespace Go.Proofs.YtbpbocchokbggaaGreat.gen
open Go Go.Sh
theorem JX{w:M.World}(hz:M.World.sz w<=1048576):M.aD.sz w.aD<=1048576:=by simp only[M.World.sz]at hz;omega
theorem VT{b o:M.aEJ}(j:M.aEJ.sz b<=1048576)(C:M.aEK.sz o.bK.aEe<=1048576):M.aEK.sz (N9 b o).1.bK.aEe<=1048576:=by unfold N9;split;(split;(exact C);·exact CM j);·exact CM j
def MO(w:M.World)(b:M.aEJ)(ok:Bool):M.World×Bool:=if ok=true then if(QN w.aD b).2=true then({ w with aD:=(QN w.aD b).1 },true)else(w,false)else(w,false)
theorem Uz{w:M.World}{b:M.aEJ}{ok:Bool}(j:w.ok)(hb:b.ok)(hz:M.World.sz w<=1048576):M.World.ok (MO w b ok).1:=by have h:=U6 j.aD hb (JX hz);unfold MO;split;(split;(exact⟨j.Now,j.aEd,h,j.aEq,j.aEl,j.aEh,j.aEY,j.aEr,j.aEi⟩);·exact j);·exact j
theorem TP(w:M.World)(b:M.aEJ)(ok:Bool):M.World.sz (MO w b ok).1<=M.World.sz w+M.aEJ.sz b+1:=by have h:=Vs w.aD b;unfold MO;split;(split;(simp only[M.World.sz];omega);·show M.World.sz w<=_;omega);·show M.World.sz w<=_;omega
theorem Hl{w:M.World}{b:M.aEJ}{ok:Bool}(j:w.ok)(hb:b.ok)(hz:M.World.sz w<=1048576)(I:M.aEJ.sz b<=1073741824)(C:M.aEK.sz b.bK.aEe<=1048576):rG w b ok=some (MO w b ok):=by unfold rG MO;rw[Gf w jD,qA,Ig j.aD hb (JX hz) I C,qA];cases ok;(simp);·cases (QN w.aD b).2<;>simp
def T8(l:List Int)(i:Int)(b:List Int):List Int:=l++(DG b++uv (Su i b).toNat)
def TC(l:List Int)(i:Int)(b:List Int):List Int×Bool:=if i<0 then(l,false)else if(T8 l i b).length>4000 then(l,false)else(T8 l i b,true)
theorem RW{l b:List Int}{i:Int}:T8 l i b=(l++DG b)++uv (Su i b).toNat:=by unfold T8;rw[qT]
theorem Rz(i:Int)(b:List Int):0<=Su i b/\Su i b<2147483647:=Vq _
theorem Jq{l b:List Int}{i:Int}(I:l.length<=1048576)(hb:b.length<=100000):vU l i b=some (TC l i b):=by have C:=Rz i b;have J:=Dn (n:=b.length) jD;have j:=kS (r:=l++DG b) (n:=(Su i b).toNat) (by unfold DG;simp only[qE];omega) jD;rw[Int.toNat_of_nonneg C.1,<-RW]at j;unfold vU TC;rw[GN jD jD,qA,mO jD jD,qA,FD jD,qA];show((bU (l++DG b) (Su i b)).bind _)=_;rw[j,qA];by_cases hi:i<0;(rw[if_pos (by simpa using hi),if_pos hi]);·rw[if_neg (by simpa using hi),if_neg hi];by_cases h4:(T8 l i b).length>4000;(rw[if_pos jE,if_pos h4]);·rw[if_neg jE,if_neg h4]
theorem Js{l b:List Int}{i:Int}(I:l.length<=1048576)(hb:b.length<=100000):vZ l i b=some (TC l i b):=by have C:=Rz i b;have J:=Dn (n:=b.length) jD;have j:=kU (r:=l++DG b) (n:=(Su i b).toNat) (by unfold DG;simp only[qE];omega) jD;rw[Int.toNat_of_nonneg C.1,<-RW]at j;unfold vZ TC;rw[BJ jD jD,qA,FA jD,qA];show((cA (l++DG b) (Su i b)).bind _)=_;rw[j,qA,CY l jD,qA];by_cases hi:i<0;(rw[if_pos (by simpa using hi),if_pos hi]);·rw[if_neg (by simpa using hi),if_neg hi];by_cases h4:(T8 l i b).length>4000;(rw[if_pos jE,if_pos h4]);·rw[if_neg jE,if_neg h4]
def WM(d:M.bK)(l:List M.Op):Bool:=(C0 (EX d).1 l).2.2&&((List.length (DF l):Int) !=0&&(((EX d).2==d.aEx)&&(TC d.Log d.aEx (DF l)).2))
def EG(d:M.bK)(l:List M.Op):M.bK×Bool:=if WM d l=true then((⟨d.aEe,(TC d.Log d.aEx (DF l)).1,IntKind.i64.wrap (d.aEx+1)⟩:M.bK),true)else(d,false)
theorem NC(l:List M.Op):(DF l).length<=2000:=by unfold DF;split;(rename_i h;rw[qM,qL,qR]at h;have h1:=Ms (f:=enO) (λo j=>Mu (h.1 o j));have h9:=Dn (n:=l.length) jD;rw[qE];omega);·simp
theorem Iy{d:M.bK}{l:List M.Op}(C:d.ok)(hz:M.bK.sz d<=1048576)(I:l.length<=1000)(J:∀o∈l,HW o):sK d l=some (EG d l):=by
 have j:d.Log.length<=1048576:=by simp only[M.bK.sz]at hz;omega
 have he:=NC l
 obtain⟨U,v2⟩:=G5 C hz
 unfold sK EG WM
 rw[DY d jD,qA,FL C hz,qA,Ht U I J v2,qA,EV I J,qA,Jq j jD,qA]
 unfold bne
 generalize (C0 (EX d).1 l).2.2=a1
 generalize ((List.length (DF l):Int)==0)=a2
 generalize ((EX d).2==d.aEx)=a3
 cases a1<;>cases a2<;>cases a3<;>cases (TC d.Log d.aEx (DF l)).2<;>rfl
theorem Iq{d:M.bK}{l:List M.Op}(C:d.ok)(hz:M.bK.sz d<=1048576)(I:l.length<=1000)(J:∀o∈l,HW o):tP d l=some (EG d l):=by
 have j:d.Log.length<=1048576:=by simp only[M.bK.sz]at hz;omega
 have he:=NC l
 obtain⟨U,v2⟩:=G5 C hz
 unfold tP EG WM
 rw[Fx d jD,qA,FG C hz,qA,HC U I J v2,qA,ES I J,qA,Js j jD,qA]
 unfold bne
 generalize (C0 (EX d).1 l).2.2=a1
 generalize ((List.length (DF l):Int)==0)=a2
 rw[Bool.beq_comm (a:=d.aEx)]
 generalize ((EX d).2==d.aEx)=a3
 cases a1<;>cases a2<;>cases a3<;>cases (TC d.Log d.aEx (DF l)).2<;>rfl
theorem Qj{d:M.bK}{l:List M.Op}(C:d.ok):(EG d l).1.ok/\M.bK.sz (EG d l).1<=M.bK.sz d+4000/\(EG d l).1.aEe=d.aEe:=by unfold EG;split;(rename_i h;unfold WM at h;simp only[qM]at h;have h4:=h.2.2.2;unfold TC at h4⊢;split at h4;(cases h4);·rename_i I;rw[if_neg I];split at h4;(cases h4);·rename_i J;rw[if_neg J];refine⟨⟨C.aEe,⟨qg (by omega:(T8 d.Log d.aEx (DF l)).length<=4000) jJ,λy U=> ?_⟩,FU _⟩,?_,rfl⟩;(have j:y∈T8 d.Log d.aEx (DF l):=U;unfold T8 at j;simp only[qP]at j;rcases j with h|h|h;(exact C.Log.2 y h);(exact FP (Mr l).2 y h);·exact HY _ y h);·simp only[M.bK.sz];omega);·exact⟨C,by dsimp only;omega,rfl⟩
theorem OT{w:M.World}{p:M.bS}{n v:Int}{f:ByteArray}(J:w.ok)(hn:inI n)(hv:inI v)(hf:f.size<=1048576)(hz:M.World.sz w<=1048576):∃R:M.World×Bool,vJ w p n f v=some R/\oU w p n f v=some R/\R.1.ok/\M.World.sz R.1<=16777216:=by
 have hz':=hz
 simp only[M.World.sz,M.aD.sz]at hz'
 have U:f.size<=maxLen:=by unfold maxLen;omega
 unfold vJ oU BH pH zI
 rw[D2 J.aD,Eo J.aD,Jy w jD,Gf w jD]
 simp only[qA]
 by_cases h:rY (nAt p.aET p.Top) w.aD.aEP<0
 ·simp only[h,decide_true,if_true,qA];exact⟨(w,false),rfl,jF,J,by show M.World.sz w<=_;omega⟩
 ·obtain⟨j,ej,hj⟩:=kN h
  simp only[h,decide_false,qD,if_false]
  rw[ej,aM hj]
  simp only[qA,qB,qD,if_false]
  have hb:=J.aD.aEP.2 _ (qG hj)
  have z1:=gL (f:=M.aEJ.sz) (qG hj)
  generalize w.aD.aEP[j]=q at hb z1
  have z2:M.bK.sz q.bK<=M.aEJ.sz q:=by simp only[M.aEJ.sz];omega
  obtain⟨v1,v2⟩:=G5 hb.bK jD
  obtain⟨g,eg⟩:=Mb (n:=n) v1
  have nk:=Ul (n:=n) v1
  have nz:=S9 (n:=n) v2
  have nl:(K8 (EX q.bK).1 n).aEN.length<=1048576:=by simp only[M.aA.sz]at nz;omega
  rw[Jw hb.bK jD,FG hb.bK jD]
  simp only[qA]
  rw[eg]
  simp only[qA]
  rw[Dq nk jD U hv,DA nk jD U hv]
  simp only[qA]
  have ok0:=Rn nk jD U hv
  generalize KG (K8 (EX q.bK).1 n) f v=S at ok0
  obtain⟨r,c0⟩:=S
  have ho:∀o∈[(⟨1,(⟨#[110,111,116,101,115]⟩:ByteArray),(⟨1,n,(⟨#[]⟩:ByteArray)⟩:M.Key),r,(⟨#[]⟩:ByteArray)⟩:M.Op)],HW o:=λo hx=>by rw[qQ.1 hx];exact⟨by show inI 1;unfold inI;omega,(by show(⟨#[110,111,116,101,115]⟩:ByteArray).size<=maxLen;exact aDB _ jG),⟨by show inI 1;unfold inI;omega,hn,sz0⟩,ok0,sz0⟩
  rw[Iy hb.bK jD jF ho,Iq hb.bK jD jF ho]
  obtain⟨C,sz1,eb⟩:=Qj (l:=[(⟨1,(⟨#[110,111,116,101,115]⟩:ByteArray),(⟨1,n,(⟨#[]⟩:ByteArray)⟩:M.Key),r,(⟨#[]⟩:ByteArray)⟩:M.Op)]) hb.bK
  generalize EG q.bK [(⟨1,(⟨#[110,111,116,101,115]⟩:ByteArray),(⟨1,n,(⟨#[]⟩:ByteArray)⟩:M.Key),r,(⟨#[]⟩:ByteArray)⟩:M.Op)]=T at C sz1 eb
  obtain⟨k,c⟩:=T
  dsimp only at C sz1 eb
  simp only[qA]
  have zo:M.aEK.sz (nC q k).bK.aEe<=1048576:=by show M.aEK.sz k.aEe<=_;rw[eb];exact CM (b:=q) jD
  have zr:=Fo q k
  have zc:=VZ q (nC q k)
  have zd:=VT (b:=q) (o:=nC q k) jD zo
  have I:=VF hb (Fk hb C)
  rw[Hr hb C jD jD zo,He hb C jD jD zo]
  simp only[qA]
  generalize N9 q (nC q k)=Y at zc I zd
  rw[Hl J I hz jD zd,Hl J I hz jD zd,IB J.aD I (JX hz) jD zd]
  simp only[qA]
  generalize Sv (EX q.bK).1=c1
  have ok4:=Uz (ok:=c1&&(c0&&(c&&Y.2))) J I hz
  have sz4:=TP w Y.1 (c1&&(c0&&(c&&Y.2)))
  refine⟨MO w Y.1 (c1&&(c0&&(c&&Y.2))),?_,?_,ok4,jD⟩
  ·cases c1<;>cases c0<;>cases c<;>simp
  ·unfold MO;cases c1;(simp);cases c0;(simp);cases c;(simp);·cases Y.2;(simp);·cases (QN w.aD Y.1).2<;>simp
