/-
  Helper text. No conditions.
-/
import Derived.Test.YtjlnkcoeghonfaaGreatRunningPagesPd8
set_option linter.all false
namespace Go.Proofs.YtjlnkcoeghonfaaGreat.gen
open Go Go.Sh
open Go.IntKind (i64)
theorem ED(x:M.bO)(j:M.bO.sz x<=1073741824):lJ x=some x:=by simp only[M.bO.sz]at j;unfold lJ;rw[IP wi wi,qA,AJ _ wi,qA]
theorem NZ(x:M.aT)(j:M.aT.sz x<=1073741824):Cf x=some x:=by simp only[M.aT.sz]at j;unfold Cf;rw[IP wi wi,qA]
theorem LQ(x:M.aLe)(j:M.aLe.sz x<=1073741824):A0 x=some x:=by simp only[M.aLe.sz]at j;unfold A0;rw[IP wi wi,qA]
theorem Pd(x:M.aLa)(j:M.aLa.sz x<=1073741824):C2 x=some x:=by simp only[M.aLa.sz]at j;unfold C2;rw[IP wi wi,qA]
theorem M7(x:M.aLj)(j:M.aLj.sz x<=1073741824):BH x=some x:=by simp only[M.aLj.sz]at j;unfold BH;rw[lK _ wi,qA,IP wi wi,qA,IP wi wi,qA]
theorem aDT{α β:Type}(c:Bool)(x y:Option α)(f:α->Option β):(if c=true then x else y).bind f=if c=true then x.bind f else y.bind f:=by split<;>rfl
theorem aIa(n:Int):inR n 0 0=(n==0):=by unfold inR;rw[jQ];simp only[qM,qL,beq_iff_eq];omega
theorem Qx{k:Int}(h:inR k 1 9=true):k=1\/k=2\/k=3\/k=4\/k=5\/k=6\/k=7\/k=8\/k=9:=by unfold inR at h;simp only[qM,qL]at h;omega
theorem Qw{k r n m:Int}{t:ByteArray}(j:t.size<=maxLen):∃b,A9 (⟨k,r,n,t⟩:M.aZ) m=some b/\yC (⟨k,r,n,t⟩:M.aZ) m=some b:=by
 unfold A9 yC
 simp only[cK,bY,eB j,dG j,qA,aIa]
 generalize inR r 0 3=a1
 generalize (r !=0)=a2
 generalize pS t=a3
 generalize (t.toList==(⟨#[]⟩:ByteArray).toList)=a4
 cases hk:inR k 1 9 with
 |false=>exact⟨false,by simp only[aDT,qA,qC,jH,ite_self],by simp only[aDT,qA,qC,jH,ite_self]⟩
 |true=>
  rcases Qx hk with rfl|rfl|rfl|rfl|rfl|rfl|rfl|rfl|rfl
  all_goals clear hk
  all_goals simp+decide only[qA,aDT,jH,jG,qB,qC,aIa,show inR 1 6 8=false from rfl,show inR 2 6 8=false from rfl,show inR 3 6 8=false from rfl,show inR 4 6 8=false from rfl,show inR 6 6 8=true from rfl,show inR 7 6 8=true from rfl,show inR 8 6 8=true from rfl,show inR 9 6 8=false from rfl]
  all_goals (try generalize inR n 0 1000=b1)
  all_goals (try generalize inR n 0 3=b2)
  all_goals (try generalize inR n 0 m=b3)
  all_goals (try generalize inR n 0 100=b4)
  all_goals (try generalize (n==0)=b5)
  all_goals (try clear a1)
  all_goals (try clear a2)
  all_goals (try clear a3)
  all_goals (try clear a4)
  all_goals (try clear b1)
  all_goals (try clear b2)
  all_goals (try clear b3)
  all_goals (try clear b4)
  all_goals (try clear b5)
  all_goals (try cases a1)
  all_goals (try cases a2)
  all_goals (try cases a3)
  all_goals (try cases a4)
  all_goals (try cases b1)
  all_goals (try cases b2)
  all_goals (try cases b3)
  all_goals (try cases b4)
  all_goals (try cases b5)
  all_goals first|exact⟨true,rfl,rfl⟩|exact⟨false,rfl,rfl⟩
def Nx(x:M.aZ)(m:Int):Bool:=(yC x m).getD false
theorem Kh{x:M.aZ}{m:Int}(j:x.ok):A9 x m=some (Nx x m):=by obtain⟨k,r,n,t⟩:=x;obtain⟨b,e1,e2⟩:=Qw (k:=k) (r:=r) (n:=n) (m:=m) j.aLu;unfold Nx;rw[e1,e2];rfl
theorem PV{x:M.aZ}{m:Int}(j:x.ok):yC x m=some (Nx x m):=by obtain⟨k,r,n,t⟩:=x;obtain⟨b,e1,e2⟩:=Qw (k:=k) (r:=r) (n:=n) (m:=m) j.aLu;unfold Nx;rw[e2];rfl
def Ry(l:List M.aZ)(k:Nat):Bool:=(l[k]?).any λx=>Nx x (List.length l:Int)
def Rz(l:List M.aZ):Bool:=(List.range l.length).all (Ry l)&&decide ((List.length l:Int)<=16)
def Ga(l:List M.aZ):Prop:=l.length<=maxLen/\∀x∈l,M.aZ.ok x
theorem Pm{l:List M.aZ}(j:Ga l):C9 l=some (Rz l):=by have C:=aY j.1;unfold C9 Rz;rw[sM (L:=pW l) (g:=Ry l) (F:=some false) (E:=some (decide ((List.length l:Int)<=16))) j.1 (λn k hk=> ?_) (λn=> ?_),bF];(simp only[pW];rw[jE (bE hk),aM hk,qA,bL wi,Kh (j.2 _ (qG hk)),qA];unfold Ry;rw[qF hk,qf];simp only[eJ]);·simp only[pW];rw[jF wG]
def Ud(l:List M.aZ):M.aLX:=if Rz l=true then(⟨l,0,[0,0,0,0],0,false,false⟩:M.aLX)else(⟨([]:List M.aZ),0,[0,0,0,0],0,true,false⟩:M.aLX)
theorem XY:okI [0,0,0,0]:=⟨by unfold maxLen;simp,λx j=>by simp only[qq,qO,or_false,or_self]at j;subst j;exact zV⟩
theorem Z3{l:List M.aZ}(j:Ga l):(Ud l).ok:=by unfold Ud;split;(exact⟨j,zV,XY,zV⟩);·exact⟨⟨we,we⟩,zV,XY,zV⟩
theorem aAA(l:List M.aZ):M.aLX.sz (Ud l)<=l.length+dV M.aZ.sz l+4:=by unfold Ud;split;(simp only[M.aLX.sz,qJ,qK];omega);·simp only[M.aLX.sz,dV,qJ,qK];omega
theorem MT{l:List M.aZ}(j:Ga l)(C:l.length<=1073741824):BM l=some (Ud l):=by unfold BM Ud;rw[Pm j,qA,IL l C];cases Rz l<;>rfl
def GO(i:Int)(a b:ByteArray)(v:Int)(l:List M.aZ):M.bO:=(⟨i,a,b,v,([]:List M.aW),Ud l⟩:M.bO)
def VG:M.bO:=(⟨0,(⟨#[]⟩:ByteArray),(⟨#[]⟩:ByteArray),0,([]:List M.aW),(⟨([]:List M.aZ),0,([]:List Int),0,false,false⟩:M.aLX)⟩:M.bO)
def FM(i:Int)(a b:ByteArray)(v:Int)(l:List M.aZ):M.bO×Bool:=if EW (GO i a b v l)=true then(GO i a b v l,true)else(VG,false)
theorem QJ{i v:Int}{a b:ByteArray}{l:List M.aZ}(C:inI i)(j:a.size<=maxLen)(hb:b.size<=maxLen)(J:inI v)(I:Ga l):(GO i a b v l).ok:=⟨C,j,hb,J,⟨by simp[GO],by simp[GO]⟩,Z3 I⟩
theorem Xs:VG.ok:=⟨zV,sz0,sz0,zV,⟨wS,wS⟩,⟨⟨wS,wS⟩,zV,⟨wS,wS⟩,zV⟩⟩
theorem Tg{i v:Int}{a b:ByteArray}{l:List M.aZ}(C:inI i)(j:a.size<=maxLen)(hb:b.size<=maxLen)(J:inI v)(I:Ga l):(FM i a b v l).1.ok:=by unfold FM;split;(exact QJ C j hb J I);·exact Xs
theorem Si(i:Int)(a b:ByteArray)(v:Int)(l:List M.aZ):M.bO.sz (FM i a b v l).1<=a.size+b.size+(l.length+dV M.aZ.sz l)+4/\(FM i a b v l).1.aW.length=0:=by have h:=aAA l;unfold FM;split;(refine⟨?_,rfl⟩;simp only[GO,M.bO.sz,dV,qK];omega);·refine⟨?_,rfl⟩;have j:(⟨#[]⟩:ByteArray).size=0:=rfl;simp only[VG,M.bO.sz,M.aLX.sz,dV,qK,j];omega
theorem Iv{i v:Int}{a b:ByteArray}{l:List M.aZ}(I:inI i)(C:a.size<=maxLen)(hb:b.size<=maxLen)(J:inI v)(j:Ga l)(U:l.length<=1073741824):nI i a b v l=some (FM i a b v l):=by unfold nI FM;rw[MT j U,qA];show((yA (GO i a b v l)).bind _)=_;rw[F7 (QJ I C hb J j),qA];cases EW (GO i a b v l)<;>rfl
def Q5(r:M.aLU)(s:M.aLa)(o:Bool):Int:=if(r.aMA !=0)=true then r.aMA else if o=true then s.aLT else 0
theorem Mt(r:M.aLU)(s:M.aLa)(o:Bool):sZ r s o=some (Q5 r s o):=by unfold sZ Q5;cases (r.aMA !=0)<;>cases o<;>rfl
theorem aCB{r:M.aLU}{s:M.aLa}{o:Bool}(j:r.ok)(C:s.ok):inI (Q5 r s o):=by unfold Q5;split;(exact j.aMA);·split;(exact C.aLT);·exact zV
theorem aA8{p:M.bO}(h:EW p=true):(p.aLT==0)=false:=by unfold EW inR at h;simp only[qM,qL]at h;have:=h.2.2.2.2.1.1;rw[beq_eq_false_iff_ne];omega
def Gt(p:M.bO)(f:ByteArray)(v:Int):M.bO:=(⟨p.Id,p.aLa,p.Top,p.aLT,p.aW++[(⟨f,v⟩:M.aW)],p.aLX⟩:M.bO)
def EY(p:M.bO)(f:ByteArray)(x:M.aLb):M.bO×Bool:=if(x.aMD !=200)=true then(p,false)else if(x.aLT !=p.aLT)=true then(p,false)else if EW p=true then if EW (Gt p f x.aLT)=true then(Gt p f x.aLT,true)else(p,false)else(p,false)
theorem OD{p:M.bO}{f:ByteArray}{v:Int}(j:p.ok)(hl:p.aW.length<=6000000)(J:f.size<=maxLen)(U:inI v):(Gt p f v).ok:=
 ⟨j.Id,j.aLa,j.Top,j.aLT,⟨by show(p.aW++_).length<=maxLen;unfold maxLen;simp;omega,λy I=>by have C:y∈p.aW++[(⟨f,v⟩:M.aW)]:=I;simp only[qP,qq,qO,or_false]at C;rcases C with I|rfl;(exact j.aW.2 y I);·exact⟨J,U⟩⟩,j.aLX⟩
theorem RP{p:M.bO}{f:ByteArray}{x:M.aLb}(j:p.ok)(I:p.aW.length<=6000000)(C:f.size<=maxLen)(J:inI x.aLT):(EY p f x).1.ok:=by unfold EY;split;(exact j);·split;(exact j);·split;(split;(exact OD j I C J);·exact j);·exact j
theorem Rk(p:M.bO)(f:ByteArray)(x:M.aLb):M.bO.sz (EY p f x).1<=M.bO.sz p+f.size+1:=by
 have h:M.bO.sz (Gt p f x.aLT)=M.bO.sz p+f.size+1:=by simp only[Gt,M.bO.sz,qE,qJ,qK,yY,dV,M.aW.sz];omega
 unfold EY
 split
 ·show M.bO.sz p<=_;omega
 ·split;(show M.bO.sz p<=_;omega);·split;(split;(show M.bO.sz (Gt p f x.aLT)<=_;omega);·show M.bO.sz p<=_;omega);·show M.bO.sz p<=_;omega
theorem GY{p:M.bO}{f:ByteArray}{x:M.aLb}(j:p.ok)(I:p.aW.length<=6000000)(U:M.bO.sz p<=1073741824)(C:f.size<=maxLen)(J:inI x.aLT):kZ p f x=some (EY p f x):=by have e:=F7 (OD j I C J);unfold Gt at e;unfold kZ EY;rw[Hr p U,qA,dN wA,qA,F7 j,qA,e,qA];unfold Gt;cases (x.aMD !=200);(cases (x.aLT !=p.aLT);(cases EW p;(simp);·cases EW (⟨p.Id,p.aLa,p.Top,p.aLT,p.aW++[(⟨f,x.aLT⟩:M.aW)],p.aLX⟩:M.bO)<;>simp);·simp);·simp
theorem Pk{p:M.bO}{f:ByteArray}{x:M.aLb}(j:p.ok)(I:p.aW.length<=6000000)(U:M.bO.sz p<=1073741824)(C:f.size<=maxLen)(J:inI x.aLT):C5 p f x=some (EY p f x):=by have e:=H6 (OD j I C J);unfold Gt at e;unfold C5 EY;rw[ED p U,qA,dN wA,qA,H6 j,qA,e,qA];unfold Gt;cases (x.aMD !=200);(cases (x.aLT !=p.aLT);(cases EW p;(simp);·cases EW (⟨p.Id,p.aLa,p.Top,p.aLT,p.aW++[(⟨f,x.aLT⟩:M.aW)],p.aLX⟩:M.bO)<;>simp);·simp);·simp
def Gp(x:M.aZ):Prop:=M.aZ.ok x/\x.aLu.size<=8
theorem Ho{k r n:Int}{s:ByteArray}(h1: -1000000000000<=k/\k<=1000000000000)(h2:0<=r/\r<=1000000000000)(h3:0<=n/\n<=1000000000000)(j:s.size<=8):Gp (⟨k,r,n,s⟩:M.aZ):=⟨⟨Oa (by show -1000000000000000<=k;omega) (by show k<=_;omega),Oa (by show -1000000000000000<=r;omega) (by show r<=_;omega),Oa (by show -1000000000000000<=n;omega) (by show n<=_;omega),Ia j⟩,j⟩
theorem Wu{b:List Int}{i h n:Int}(hn:0<=n/\n<=1000)(hc:okC b i h):Dr b Gp (C8 (⟨b,i,h⟩:M.bI) n):=by
 have e0:(⟨#[]⟩:ByteArray).size<=8:=by decide
 unfold C8
 refine .bnd (bA hc) λi1 v1 r1 c1 q1=>.bnd (bA c1) λi2 v2 r2 c2 q2=> ?_
 dsimp only
 have hr1:=q1.2.1 wi
 have hr2:=q2.2.1 wi
 rw[mO (n:=1+r1) wi wi,mO (n:=n+1) wi wi]
 have U: -1000000000000<=1+r1/\1+r1<=1000000000000:=by omega
 have a2:0<=r2/\r2<=1000000000000:=by omega
 have a0:(0:Int)<=0/\(0:Int)<=1000000000000:=by omega
 have below:∀{m:Int} {f:Int×Int×Int->Option (Int×Int×M.aZ)},(∀i3 J I,okC b i3 J->(0<=I/\I<=1000000000000)->Dr b Gp (f (i3,J,I)))->Dr b Gp ((aK (⟨b,i2,v2⟩:M.bI) m).bind f):=λhf=>.bnd (bA c2) λi3 J I j C=>hf i3 J I j ⟨C.1,wi⟩
 split
 ·exact below λi3 J I j C=>.ret j (Ho U a2 C e0)
 split
 ·exact below λi3 J I j C=>.ret j (Ho U a2 C e0)
 split
 ·exact below λi3 J I j C=>.ret j (Ho U a2 C e0)
 split
 ·exact below λi3 J I j C=>.ret j (Ho U a0 C e0)
 split
 ·exact .bnd (Fo (λs=>s.size<=8) wh wh c2) λi3 J I j C=>.ret j (Ho U a2 a0 C)
 split
 ·exact below λi3 J I j C=>.bnd (Dj j) λi4 v4 r4 c4 q4=>.ret c4 (Ho U a2 C q4)
 split
 ·exact below λi3 J I j C=>.bnd (Dj j) λi4 v4 r4 c4 q4=>.ret c4 (Ho U a2 C q4)
 split
 ·exact below λi3 J I j C=>.bnd (Dj j) λi4 v4 r4 c4 q4=>.ret c4 (Ho U a2 C q4)
 split
 ·exact .ret c2 (Ho U a0 a0 e0)
 ·exact .ret c2 (Ho U a2 a0 e0)
def E5(l:List M.aZ):Prop:=l.length<=8/\∀x∈l,Gp x
theorem Kx{b:List Int}{i h:Int}(hc:okC b i h):Dr b E5 (xG (⟨b,i,h⟩:M.bI)):=by
 unfold xG
 refine .bnd (bA hc) λi1 v1 r1 c1 q1=> ?_
 obtain⟨N,rfl⟩:=Dw q1.1
 have hN:=q1.2.1 wi
 refine aB2 (N:=N) (L:=λn v (s:List M.aZ×Int×Int)=>nO (⟨b,i,h⟩:M.bI) (i1,v1,(N:Int)) n v s.1 s.2.1 s.2.2) (I:=λk s=>okC b s.2.1 s.2.2/\s.1.length=k/\∀x∈s.1,Gp x) (Q:=Dr b E5) (λn k s hk hi ih=> ?_) (λn s hi=> ?_) aH 0 (([]:List M.aZ),i1,v1) (nN wi) wi ⟨c1,rfl,we⟩
 ·obtain⟨l,ci,ch⟩:=s
  obtain⟨C,U,J⟩:=hi
  simp only at C U J
  simp only[nO]
  rw[jE (bE hk)]
  refine .bnd (Wu ⟨wi,wi⟩ C) λi3 v3 r3 c3 q3=> ?_
  rw[dN wA,qA,bL wi]
  refine ih (l++[r3],i3,v3) ⟨c3,by simp[U],λx j=> ?_⟩
  rcases qP.1 j with j|j
  ·exact J x j
  ·rw[qQ.1 j];exact q3
 ·obtain⟨l,ci,ch⟩:=s;obtain⟨C,U,J⟩:=hi;simp only at C U J;simp only[nO];rw[jF wG];exact .ret C ⟨wi,J⟩
theorem Ph{l:List M.aZ}(h:E5 l):Ga l:=⟨qh h.1 wE,λx j=>(h.2 x j).1⟩
theorem S6{l:List M.aZ}(h:E5 l):l.length+dV M.aZ.sz l<=72:=by
 have h1:=OJ (c:=M.aZ.sz) (A:=8) (xs:=l) λx j=>(h.2 x j).2
 have h2:=h.1
 omega
def K8(p:M.bO):Prop:=M.bO.ok p/\p.aW.length<=3/\M.bO.sz p<=1000
theorem Yi{b:List Int}{i h:Int}(hc:okC b i h):Dr b K8 (DU (⟨b,i,h⟩:M.bI)):=by
 have fin:∀{L:Nat->Int->Int->ByteArray->ByteArray->Int->Int->Int->Bool->Bool->Int->Int->List M.aW->List M.aZ->List Int->Option (Int×Int×M.bO)} {n:Int} {i1 h1:Int} {p:M.bO},(∀m v a0 a1 a2 a3 a6 a8 a9 ae ci U r0 r1 r2,L (m+1) v a0 a1 a2 a3 a6 a8 a9 ae ci U r0 r1 r2=if(decide (v>0))=true then(Cz (⟨b,ci,U⟩:M.bI)).bind λaf=>(kZ (⟨a0,a1,a2,a3,r0,(⟨r1,a6,r2,a8,a9,ae⟩:M.aLX)⟩:M.bO) af.2.2 (⟨0,200,a3,([]:List Int),false⟩:M.aLb)).bind λC=>L m (i64.wrap (v-1)) C.1.Id C.1.aLa C.1.Top C.1.aLT C.1.aLX.Pc C.1.aLX.aME C.1.aLX.aMJ C.1.aLX.aMI af.1 af.2.1 C.1.aW C.1.aLX.aLz C.1.aLX.aMC else some (ci,U,(⟨a0,a1,a2,a3,r0,(⟨r1,a6,r2,a8,a9,ae⟩:M.aLX)⟩:M.bO)))->
   (0<=n/\n<3)->okC b i1 h1->M.bO.ok p->p.aW.length=0->M.bO.sz p<=200->Dr b K8 (L aH n p.Id p.aLa p.Top p.aLT p.aLX.Pc p.aLX.aME p.aLX.aMJ p.aLX.aMI i1 h1 p.aW p.aLX.aLz p.aLX.aMC):=by
  intro L n i1 h1 p hL hn hc hp hl hz
  obtain⟨N,rfl⟩:=Dw hn.1
  refine Et (L:=λm v (s:M.bO×Int×Int)=>L m v s.1.Id s.1.aLa s.1.Top s.1.aLT s.1.aLX.Pc s.1.aLX.aME s.1.aLX.aMJ s.1.aLX.aMI s.2.1 s.2.2 s.1.aW s.1.aLX.aLz s.1.aLX.aMC) (I:=λk s=>okC b s.2.1 s.2.2/\M.bO.ok s.1/\s.1.aW.length+k<=3/\M.bO.sz s.1+20*k<=300) (Q:=Dr b K8) (λm k s hi ih=> ?_) (λm s hi=> ?_) aH N (p,i1,h1) (nN wi) ⟨hc,hp,by show p.aW.length+N<=3;omega,by show M.bO.sz p+20*N<=300;omega⟩
  ·obtain⟨p,ci,U⟩:=s
   obtain⟨k1,J,k3,k4⟩:=hi
   simp only at k1 J k3 k4
   simp only[hL]
   rw[jE (by first|(simp;done)|(simp;omega))]
   refine .bnd (Tp k1) λi3 v3 r3 c3 q3=> ?_
   have hv:inI (⟨0,200,p.aLT,([]:List Int),false⟩:M.aLb).aLT:=J.aLT
   show Dr b K8 ((kZ p r3 _).bind _)
   rw[GY J wi wi (Ia q3) hv,qA,show i64.wrap (((k+1:Nat):Int)-1)=(k:Int)from by rw[mO wi wi];omega]
   have z:=Rk p r3 (⟨0,200,p.aLT,([]:List Int),false⟩:M.aLb)
   refine ih ((EY p r3 (⟨0,200,p.aLT,([]:List Int),false⟩:M.aLb)).1,i3,v3) ⟨c3,RP J wi (Ia q3) hv,?_,wI⟩
   have:(EY p r3 (⟨0,200,p.aLT,([]:List Int),false⟩:M.aLb)).1.aW.length<=p.aW.length+1:=by unfold EY;split;(show p.aW.length<=_;omega);·split;(show p.aW.length<=_;omega);·split;(split;(simp[Gt]);·show p.aW.length<=_;omega);·show p.aW.length<=_;omega
   dsimp only
   omega
  ·obtain⟨p,ci,U⟩:=s;obtain⟨k1,J,k3,k4⟩:=hi;simp only at k1 J k3 k4;simp only[hL];rw[jF we];exact .ret k1 ⟨J,by show p.aW.length<=3;omega,by show M.bO.sz p<=_;omega⟩
 have page:∀{j v:Int} {s t:ByteArray} {l:List M.aZ},(0<=j/\j<=1000)->(0<=v/\v<=1000)->s.size<=8->t.size<=8->E5 l->∃r,nI (i64.wrap (1+j)) s t (i64.wrap (1+v)) l=some r/\(M.bO.ok r.1/\r.1.aW.length=0/\M.bO.sz r.1<=200):=by intro j v s t l hj hv hs ht hl;have h1:=S6 hl;refine⟨_,Iv (bV _) (Ia hs) (Ia ht) (bV _) (Ph hl) wi,Tg (bV _) (Ia hs) (Ia ht) (bV _) (Ph hl),?_⟩;have h2:=Si (i64.wrap (1+j)) s t (i64.wrap (1+v)) l;exact⟨h2.2,wi⟩
 unfold DU
 refine .bnd (Lk hc) λi1 v1 r1 c1 q1=>.J9 (aEC c1 q1) λy hy=>.bnd (bA hy.2) λi4 v4 r4 c4 q4=>.bnd (bA c4) λi5 v5 r5 c5 q5=>.bnd (Kx c5) λi6 v6 r6 c6 q6=> ?_
 have z4:=q4.2.1 wi
 have z5:=q5.2.1 wi
 refine .J9 (page ⟨q4.1,wI⟩ ⟨q5.1,wI⟩ q1 hy.1 q6) λr hr=>.bnd (bA c6) λi7 v7 r7 c7 q7=> ?_
 have z7:=q7.2.1 wi
 exact fin (L:=tN (⟨b,i,h⟩:M.bI)) (λ_ _ _ _ _ _ _ _ _ _ _ _ _ _ _=>by simp only[tN]) ⟨q7.1,z7⟩ c7 hr.1 hr.2.1 hr.2.2
def stN(n:Nat)(s:M.aC):Prop:=s.Buckets.length<=n/\∀b∈s.Buckets,bkI b
theorem stN.ok{n:Nat}{s:M.aC}(h:stN n s)(j:n<=1000):s.ok:=⟨⟨ml (by have:=h.1;omega),λb hb=>(h.2 b hb).ok⟩⟩
theorem stN.sz{n:Nat}{s:M.aC}(h:stN n s)(j:n<=5):M.aC.sz s<=900005:=by
 have h1:=eU (w:=M.Bucket.sz) (b:=180000) (xs:=s.Buckets) λb hb=>(h.2 b hb).sz
 have h2:=h.1
 simp only[M.aC.sz]
 omega
theorem stN.mono{n m:Nat}{s:M.aC}(h:stN n s)(j:n<=m):stN m s:=⟨by have:=h.1;omega,h.2⟩
theorem aD8{n:Nat}{s:M.aC}{b:M.Bucket}(h:stN n s)(J:n<=4)(hb:bkI b):∃x,iN s b=some x/\stN (n+1) x.1:=by have U:=h.sz wi;have C:=hb.sz;refine⟨_,NR (h.ok wi) hb.ok wi wi,?_⟩;have I:=Le s b;have h1:=h.1;unfold IU Lh;split;(split;(refine⟨wI,λx j=> ?_⟩;rcases Mc j with rfl|j;(exact hb);·exact h.2 x j);·exact h.mono (Nat.le_succ n));·exact h.mono (Nat.le_succ n)
theorem SL{b:List Int}{i h:Int}(c0:okC b i h):Dr b (stN 4) (yR (⟨b,i,h⟩:M.bI)):=by
 unfold yR
 refine .bnd (bA c0) λi1 v1 r1 c1 q1=> ?_
 obtain⟨N,rfl⟩:=Dw q1.1
 have hN:=q1.2.1 wi
 refine Et (L:=λn v (s:(M.aC)×Int×Int)=>mF (⟨b,i,h⟩:M.bI) n v s.2.1 s.2.2 s.1.Buckets) (I:=λk s=>k<=100000/\okC b s.2.1 s.2.2/\k<=3/\stN (3-k) s.1) (Q:=Dr b (stN 4)) (λn k s hi ih=> ?_) (λn s hi=> ?_) aH N ((⟨([]:List M.Bucket)⟩:M.aC),i1,v1) (nN wi) ⟨wi,c1,⟨wi,we,we⟩⟩
 ·obtain⟨x,ci,ch⟩:=s
  obtain⟨k0,J,j⟩:=hi
  dsimp only at J j
  simp only[mF]
  rw[jE (Xc k),NY k0]
  refine .bnd (Ov J) λi3 v3 r3 U q3=>.J9 (aD8 (s:=x) j.2 wi q3.all) λy C=> ?_
  have:=j.1
  exact ih (y.1,i3,v3) ⟨wi,U,wi,C.mono wi⟩
 ·obtain⟨x,ci,ch⟩:=s
  obtain⟨k0,J,j⟩:=hi
  dsimp only at J j
  simp only[mF]
  rw[jF SY]
  refine .bnd (CG J) λi3 v3 r3 U q3=> ?_
  have hl:=j.2.1
  dsimp only
  split
  ·refine .bnd (aAh U) λi4 v4 r4 c4 q4=> ?_
   dsimp only
   rw[DY wA wi,qA]
   refine .ret c4 ⟨jv,λy C=> ?_⟩
   rcases qP.1 C with C|C
   ·exact j.2.2 y C
   ·rw[qQ.1 C];exact q4
  ·exact .ret U (j.2.mono wi)
theorem W4{b:List Int}{i h:Int}(J:okC b i h):Dr b wsm (CQ (⟨b,i,h⟩:M.bI)):=by
 unfold CQ
 refine .bnd (bA J) λi1 v1 r1 U q1=>.bnd (bA U) λi2 v2 r2 c2 q2=>.bnd (Ci c2) λi3 v3 r3 c3 q3=>.bnd (Dj c3) λi4 v4 r4 c4 q4=>.bnd (bA c4) λi5 v5 r5 c5 q5=>.bnd (bA c5) λi6 v6 r6 j q6=> ?_
 have C:r4.size<=16:=qh q4 wi
 have I:inI r5:=bgI (aAC q5)
 have hk:=q3.any
 dsimp only
 split
 ·exact .bnd (xX (λx=> -1000000000000000<=x/\x<=1000000000000000) wh wh j) λi7 v7 r7 c7 q7=>.ret c7 (Kg (bgI q7) (bV _) hk C I)
 split
 ·exact .bnd (xX (λx=> -1000000000000000<=x/\x<=1000000000000000) wh wh j) λi7 v7 r7 c7 q7=>.ret c7 (Kg (bV _) (bgI q7) hk C I)
 split
 ·exact .bnd (T9 j) λi7 v7 r7 c7 q7=>.ret c7 (Kg (bV _) (bV _) q7 C I)
 split
 ·exact .ret j (Kg (bV _) (bV _) hk wh I)
 split
 ·exact .bnd (xX (λx=> -1000000000000000<=x/\x<=1000000000000000) wh wh j) λi7 v7 r7 c7 q7=>.ret c7 (Kg (bV _) (bV _) hk C (bgI q7))
 ·exact .ret j (Kg (bV _) (bV _) hk C I)
def Xr(s:M.aLj):Prop:=M.aLj.ok s/\M.aLj.sz s<=30000
theorem aDH{s:M.aE}{a:List M.aQ}{c:List M.bR}(I:QM s)(C:a.length<=100/\∀x∈a,M.aQ.ok x)(hc:c.length<=100/\∀x∈c,wsm x):Xr (⟨s,a,c⟩:M.aLj):=by
 have h1:=I.2
 have h2:=C.1
 have h3:=hc.1
 have h4:=eU (w:=M.bR.sz) (b:=32) (xs:=c) λw j=>(hc.2 w j).2
 refine⟨⟨I.1,⟨ml wI,C.2⟩,⟨ml wI,λw j=>(hc.2 w j).1⟩⟩,?_⟩
 simp only[M.aLj.sz]
 omega
theorem aAx{b:List Int}{i h:Int}(c0:okC b i h):Dr b Xr (Dv (⟨b,i,h⟩:M.bI)):=by
 unfold Dv
 refine .bnd (PD c0) λi1 v1 J c1 q1=>.bnd (bA c1) λi2 v2 r2 c2 q2=> ?_
 dsimp only
 have hs:QM J.aE:=⟨q1.1,by have:=uZ q1.2.1;omega⟩
 have ha:J.aQ.length<=60:=q1.2.2.1.1
 have hc:J.aLv.length<=5:=q1.2.2.2.1
 have ha2:=q1.2.2.1.2
 have hc2:=q1.2.2.2.2
 have U:J.aQ.length<=100/\∀x∈J.aQ,M.aQ.ok x:=⟨wi,ha2⟩
 have I:J.aLv.length<=100/\∀x∈J.aLv,wsm x:=⟨wi,hc2⟩
 split
 ·exact .bnd (YC c2) λi3 v3 r3 c3 q3=>.ret c3 (aDH q3 U I)
 split
 ·refine .bnd (xX (λx=> -1000000000000000<=x/\x<=1000000000000000) wh wh c2) λi3 v3 r3 c3 q3=>.bnd (xX (λx=> -1000000000000000<=x/\x<=1000000000000000) wh wh c3) λi4 v4 r4 c4 q4=> ?_
  dsimp only
  rw[DY wA wi,qA]
  refine .ret c4 (aDH hs ⟨jv,λx j=> ?_⟩ I)
  rcases qP.1 j with j|j
  ·exact ha2 x j
  ·rw[qQ.1 j];exact⟨bgI q3,bgI q4⟩
 split
 ·refine .bnd (W4 c2) λi3 v3 r3 c3 q3=> ?_
  dsimp only
  rw[DY wA wi,qA]
  refine .ret c3 (aDH hs U ⟨jv,λx j=> ?_⟩)
  rcases qP.1 j with j|j
  ·exact hc2 x j
  ·rw[qQ.1 j];exact q3
 split
 ·have key:∀(n k:Nat) (l:List M.aQ),64-k<n->k<=64->l.length<=k->(∀x∈l,M.aQ.ok x)->Dr b Xr (AH (i1,v1,J) (i2,v2,r2) n (k:Int) l):=by
   intro n
   induction n with
   |zero=>intro k l h _ _ _;omega
   |succ n ih=>
    intro k l hn hk hl j
    simp only[AH]
    rcases jR k 64 with h6|h6
    ·rw[jE wX,DY wA wi,qA,bL wi]
     refine ih (k+1) (l++[_]) wi wi jv λx C=> ?_
     rcases qP.1 C with C|C
     ·exact j x C
     ·rw[qQ.1 C];exact⟨bgI wD,zV⟩
    ·rw[jF wX];exact .ret c2 (aDH hs ⟨wi,j⟩ I)
  exact key aH 4 [] (nN wi) wi we we
 ·exact .ret c2 (aDH hs U I)
def aAe(p:M.bO):Prop:=M.bO.ok p/\M.bO.sz p<=2000
theorem aAt{b:List Int}{i h:Int}(c0:okC b i h):Dr b aAe (Dh (⟨b,i,h⟩:M.bI)):=by
 unfold Dh
 refine .bnd (Yi c0) λi1 v1 r1 c1 q1=>.bnd (bA c1) λi2 v2 r2 U q2=> ?_
 dsimp only
 obtain⟨j,hl,hz⟩:=q1
 have hz':=hz
 simp only[M.bO.sz]at hz'
 split
 ·exact .bnd (xX (λx=> -1000000000000000<=x/\x<=1000000000000000) wh wh U) λi3 v3 r3 c3 J=>.ret c3 ⟨⟨bgI J,j.aLa,j.Top,j.aLT,j.aW,j.aLX⟩,by show M.bO.sz r1<=2000;omega⟩
 split
 ·refine .bnd (Fo (λs=>s.size<=16) wh wh U) λi3 v3 r3 c3 J=>.bnd (bA c3) λi4 v4 r4 c4 q4=> ?_
  dsimp only
  rw[DY wA wi,qA]
  have q3':r3.size<=16:=J
  refine .ret c4 ⟨⟨j.Id,j.aLa,j.Top,j.aLT,⟨ml jv,λx I=> ?_⟩,j.aLX⟩,?_⟩
  ·rcases qP.1 I with I|I;(exact j.aW.2 x I);·rw[qQ.1 I];exact⟨s16 J,bV _⟩
  ·simp only[M.bO.sz,yY,dV,M.aW.sz,qE,qJ,qK];omega
 split
 ·exact .bnd (xX (λx=> -1000000000000000<=x/\x<=1000000000000000) wh wh U) λi3 v3 r3 c3 J=>.ret c3 ⟨⟨j.Id,j.aLa,j.Top,bgI J,j.aW,j.aLX⟩,by show M.bO.sz r1<=2000;omega⟩
 split
 ·have e5:(⟨#[105,110,100,101,120]⟩:ByteArray).size=5:=rfl
  have key:∀(n:Nat) (l:List M.aW),8-l.length<n->l.length<=8->(∀x∈l,M.aW.ok x)->dV M.aW.sz l+6*(8-l.length)<=dV M.aW.sz r1.aW+48->Dr b aAe (Ak (i1,v1,r1) (i2,v2,r2) n l):=by
   intro n
   induction n with
   |zero=>intro l h _ _ _;omega
   |succ n ih=>
    intro l hn hk I hs
    simp only[Ak]
    rcases jR l.length 8 with h6|h6
    ·rw[jE wX,DY wA wi,qA];refine ih (l++[_]) jv jv (λx C=> ?_) ?_;(rcases qP.1 C with C|C;(exact I x C);·rw[qQ.1 C];exact⟨s16 (show(⟨#[105,110,100,101,120]⟩:ByteArray).size<=16 by decide),j.aLT⟩);·simp only[yY,dV,M.aW.sz,e5,qE,qJ,qK];omega
    ·rw[jF wX];refine .ret U ⟨⟨j.Id,j.aLa,j.Top,j.aLT,⟨ml (by show l.length<=_;omega),I⟩,j.aLX⟩,?_⟩;simp only[M.bO.sz];omega
  exact key aH r1.aW (nN wi) wi j.aW.2 wi
 ·exact .ret U ⟨j,wi⟩
def wdI(n:Nat)(w:M.aD):Prop:=inI w.Now/\inI w.aLZ/\stN 4 w.aC/\(w.aLf.length<=n/\∀p∈w.aLf,aAe p)/\inI w.aLd/\(w.aLk.aLk=[])/\(w.aLe.aL8=[])/\(w.aLp.length<=3/\(∀s∈w.aLp,M.aLa.ok s/\M.aLa.sz s<=100))/\(w.aLh.length<=3/\∀s∈w.aLh,Xr s)
theorem wdI.ok{n:Nat}{w:M.aD}(h:wdI n w)(C:n<=20):M.aD.ok w:=by obtain⟨h1,h2,h3,h4,h5,h6,h7,h8,h9⟩:=h;exact⟨h1,h2,h3.ok wi,⟨ml wi,λp j=>(h4.2 p j).1⟩,h5,⟨by rw[h6];simp[maxLen],by rw[h6];simp⟩,⟨by rw[h7];simp[maxLen],by rw[h7];simp⟩,⟨ml wi,λp j=>(h8.2 p j).1⟩,⟨ml wi,λp j=>(h9.2 p j).1⟩⟩
theorem wdI.sz{n:Nat}{w:M.aD}(h:wdI n w)(hn:n<=20):M.aD.sz w<=900000:=by
 obtain⟨h1,h2,h3,h4,h5,h6,h7,h8,h9⟩:=h
 have j:=eU (w:=M.Bucket.sz) (b:=180000) (xs:=w.aC.Buckets) λb hb=>(h3.2 b hb).sz
 have C:=eU (w:=M.bO.sz) (b:=2000) (xs:=w.aLf) λb hb=>(h4.2 b hb).2
 have I:=eU (w:=M.aLa.sz) (b:=100) (xs:=w.aLp) λb hb=>(h8.2 b hb).2
 have J:=eU (w:=M.aLj.sz) (b:=30000) (xs:=w.aLh) λb hb=>(h9.2 b hb).2
 have U:=h3.1
 have b2:=h4.1
 have b3:=h8.1
 have b4:=h9.1
 simp only[M.aD.sz,M.aC.sz,M.aT.sz,M.aLe.sz,h6,h7,dV,qK]
 omega
theorem aDp{d:Int}:wdI 0 (Xj d):=by unfold Xj;split;(rename_i h;refine⟨zV,bgI wD,⟨we,we⟩,⟨we,we⟩,Wt,rfl,rfl,⟨by simp[vD],λs j=> ?_⟩,⟨by simp[vD],λs j=> ?_⟩⟩;(simp only[vD,jI,jJ,qq,qO,or_false]at j;rcases j with rfl|rfl|rfl<;>exact⟨⟨s16 wh,Wt,⟨ml we,λy C=>by simp only[qq,qO,or_false]at C;rcases C with rfl|rfl|rfl|rfl<;>exact s16 wh⟩⟩,wh⟩);·simp only[vD,jI,jJ,qq,qO,or_false]at j;rcases j with rfl|rfl|rfl<;>exact aDH Q2.any ⟨we,we⟩ ⟨we,we⟩);·exact⟨zV,zV,⟨we,we⟩,⟨we,we⟩,zV,rfl,rfl,⟨we,we⟩,⟨we,we⟩⟩
theorem QS(x:M.aC):Ob x x=true:=sJ Nl _
theorem WZ(x:M.bO):TU x x=true:=by simp[TU,N7,sJ (f:=I4) (λy=>by simp[I4]),sJ (f:=Mh) (λy=>by simp[Mh]),sJ (f:=Sf) (λy=>by simp[Sf])]
theorem SH(x:M.aLj):K0 x x=true:=by simp[K0,KX,sJ (f:=HH) (λy=>by simp[HH]),sJ (f:=Gj) (λy=>by simp[Gj])]
theorem W6(x:M.aLa):UI x x=true:=by simp[UI,sJ (f:=JD) (λy=>by simp[JD])]
theorem KM(x:M.aD):VU x x=true:=by simp[VU,QS,sJ (f:=TU) WZ,sJ (f:=PB) (λy=>by simp[PB]),sJ (f:=OS) (λy=>by simp[OS]),sJ (f:=UI) W6,sJ (f:=K0) SH]
theorem NV(x:List M.bO)(j:x.length+dV M.bO.sz x<=1073741824):Cc x=some x:=by
 unfold Cc
 exact DA (xs:=x) (b:=144) (L:=oA x) (E:=some) wi wi (λn r k hk=>by
  have C:=eA (f:=M.bO.sz) (qG hk)
  simp only[oA]
  rw[jE (bE hk),aM hk,qA,ED _ wi,qA,bL wi]) (λn r=>by
  simp only[oA]
  rw[jF wG])
theorem Bh(w:M.aD)(C:M.aD.sz w<=1073741824):dJ w=some w:=by
 simp only[M.aD.sz]at C
 have e3:lV w w.aC w.aLf w.aLk w.aLe w.aLp aH 0 ([]:List M.aLj)=some w:=DA (xs:=w.aLh) (b:=96) (L:=lV w w.aC w.aLf w.aLk w.aLe w.aLp) (E:=λr=>some { w with aLh:=r }) wi wi (λn r k hk=>by
   have j:=eA (f:=M.aLj.sz) (qG hk)
   simp only[lV]
   rw[jE (bE hk),aM hk,qA,PK _ wi,qA,bL wi]) (λn r=>by
   simp only[lV]
   rw[jF wG])
 have e2:lZ w w.aC w.aLf w.aLk w.aLe aH 0 ([]:List M.aLa)=some w:=(DA (xs:=w.aLp) (b:=56) (L:=lZ w w.aC w.aLf w.aLk w.aLe) (E:=λr=>lV w w.aC w.aLf w.aLk w.aLe r aH 0 ([]:List M.aLj)) wi wi (λn r k hk=>by
   have j:=eA (f:=M.aLa.sz) (qG hk)
   simp only[lZ]
   rw[jE (bE hk),aM hk,qA,PO _ wi,qA,bL wi]) (λn r=>by
   simp only[lZ]
   rw[jF wG])).trans e3
 have e1:oV w w.aC aH 0 ([]:List M.bO)=some w:=(DA (xs:=w.aLf) (b:=144) (L:=oV w w.aC) (E:=λr=>(Bj w.aLk).bind λx=>(CB w.aLe).bind λy=>lZ w w.aC r x y aH 0 ([]:List M.aLa)) wi wi (λn r k hk=>by
   have j:=eA (f:=M.bO.sz) (qG hk)
   simp only[oV]
   rw[jE (bE hk),aM hk,qA,Hr _ wi,qA,bL wi]) (λn r=>by
   simp only[oV]
   rw[jF wG])).trans (by rw[Km _ wi,qA,PY _ wi,qA];exact e2)
 unfold dJ
 rw[Ht _ wi,qA]
 exact e1
theorem Ay(w:M.aD)(j:M.aD.sz w<=1073741824):rY w=some w:=by
 simp only[M.aD.sz]at j
 have e3:iH w w.aC w.aLf w.aLk w.aLe w.aLp aH 0 ([]:List M.aLj)=some w:=DA (xs:=w.aLh) (b:=96) (L:=iH w w.aC w.aLf w.aLk w.aLe w.aLp) (E:=λr=>some { w with aLh:=r }) wi wi (λn r k hk=>by
   have C:=eA (f:=M.aLj.sz) (qG hk)
   simp only[iH]
   rw[jE (bE hk),aM hk,qA,M7 _ wi,qA,bL wi]) (λn r=>by
   simp only[iH]
   rw[jF wG])
 have e2:lG w w.aC w.aLf w.aLk w.aLe aH 0 ([]:List M.aLa)=some w:=(DA (xs:=w.aLp) (b:=56) (L:=lG w w.aC w.aLf w.aLk w.aLe) (E:=λr=>iH w w.aC w.aLf w.aLk w.aLe r aH 0 ([]:List M.aLj)) wi wi (λn r k hk=>by
   have C:=eA (f:=M.aLa.sz) (qG hk)
   simp only[lG]
   rw[jE (bE hk),aM hk,qA,Pd _ wi,qA,bL wi]) (λn r=>by
   simp only[lG]
   rw[jF wG])).trans e3
 unfold rY
 rw[EO _ wi,qA,NV _ wi,qA,NZ _ wi,qA,LQ _ wi,qA]
 exact e2
theorem Qf{a:ByteArray}(h:¬GL a<0):∃k:Nat,GL a=(k:Int)/\k<3:=by obtain⟨k,e,hk⟩:=dM (show ¬kP (λx:ByteArray=>x.toList==a.toList) vD<0 from h);exact⟨k,e,hk⟩
theorem Nh{w:M.aD}(h:CJ w=true):w.aLp.length=3:=by unfold CJ at h;rw[qM]at h;simpa using h.1
theorem S5{s:M.aLa}(h:OP s=true):1<=s.aLT/\s.aLT<=1000000000000:=by simp only[OP,qM,inR,qL]at h;exact h.2.2.1
theorem Nn{α:Type}{f:α->Nat}(g:α->Bool):∀j:List α,dV f (j.filter g)<=dV f j
 |[]=>qg _
 |x::j=>by have:=Nn g j (f:=f);by_cases h:g x=true;(rw[List.filter_cons_of_pos h];simp only[dV];omega);·rw[List.filter_cons_of_neg h];simp only[dV];omega
theorem Q6{s:M.aJ}{v:Int}{a b:ByteArray}(I:s.ok)(U:s.sz<=1500000):∃r,BB s v a b=some r/\BR s v a b=some r/\M.aLb.ok r.1:=by
 unfold BB BR dB dC
 rw[IB I,NS I]
 simp only[qA]
 have hnil:M.aLb.ok (⟨4,0,0,([]:List Int),false⟩:M.aLb):=⟨wK,wK,wK,⟨wQ,we⟩⟩
 by_cases h:kP (λc:M.aLi=>c.aLT==v) s.aLW<0
 ·simp only[h,jb,jH];exact⟨_,rfl,rfl,hnil⟩
 ·obtain⟨k,e,hk⟩:=dM h
  simp only[h,jc,qD,jG]
  rw[e,aM hk]
  have hc:=I.aLW.2 _ (qG hk)
  simp only[qA]
  rw[Kv hc,P9 hc]
  simp only[qA]
  by_cases h2:kP (Ju a b) s.aLW[k].aLg<0
  ·simp only[h2,jb,jH];exact⟨_,rfl,rfl,hnil⟩
  ·obtain⟨j,e2,C⟩:=dM h2
   simp only[h2,jc,qD,jG]
   rw[e2,aM C]
   have J:=hc.aLg.2 _ (qG C)
   have z1:=eA (f:=M.aLi.sz) (qG hk)
   have z2:=eA (f:=M.aLr.sz) (qG C)
   unfold M.aJ.sz at U
   have q1:M.aLi.sz s.aLW[k]=s.aLW[k].aLg.length+dV M.aLr.sz s.aLW[k].aLg:=rfl
   have q2:M.aLr.sz s.aLW[k].aLg[j]=s.aLW[k].aLg[j].aLa.size+(s.aLW[k].aLg[j].aMF.size+s.aLW[k].aLg[j].aLb.aMN.length):=rfl
   have hb:(s.aLW[k].aLg[j].aLb.aMN).length<=1500000:=by omega
   simp only[qA,yD,nX,eD]
   rw[dN wX]
   exact⟨_,rfl,rfl,J.aLb⟩
def PE(s:M.aLa)(v:Int):Bool:=OP s&&(decide (v>s.aLT-2)&&(decide (v<=s.aLT)&&decide (v>=1)))
theorem Rb{s:M.aLa}{v:Int}(j:s.ok):xT s v=some (PE s v):=by
 unfold xT PE
 rw[H3 j,qA]
 cases hn:OP s with
 |false=>simp
 |true=>
  have C:=S5 hn
  rw[jE rfl,bQ (n:=s.aLT-2) wi wi,bQ wi wi]
  unfold AA bG
  by_cases h:s.aLT-2+1>1
  ·rw[jE wN,qA]
   by_cases h1:v>=s.aLT-2+1
   ·rw[jE (by simpa using h1),qA]
    have e1:decide (v>s.aLT-2)=true:=by simp;omega
    have e2:decide (v>=1)=true:=by simp;omega
    rw[e1,e2];simp
   ·rw[jF (by simpa using h1),qA]
    have e1:decide (v>s.aLT-2)=false:=by simp;omega
    rw[e1];simp
  ·rw[jF wN,qA]
   by_cases h1:v>=1
   ·rw[jE (by simpa using h1),qA]
    have e1:decide (v>s.aLT-2)=true:=by simp;omega
    have e2:decide (v>=1)=true:=by simpa using h1
    rw[e1,e2];simp
   ·rw[jF (by simpa using h1),qA]
    have e2:decide (v>=1)=false:=by simpa using h1
    rw[e2];simp
theorem Q9{s:M.aLa}{v:Int}(j:s.ok):xV s v=some (PE s v):=by
 unfold xV PE
 rw[HY j,qA]
 cases hn:OP s with
 |false=>simp
 |true=>
  have C:=S5 hn
  rw[jE rfl,bQ (n:=s.aLT-2) wi wi]
  cases decide (v>s.aLT-2)<;>cases decide (v<=s.aLT)<;>simp
def aD3(s:M.aLa)(f:ByteArray):Bool:=s.aL4.any λx=>x.toList==f.toList
theorem P6{s:M.aLa}{f:ByteArray}(j:s.ok):DE s f=some (aD3 s f):=by have C:=aY j.aL4.1;unfold DE aD3;rw[pI (L:=sW s f) (f:=λx:ByteArray=>x.toList==f.toList) (A:=λ_=>some true) (E:=some false) j.aL4.1 (λm k hk=> ?_) (λm=> ?_),VC];(cases s.aL4.any (λx=>x.toList==f.toList)<;>rfl);(simp only[sW];rw[jE (bE hk),aM hk,qA,bL wi]);·simp only[sW];rw[jF wG]
theorem P1{s:M.aLa}{f:ByteArray}(j:s.ok):DI s f=some (aD3 s f):=by have C:=aY j.aL4.1;unfold DI vE oY aD3;rw[pI (L:=cU s.aL4 f) (f:=λx:ByteArray=>x.toList==f.toList) (A:=λi=>some (i:Int)) (E:=some (-1)) j.aL4.1 (λm k hk=> ?_) (λm=> ?_),uQ,qA,qA,LH];(simp only[cU];rw[jE (bE hk),aM hk,qA,bL wi,Bool.beq_comm]);·simp only[cU];rw[jF wG]
theorem VI:M.aLb.ok (⟨4,0,0,([]:List Int),false⟩:M.aLb):=⟨wK,wK,wK,⟨wQ,we⟩⟩
theorem UN{s:M.aLa}{f:ByteArray}{v:Int}(j:s.ok)(U:inI v)(zs:M.aLa.sz s<=1500000)(zf:f.size<=1500000):∃r,Cp s f v=some r/\Cj s f v=some r/\M.aLb.ok r:=by
 have J:s.Name.size<=1500000:=by simp only[M.aLa.sz]at zs;omega
 obtain⟨l,e1,e2,I⟩:=aAE (t:=s) (f:=f) (v:=v) J zf
 unfold Cp Cj dB dC
 rw[H3 j,HY j,Rb j,Q9 j,P6 j,P1 j,e1,e2]
 have C:M.aLb.ok (⟨1,404,s.aLT,([]:List Int),false⟩:M.aLb):=⟨wK,wK,j.aLT,⟨wQ,we⟩⟩
 simp only[qA]
 cases OP s
 ·exact⟨_,rfl,rfl,VI⟩
 ·cases PE s v;(exact⟨_,rfl,rfl,C⟩);·cases aD3 s f;(exact⟨_,rfl,rfl,C⟩);·exact⟨_,rfl,rfl,⟨wK,wK,U,I⟩⟩
theorem LF{c:M.aJ}{s:M.aLa}{f:ByteArray}{v:Int}{o:Bool}(hc:c.ok)(j:s.ok)(C:inI v)(U:c.sz<=1500000)(zs:M.aLa.sz s<=1500000)(zf:f.size<=1500000):∃r,mL c s v f o=some r/\AZ c s v f o=some r/\M.aLb.ok r:=by obtain⟨x,e1,e2,I⟩:=Q6 (s:=c) (v:=v) (a:=s.Name) (b:=f) hc U;obtain⟨y,e3,e4,J⟩:=UN (f:=f) j C zs zf;unfold mL AZ dB dC;rw[e1,e2,e3,e4];simp only[qA];cases x.2;(cases o;(exact⟨_,rfl,rfl,VI⟩);·exact⟨_,rfl,rfl,J⟩);·exact⟨_,rfl,rfl,I⟩
theorem aBC{w:M.aD}{p:M.bO}{f:ByteArray}(I:w.ok)(hp:p.ok)(hn:CJ w=true)(hz:M.aD.sz w<=1500000)(zf:f.size<=1500000):∃r,gJ w p f=some r/\Db w p f=some r/\M.aLb.ok r:=by
 have U:=hz
 simp only[M.aD.sz,M.aC.sz]at U
 unfold gJ Db mX Gk dB dC
 rw[oH I.aC,yT I.aC,Dp,HC]
 simp only[qA]
 by_cases h:kP (nAt p.aLa p.Top) w.aC.Buckets<0
 ·simp only[h,jb,jH,qA,qC];exact⟨_,rfl,rfl,VI⟩
 ·obtain⟨j,ej,J⟩:=dM h
  simp only[h,jc,qD,jG]
  rw[ej,aM J]
  simp only[qA,qB,qD,jG]
  by_cases h2:GL p.aLa<0
  ·simp only[h2,jb,jH];exact⟨_,rfl,rfl,VI⟩
  ·obtain⟨k,ek,hk⟩:=Qf h2
   have C:k<w.aLp.length:=by rw[Nh hn];exact hk
   have h3:¬((k:Int)>=(w.aLp.length:Int)):=by omega
   simp only[h2,jc,qD,jG]
   rw[ek,aM C]
   simp only[h3,jc,qD,jG,qA]
   have hb:=I.aC.Buckets.2 _ (qG J)
   have z1:=eA (f:=M.Bucket.sz) (qG J)
   have z2:=eA (f:=M.aLa.sz) (qG C)
   have z3:M.aJ.sz w.aC.Buckets[j].aLW<=M.Bucket.sz w.aC.Buckets[j]:=by simp only[M.Bucket.sz];omega
   obtain⟨r,e1,e2,e3⟩:=LF (o:=w.aLt) (f:=f) hb.aLW (I.aLp.2 _ (qG C)) hp.aLT wi wi zf
   rw[e1,e2]
   exact⟨r,rfl,rfl,e3⟩
theorem PS{c:M.aJ}{s:M.aLa}{f:ByteArray}{v:Int}{o:Bool}(hc:c.ok)(j:s.ok)(C:inI v)(I:c.sz<=1500000)(zs:M.aLa.sz s<=1500000)(J:f.size<=1500000):∃r,mL c s v f o=some r/\M.aLb.ok r:=by obtain⟨r,e,_,h⟩:=LF (f:=f) (o:=o) hc j C I zs J;exact⟨r,e,h⟩
def aEl(x y:M.uY):Bool:=(y.Name.toList==x.Name.toList)&&(!y.aMS||(!y.aL9|| !x.aL9))
def aEI(l:List M.uY)(x:M.uY):Bool:= !(l.any (aEl x))
theorem aD2{α:Type}(n a b c:Bool)(p q:α):(if n=true then if(!a)=true then p else if(!b)=true then p else if(!c)=true then p else q else q)=if(n&&(!a||(!b|| !c)))=true then p else q:=by cases n<;>cases a<;>cases b<;>cases c<;>rfl
theorem W9{l:List M.uY}{n:Nat}{x:M.uY}(I:l.length<=maxLen)(U:n<=l.length):Eo l (n:Int) x=some (aEI (l.take n) x):=by
 have J:=aY I
 have C:(l.take n).length=n:=by simp;omega
 unfold Eo aEI
 rw[pI (xs:=l.take n) (L:=rR l (n:Int) x) (f:=aEl x) (A:=λ_=>some false) (E:=some true) (by rw[C];omega) (λm k hk=> ?_) (λm=> ?_),VC]
 ·cases (l.take n).any (aEl x)<;>rfl
 ·have j:k<n:=by omega
  simp only[rR]
  rw[jE (by simpa using j),aM (show k<l.length by omega),qA,bL wi,aD2,List.getElem_take]
  rfl
 ·rw[C];simp only[rR];rw[jF we]
def nGr(l:List M.uY)(k:Nat):List M.uY:=match l[k]? with
 |some x=>if x.aMS=true then l else if aEI (l.take k) x=true then l.set k (⟨x.Name,x.bO,x.aL9,true⟩:M.uY)else l
 |none=>l
theorem aDP{l:List M.uY}{k:Nat}(h:k<l.length):nGr l k=if l[k].aMS=true then l else if aEI (l.take k) l[k]=true then l.set k (⟨l[k].Name,l[k].bO,l[k].aL9,true⟩:M.uY)else l:=by unfold nGr;rw[qF h]
theorem aCZ(l:List M.uY)(k:Nat):(nGr l k).length=l.length:=by unfold nGr;split;(split;(rfl);·split<;>simp);·rfl
def SE(l:List M.uY):List M.uY:=(List.range l.length).foldl nGr l
theorem XZ{N:Nat}{L:Nat->Int->List M.uY->Option M.aT}(U:N<=maxLen)(h1:∀n (r:List M.uY) (k:Nat),k<N->r.length=N->L (n+1) (k:Int) r=L n ((k+1:Nat):Int) (nGr r k))(h2:∀n (r:List M.uY),r.length=N->L (n+1) (N:Int) r=some (⟨r⟩:M.aT))(l:List M.uY)(J:l.length=N):
  L aH 0 l=some (⟨SE l⟩:M.aT):=by
 have C:(List.range N).length=N:=List.length_range
 have:=Qg (xs:=List.range N) (L:=λn k r=>L n k r) (step:=nGr) (I:=λk r=>r.length=N) (E:=λr=>some (⟨r⟩:M.aT)) (by rw[C];exact U) (λs k hk j=>(aCZ s _).trans j) (λn s k hk j=>by rw[List.getElem_range];exact h1 n s k (by rw[C]at hk;exact hk) j) (λn s j=>by rw[C];exact h2 n s j) l J
 unfold SE
 rw[J]
 exact this.1
theorem M9{t:M.aT}(J:t.aLk.length<=1500000)(I:M.aT.sz t<=1073741824):yU t=some (⟨SE t.aLk⟩:M.aT):=by
 unfold yU
 rw[Km t I,qA]
 refine XZ (N:=t.aLk.length) (L:=gA) wE (λn r k hk C=> ?_) (λn r C=> ?_) t.aLk rfl
 ·have j:k<r.length:=by omega
  simp only[gA]
  rw[jE (bE j),aM j,qA,bL wi,W9 wE wi,qA,qH,aDP j]
  cases r[k].aMS
  ·cases aEI (r.take k) r[k]<;>rfl
  ·rfl
 ·simp only[gA];rw[<-C,jF wG]
def YK(t:M.aT)(p:Int):M.aT:=(⟨SE (t.aLk.filter λx=>x.bO !=p)⟩:M.aT)
theorem aBw{t:M.aT}(p:Int):M.aT.sz (⟨t.aLk.filter λx=>x.bO !=p⟩:M.aT)<=M.aT.sz t:=by have h4:=List.length_filter_le (λx:M.uY=>x.bO !=p) t.aLk;have h5:=Nn (f:=M.uY.sz) (λx:M.uY=>x.bO !=p) t.aLk;simp only[M.aT.sz];omega
theorem KF{t:M.aT}{p:Int}(j:t.aLk.length<=1500000)(C:M.aT.sz t<=1073741824):zL t p=some (YK t p):=by have h4:=List.length_filter_le (λx:M.uY=>x.bO !=p) t.aLk;have h5:=aBw (t:=t) p;unfold zL YK;rw[PC (xs:=t.aLk) (L:=fT t p) (b:=32) (f:=λx:M.uY=>x.bO !=p) (E:=λr=>(yU (⟨r⟩:M.aT)).bind λx=>some x) wE wi (λn r k hk=> ?_) (λn r=> ?_)];(rw[M9 (by simpa using qh h4 j) wi,qA]);(simp only[fT];rw[jE (bE hk),aM hk,qA,bL wi]);·simp only[fT];rw[jF wG]
def Tb(x:M.aLe)(p:Int):M.aLe:=(⟨x.aL8.filter λm=>m.To !=p⟩:M.aLe)
theorem N1{x:M.aLe}{p:Int}(j:x.aL8.length<=1500000):Cm x p=some (Tb x p):=by unfold Cm Tb;refine PC (xs:=x.aL8) (L:=lA x p) (b:=24) (f:=λm:M.Fy=>m.To !=p) (E:=λr=>some (⟨r⟩:M.aLe)) wE wi (λn r k hk=> ?_) (λn r=> ?_);(simp only[lA];rw[jE (bE hk),aM hk,qA,bL wi]);·simp only[lA];rw[jF wG]
theorem Vf{α:Type}{f:α->Bool}{l:List α}{k:Nat}{x:α}(e:kP f l=(k:Int))(hx:f x=true):kP f (l.set k x)=(k:Int)/\(l.set k x)[k]? =some x:=by
 obtain⟨hk,U⟩:=CC e
 have h1:=HW hk U
 have C:k<(l.set k x).length:=by rw[qN];exact hk
 have hg:(l.set k x)[k]? =some x:=by rw[qF C,List.getElem_set_self]
 have h2:=HW (f:=f) (xs:=l.set k x) C (by rw[List.getElem_set_self];exact hx)
 rw[e,beq_self_eq_true]at h1
 refine⟨eq_of_beq (h2.trans ?_),hg⟩
 rw[qR]
 intro j J
 have h3:=(qR.1 h1.symm) j J
 have I:k≠j:=by have:=qS.1 J;omega
 rw[List.getElem?_set_ne I]
 exact h3
