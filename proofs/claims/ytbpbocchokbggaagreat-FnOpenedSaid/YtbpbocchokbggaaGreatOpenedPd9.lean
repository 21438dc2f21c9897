/-
  Helper text. No conditions.
-/
import Derived.Test.YtbpbocchokbggaaGreatOpenedPd8
set_option linter.all false
namespace Go.Proofs.YtbpbocchokbggaaGreat.gen
open Go Go.Sh
open Go.IntKind (i64)
theorem YO{w:M.World}{a b:ByteArray}{l:List M.Instr}(I:w.ok)(hz:M.World.sz w<=1048576)(U:a.size<=1048576)(hb:b.size<=1048576)(hl:BL l)(zl:l.length+dG M.Instr.sz l<=1048576):∃R:M.World×Int×Bool,nS w a b l=some R/\yE w a b l=some R/\(R=(w,0,false) \/∃B p,Y7 w a b B/\Qx w B a b l p R):=by
 have hz':=hz
 simp only[M.World.sz,M.aA.sz]at hz'
 have no:∃R:M.World×Int×Bool,some (w,0,false)=some R/\some (w,0,false)=some R/\(R=(w,0,false) \/∃B p,Y7 w a b B/\Qx w B a b l p R):=⟨(w,0,false),rfl,rfl,.inl rfl⟩
 unfold nS yE rX zK zO
 rw[Hc w jF,Fz w jF,CV I hz,He I hz,CM (a:=a),A4 (a:=a),CM (a:=b),A4 (a:=b)]
 simp only[qA]
 cases hn:zZ w with
 |false=>
  simp only[qC,if_true]
  exact no
 |true=>
  simp only[qB,qD,if_false]
  by_cases h1:En a<0
  ·simp only[h1,decide_true,if_true];exact no
  by_cases h2:En b<0
  ·simp only[h1,h2,decide_true,decide_false,if_true,qD,if_false];exact no
  simp only[h1,h2,decide_false,qD,if_false]
  obtain⟨k,ek,hk⟩:=SB h1
  have hk':k<w.aHZ.length:=by rw[O4 hn];exact hk
  rw[FD (OI _ U) (OI _ hb) (bJ _),xX I.aA,CP I.aA]
  simp only[qA,ek]
  by_cases h:mM (nAt a b) w.aA.aHE<0
  ·have h':¬mM (nAt a b) w.aA.aHE>=0:=by omega
   simp only[h,h',decide_true,decide_false,if_true,qD,if_false,qA]
   rw[KK (OI _ U) (OI _ hb) (bJ _)]
   simp only[qA]
   have hd:=bJ (i64.wrap (1000*w.aHI)+w.aHK)
   generalize i64.wrap (i64.wrap (1000*w.aHI)+w.aHK)=d at hd
   have C:=RF (OI _ U) (OI _ hb) hd
   suffices H:∃R:M.World×Int×Bool,oS w (Zx w a b d) k a b l=some R/\oI w (Zx w a b d) a b l=some R/\(R=(w,0,false) \/∃p,Qx w (Zx w a b d) a b l p R)by obtain⟨R,r1,r2,r3⟩:=H;exact⟨R,r1,r2,r3.imp id λ⟨p,hp⟩=>⟨_,p,.inr ⟨d,hd,rfl⟩,hp⟩⟩
   refine M5 (B:=Zx w a b d) I hn hz U hb hl zl ek hk' ⟨C.aHL,C.Top,C.aG9,C.aHC,C.bP,C.aE,I.Now⟩ ?_ ?_ ?_ ?_
   ·have:=XJ a b d;show M.aHD.sz (CN a b d).1<=_;unfold CN;split;(split;(show M.aHD.sz (DZ a b d)<=_;omega);·show M.aHD.sz sQ<=4194304;decide);·show M.aHD.sz sQ<=4194304;decide
   ·show M.aHB.sz (CN a b d).1.bP.aHa<=_;unfold CN;split;(split;(exact NB a b d);·show M.aHB.sz sQ.bP.aHa<=1048576;decide);·show M.aHB.sz sQ.bP.aHa<=1048576;decide
   ·show M.aF.sz (CN a b d).1.aHC<=_;unfold CN;split;(split;(show M.aF.sz (⟨([]:List M.aHM)⟩:M.aF)<=1048576;decide);·show M.aF.sz sQ.aHC<=1048576;decide);·show M.aF.sz sQ.aHC<=1048576;decide
   ·unfold Zx
    show nAt a b=nAt (CN a b d).1.aHL (CN a b d).1.Top\/_
    have z:∀n p,BP (⟨sQ.aHL,sQ.Top,sQ.aG9,sQ.aHC,sQ.bP,sQ.aE,n,p⟩:M.aHD)=false:=λ_ _=>rfl
    unfold CN
    split
    ·split;(exact .inl rfl);·exact .inr (z _ _)
    ·exact .inr (z _ _)
  ·obtain⟨j,ej,hj⟩:=iF h
   have h':mM (nAt a b) w.aA.aHE>=0:=by omega
   simp only[h,h',decide_true,decide_false,if_true,qD,if_false]
   rw[ej,aK hj]
   simp only[qA,if_true]
   have J:=I.aA.aHE.2 _ (qG hj)
   have z1:=eU (f:=M.aHD.sz) (qG hj)
   obtain⟨_,hf⟩:=B1 ej
   generalize hqe:w.aA.aHE[j]=q at J z1 hf
   have zq:M.aHD.sz q<=1048576:=by omega
   have z3:M.aF.sz q.aHC<=M.aHD.sz q:=by simp only[M.aHD.sz];omega
   rw[C1 q jF]
   simp only[qA]
   suffices H:∃R:M.World×Int×Bool,oS w (Zz w q) k a b l=some R/\oI w (Zz w q) a b l=some R/\(R=(w,0,false) \/∃p,Qx w (Zz w q) a b l p R)by obtain⟨R,r1,r2,r3⟩:=H;exact⟨R,r1,r2,r3.imp id λ⟨p,hp⟩=>⟨_,p,.inl ⟨j,hj,ej,by rw[hqe]⟩,hp⟩⟩
   refine M5 (B:=Zz w q) I hn hz U hb hl zl ek hk' ⟨J.aHL,J.Top,J.aG9,J.aHC,J.bP,J.aE,I.Now⟩ ?_ (DP zq) (by show M.aF.sz q.aHC<=_;omega) (.inl ?_)
   ·show M.aHD.sz q<=_;omega
   ·funext x;unfold nAt at hf⊢;rw[qM]at hf;show(_&&_)=((x.aHL.toList==q.aHL.toList)&&(x.Top.toList==q.Top.toList));rw[eq_of_beq hf.1,eq_of_beq hf.2]
def ZP(w:M.World)(i:Int)(R:M.World×Bool):Prop:=((zZ w=false\/NX w i<0)/\R=(w,false))\/(zZ w=true/\∃k:Nat,k<w.aHQ.length/\NX w i=(k:Int)/\R=((⟨w.Now,w.aHc,w.aHI,w.aA,w.aHQ.take k++w.aHQ.drop (k+1),w.aHK,MN w.aHR i,Ke w.aHN i,w.aHZ,w.aHT⟩,true):M.World×Bool))
theorem Xc{w:M.World}{i:Int}(j:w.ok)(C:M.World.sz w<=1048576):∃R:M.World×Bool,wB w i=some R/\tG w i=some R/\ZP w i R:=by
 have I:=C
 simp only[M.World.sz]at I
 have J:w.aHR.aHR.length<=M.aM.sz w.aHR:=by simp only[M.aM.sz];omega
 have U:w.aHN.aHn.length<=M.aHN.sz w.aHN:=by simp only[M.aHN.sz];omega
 unfold wB tG
 rw[Hc w jF,Fz w jF,qA,qA,Ko j,Fq j,qA,qA,CV j C,He j C,qA,qA]
 cases hn:zZ w with
 |false=>exact⟨(w,false),jH,jH,.inl ⟨.inl hn,rfl⟩⟩
 |true=>
  simp only[qB,qD,if_false]
  by_cases h:NX w i<0
  ·simp only[h,decide_true,if_true];exact⟨(w,false),rfl,rfl,.inl ⟨.inr h,rfl⟩⟩
  ·obtain⟨k,e,hk⟩:=iF (show ¬mM (λp:M.bC=>p.Id==i) w.aHQ<0 from h)
   simp only[h,decide_false,qD,if_false]
   rw[show NX w i=(k:Int)from e,CF jF,qA,qA,bD jF,Ho jF,qA,qA,qH,qH,dY (by simp only[qV,qW];omega),qA,qA,
    Hw jF jF,HR jF jF,qA,qA,KU jF,KJ jF]
   simp only[qA]
   exact⟨(⟨w.Now,w.aHc,w.aHI,w.aA,w.aHQ.take k++w.aHQ.drop (k+1),w.aHK,MN w.aHR i,Ke w.aHN i,w.aHZ,w.aHT⟩,true),rfl,rfl,.inr ⟨hn,k,hk,e,rfl⟩⟩
theorem Nc{α:Type}{f:α->Nat}{x:α}:∀{l:List α} {i:Nat} (h:i<l.length),dG f (l.set i x)+f l[i]=dG f l+f x
 |[],_,h=>absurd h jH
 |y::l,0,_=>by simp only[List.set_cons_zero,dG,List.getElem_cons_zero];omega
 |y::l,i+1,h=>by have:=Nc (f:=f) (x:=x) (l:=l) (i:=i) (by simpa using h);simp only[List.set_cons_succ,dG,List.getElem_cons_succ];omega
def bkJ(x:M.aHD):Prop:=x.aHL.size<=16/\x.Top.size<=16/\M.aHD.ok x
def stG(m Z:Nat)(s:M.aA):Prop:=s.aHE.length<=m/\(∀b∈s.aHE,bkJ b)/\dG M.aHD.sz s.aHE<=Z
theorem stG.mono{m n Y Z:Nat}{s:M.aA}(h:stG m Y s)(h1:m<=n)(h2:Y<=Z):stG n Z s:=⟨qh h.1 h1,h.2.1,qh h.2.2 h2⟩
theorem stN.G{s:M.aA}(h:stN 4 s):stG 4 720000 s:=by
 have h1:=dR (w:=M.aHD.sz) (b:=180000) (xs:=s.aHE) λb hb=>(h.2 b hb).sz
 have h2:=h.1
 exact⟨h2,λb hb=>⟨(h.2 b hb).1,(h.2 b hb).2.1,(h.2 b hb).ok⟩,jF⟩
theorem stG.ok{m Z:Nat}{s:M.aA}(h:stG m Z s)(j:m<=1000):s.ok:=⟨⟨ml (by have:=h.1;omega),λb hb=>(h.2.1 b hb).2.2⟩⟩
theorem YZ{m Z c:Nat}{s:M.aA}{b:M.aHD}(h:stG m Z s)(hb:bkJ b)(hc:M.aHD.sz b<=c):stG (m+1) (Z+c) (JI s b).1:=by have C:=HY s b;have I:=Ss s b;obtain⟨h1,h2,h3⟩:=h;unfold JI Kr;split;(split;(refine⟨jK,λx j=> ?_,jK⟩;rcases IV j with rfl|j;(exact hb);·exact h2 x j);·exact⟨by show s.aHE.length<=_;omega,h2,by show dG M.aHD.sz s.aHE<=_;omega⟩);·exact⟨by show s.aHE.length<=_;omega,h2,by show dG M.aHD.sz s.aHE<=_;omega⟩
theorem Y8{m Z c j:Nat}{s:M.aA}{b:M.aHD}(h:stG m Z s)(hb:bkJ b)(J:j<s.aHE.length)(e:mM (nAt b.aHL b.Top) s.aHE=(j:Int))(hc:M.aHD.sz b<=M.aHD.sz s.aHE[j]+c):stG m (Z+c) (JI s b).1:=by
 have I:Cy s b=s.aHE.set j b:=by unfold Cy;rw[e,if_pos jF,qH]
 have U:=Nc (f:=M.aHD.sz) (x:=b) J
 obtain⟨h1,h2,h3⟩:=h
 unfold JI Kr
 rw[I]
 split
 ·split;(refine⟨by show(s.aHE.set j b).length<=m;rw[qN];exact h1,λx C=> ?_,jK⟩;rcases jD C with C|rfl;(exact h2 x C);·exact hb);·exact⟨h1,h2,by show dG M.aHD.sz s.aHE<=_;omega⟩
 ·exact⟨h1,h2,by show dG M.aHD.sz s.aHE<=_;omega⟩
def wdG(m n Z:Nat)(w:M.World):Prop:=inI w.Now/\inI w.aHI/\stG m Z w.aA/\(w.aHQ.length<=n/\∀p∈w.aHQ,UX p)/\inI w.aHK/\(w.aHR.aHR=[])/\(w.aHN.aHn=[])/\(w.aHZ.length<=3/\(∀s∈w.aHZ,M.aHL.ok s/\M.aHL.sz s<=100))/\(w.aHT.length<=3/\∀s∈w.aHT,TH s)
theorem wdG.mono{m n Z I J j:Nat}{w:M.World}(h:wdG m n Z w)(h1:m<=I)(h2:n<=J)(h3:Z<=j):wdG I J j w:=by obtain⟨U,a2,a3,C,a5⟩:=h;exact⟨U,a2,a3.mono h1 h3,⟨qh C.1 h2,C.2⟩,a5⟩
theorem wdG.ok{m n Z:Nat}{w:M.World}(h:wdG m n Z w)(C:m<=1000)(I:n<=1000):M.World.ok w:=by obtain⟨h1,h2,h3,h4,h5,h6,h7,h8,h9⟩:=h;exact⟨h1,h2,h3.ok C,⟨ml jF,λp j=>(h4.2 p j).1⟩,h5,⟨by rw[h6];simp[maxLen],by rw[h6];simp⟩,⟨by rw[h7];simp[maxLen],by rw[h7];simp⟩,⟨ml jF,λp j=>(h8.2 p j).1⟩,⟨ml jF,λp j=>(h9.2 p j).1⟩⟩
theorem wdG.sz{m n Z:Nat}{w:M.World}(h:wdG m n Z w):M.World.sz w<=m+Z+2001*n+90400:=by
 obtain⟨h1,h2,h3,h4,h5,h6,h7,h8,h9⟩:=h
 have j:=dR (w:=M.bC.sz) (b:=2000) (xs:=w.aHQ) λb hb=>(h4.2 b hb).2
 have C:=dR (w:=M.aHL.sz) (b:=100) (xs:=w.aHZ) λb hb=>(h8.2 b hb).2
 have I:=dR (w:=M.aHO.sz) (b:=30000) (xs:=w.aHT) λb hb=>(h9.2 b hb).2
 have J:=h3.1
 have b5:=h3.2.2
 have U:=h4.1
 have b3:=h8.1
 have b4:=h9.1
 simp only[M.World.sz,M.aA.sz,M.aM.sz,M.aHN.sz,h6,h7,dG,qK]
 omega
def lit(m n Z:Nat):Prop:=m<=20/\n<=20/\Z<=800000
theorem wdG.ok'{m n Z:Nat}{w:M.World}(h:wdG m n Z w)(j:lit m n Z):M.World.ok w:=h.ok (by have:=j.1;omega) (by have:=j.2.1;omega)
theorem wdG.sz'{m n Z:Nat}{w:M.World}(h:wdG m n Z w)(j:lit m n Z):M.World.sz w<=1048576:=by have:=h.sz;have:=j.1;have:=j.2.1;have:=j.2.2;omega
theorem aA1{d:Int}:wdG 0 0 0 (Ty d):=by
 obtain⟨j,C,a3,I,J,U,a7,a8,a9⟩:=ZY (d:=d)
 have e:(Ty d).aA.aHE=[]:=by unfold Ty;split<;>rfl
 exact⟨j,C,⟨by rw[e];simp,by rw[e];simp,by rw[e];simp[dG]⟩,I,J,U,a7,a8,a9⟩
theorem Ou{m n Z:Nat}{w:M.World}{a t:ByteArray}{l:List M.Instr}(h:wdG m n Z w)(hm:lit m n Z)(ha:a.size<=16)(ht:t.size<=16)(hl:AD l):∃R,nS w a t l=some R/\(yE w a t l=some R/\(wdG (m+1) (n+1) (Z+1100) R.1/\R.1.aHZ=w.aHZ/\R.1.aHT=w.aHT)/\(R=(w,0,false) \/∃B p,Y7 w a t B/\Qx w B a t l p R)):=by
 have hsc:=PA hl
 obtain⟨R,e1,e2,hR⟩:=YO (h.ok' hm) (h.sz' hm) (a:=a) (b:=t) (l:=l) jF jF (L9 hl) jF
 refine⟨R,e1,e2,?_,hR⟩
 rcases hR with rfl|⟨B,p,hB,hF⟩
 ·exact⟨h.mono jF jF jF,rfl,rfl⟩
 ·obtain⟨_,_,_,hat,e,_,_,pk,pz,_⟩:=hF
  obtain⟨J,a2,U,a4,a5,a6,a7,a8,a9⟩:=h
  have hst:stG (m+1) (Z+1100) (JI w.aA B).1:=by
   rcases hB with⟨j,hj,ej,rfl⟩|⟨d,hd,rfl⟩
   ·have C:=U.2.1 _ (qG hj);refine(Y8 (c:=0) U (b:=Zz w w.aA.aHE[j]) ⟨C.1,C.2.1,⟨C.2.2.aHL,C.2.2.Top,C.2.2.aG9,C.2.2.aHC,C.2.2.bP,C.2.2.aE,J⟩⟩ hj (by rw[<-hat];exact ej) (qg _)).mono jF jF
   ·have ok:=RF (s16 ha) (s16 ht) hd
    have hs:(CN a t d).1.aHL.size<=16/\(CN a t d).1.Top.size<=16/\M.aHD.sz (CN a t d).1<=1100:=by have:=XJ a t d;unfold CN;split;(split;(exact⟨ha,ht,by show M.aHD.sz (DZ a t d)<=1100;omega⟩);·exact⟨jI,jI,by show M.aHD.sz sQ<=1100;decide⟩);·exact⟨jI,jI,by show M.aHD.sz sQ<=1100;decide⟩
    exact YZ (c:=1100) U ⟨hs.1,hs.2.1,⟨ok.aHL,ok.Top,ok.aG9,ok.aHC,ok.bP,ok.aE,J⟩⟩ hs.2.2
  rw[e]
  refine⟨⟨J,a2,hst,⟨jR,λy I=> ?_⟩,bJ _,a6,a7,a8,a9⟩,rfl,rfl⟩
  rcases qP.1 I with I|I
  ·exact a4.2 y I
  ·rw[qQ.1 I];exact⟨pk,jF⟩
theorem Oh{m n Z:Nat}{w:M.World}{i:Int}(h:wdG m n Z w)(J:lit m n Z):∃R,wB w i=some R/\(tG w i=some R/\(wdG m n Z R.1/\R.1.aHZ=w.aHZ/\R.1.aHT=w.aHT)/\(((zZ w=false\/NX w i<0)/\R=(w,false))\/(zZ w=true/\∃k:Nat,k<w.aHQ.length/\NX w i=(k:Int)/\R=((⟨w.Now,w.aHc,w.aHI,w.aA,w.aHQ.take k++w.aHQ.drop (k+1),w.aHK,MN w.aHR i,Ke w.aHN i,w.aHZ,w.aHT⟩,true):M.World×Bool)))):=by obtain⟨R,e1,e2,I⟩:=Xc (i:=i) (h.ok' J) (h.sz' J);refine⟨R,e1,e2,?_,I⟩;rcases I with⟨_,rfl⟩|⟨_,k,hk,_,rfl⟩;(exact⟨h,rfl,rfl⟩);·obtain⟨U,a2,a3,C,a5,a6,a7,a8,a9⟩:=h;refine⟨⟨U,a2,a3,⟨by simp only[qE,qV,qW];omega,λy j=> ?_⟩,a5,?_,?_,a8,a9⟩,rfl,rfl⟩;(rcases qP.1 j with j|j;(exact C.2 y (qk j));·exact C.2 y (qv j));(show M8 (w.aHR.aHR.filter _)=[];rw[a6];rfl);·show w.aHN.aHn.filter _=[];rw[a7];rfl
def wd3(m n Z:Nat)(w:M.World):Prop:=wdG m n Z w/\w.aHZ.length=3/\w.aHT.length=3
theorem wd3.mono{m n Z C I j:Nat}{w:M.World}(h:wd3 m n Z w)(h1:m<=C)(h2:n<=I)(h3:Z<=j):wd3 C I j w:=⟨h.1.mono h1 h2 h3,h.2⟩
theorem wd3.to{m n Z I J C:Nat}{w v:M.World}(h:wd3 m n Z w)(j:wdG I J C v/\v.aHZ=w.aHZ/\v.aHT=w.aHT):wd3 I J C v:=⟨j.1,by rw[j.2.1];exact h.2.1,by rw[j.2.2];exact h.2.2⟩
theorem Z4(k:Nat)(h:k<=1000):i64.wrap (((k+1:Nat):Int)-1)=(k:Int):=by rw[wrap_small jF jF];omega
theorem P1{b:List Int}{i h:Int}(hc:okC b i h):Dr b (λs=>s.size<=16) (Ar (⟨b,i,h⟩:M.aQ)):=by unfold Ar;exact .bnd (BT (λs=>s.size<=16) jI jI hc) λi1 J I j C=>.ret j C
theorem Tp{b:List Int}{i h:Int}(c0:okC b i h):Dr b (wd3 4 4 4400) (AG (⟨b,i,h⟩:M.aQ)):=by
 unfold AG
 refine .bnd (aW c0) λi1 v1 r1 c1 q1=> ?_
 have hr:=q1.2.1 jF
 have hr0:=q1.1
 dsimp only
 rw[L3,qA,wrap_small jF jF]
 have hN:(Ty (1+r1)).aHZ.length=3/\(Ty (1+r1)).aHT.length=3:=by unfold Ty;rw[if_pos jF];exact⟨rfl,rfl⟩
 have hw0:wd3 0 0 0 (Ty (1+r1)):=⟨aA1,hN⟩
 generalize Ty (1+r1)=w0 at hw0
 refine .bnd (aW c1) λi2 v2 r2 c2 q2=> ?_
 obtain⟨N,rfl⟩:=BW q2.1
 have hN4:=q2.2.1 jF
 have key:∀(n k:Nat) (w:M.World) (ci ch:Int),k<n->k<=4->okC b ci ch->wd3 (4-k) (4-k) (1100*(4-k)) w->Dr b (wd3 4 4 4400) (fS (⟨b,i,h⟩:M.aQ) n (k:Int) w.Now w.aHc w.aHI w.aHK ci ch w.aA.aHE w.aHQ w.aHR.aHR w.aHN.aHn w.aHZ w.aHT):=by
  intro n
  induction n with
  |zero=>intro k w ci ch h _ _ _;omega
  |succ n ih=>
   intro k w ci ch hn hk hc C
   simp only[fS]
   cases k with
   |zero=>
    rw[if_neg jH]
    exact .ret hc (C.mono jF jF jF)
   |succ k=>
    have hlit:lit (4-(k+1)) (4-(k+1)) (1100*(4-(k+1))):=⟨jF,jF,jF⟩
    have up:∀{v:M.World},wd3 (4-(k+1)) (4-(k+1)) (1100*(4-(k+1))) v->wd3 (4-k) (4-k) (1100*(4-k)) v:=λhv=>hv.mono jF jF jF
    have up2:∀{v:M.World},wd3 (4-(k+1)+1) (4-(k+1)+1) (1100*(4-(k+1))+1100) v->wd3 (4-k) (4-k) (1100*(4-k)) v:=λhv=>hv.mono jF jF jF
    rw[if_pos (decide_eq_true jF),Z4 k jF]
    refine .bnd (aW hc) λi3 v3 r3 c3 q3=> ?_
    dsimp only
    split
    ·refine .bnd (aW c3) λi4 v4 r4 J I=>.Ha (Oh (w:=w) C.1 hlit) λR hR=> ?_
     exact ih k R.1 i4 v4 jF jF J (up (C.to hR.2.1))
    split
    ·refine .bnd (aW c3) λi4 v4 r4 J I=> ?_
     obtain⟨⟨a1,a2⟩,a3⟩:=C
     exact ih k (⟨i64.wrap (w.Now+r4),w.aHc,w.aHI,w.aA,w.aHQ,w.aHK,w.aHR,w.aHN,w.aHZ,w.aHT⟩:M.World) i4 v4 jF jF J (up ⟨⟨bJ _,a2⟩,a3⟩)
    split
    ·refine .bnd (aW c3) λi4 v4 r4 J I=>.bnd (aW J) λi5 v5 r5 c5 q5=> ?_
     obtain⟨⟨a1,a2,a3,a4,a5,a6,a7,a8,a9⟩,aa,ae⟩:=C
     obtain⟨j,rfl⟩:=BW I.1
     have hj:=I.2.1 jF
     have hj':j<w.aHZ.length:=by omega
     dsimp only
     rw[aK hj',qA,qH]
     have hs:=a8.2 _ (qG hj')
     refine ih k (⟨w.Now,w.aHc,w.aHI,w.aA,w.aHQ,w.aHK,w.aHR,w.aHN,w.aHZ.set j (⟨w.aHZ[j].Name,i64.wrap (1+r5),w.aHZ[j].aHl,w.aHZ[j].aHo⟩:M.aHL),w.aHT⟩:M.World) i5 v5 jF jF c5 (up ⟨⟨a1,a2,a3,a4,a5,a6,a7,⟨by rw[qN];exact a8.1,λs U=> ?_⟩,a9⟩,by rw[qN];exact aa,ae⟩)
     rcases jD U with U|rfl
     ·exact a8.2 s U
     ·exact⟨⟨hs.1.Name,bJ _,hs.1.aHl⟩,hs.2⟩
    ·refine .bnd (P1 c3) λi4 v4 r4 J I=>.bnd (Ay J) λi5 v5 r5 c5 q5=> ?_
     dsimp only
     split
     ·refine .bnd (P1 c5) λi6 v6 r6 c6 q6=>.bnd (ET c6) λi7 v7 r7 c7 q7=>.Ha (Ou (w:=w) C.1 hlit I q6 q7) λR hR=> ?_
      exact ih k R.1 i7 v7 jF jF c7 (up2 (C.to hR.2.1))
     ·refine .bnd (ET c5) λi7 v7 r7 c7 q7=>.Ha (Ou (w:=w) C.1 hlit I I q7) λR hR=> ?_
      exact ih k R.1 i7 v7 jF jF c7 (up2 (C.to hR.2.1))
 exact key fuel N w0 i2 v2 (nJ jF) jF c2 (hw0.mono jF jF jF)
theorem Zi{b:List Int}{i h:Int}{o:Bool}{w:M.World}{m n Z:Nat}(c0:okC b i h)(hw:wd3 m n Z w)(hm:4<=m)(hn:n<=1000)(hZ:Z<=720000):Dr b (wdG m (n+1) 720000) ((aG (⟨b,i,h⟩:M.aQ) 24).bind λx=>if(x.2.2==0)=true then(bN (⟨b,x.1,x.2.1⟩:M.aQ) ([-1,999999990000,999999990001])).bind λy=>some (y.1,y.2.1,(⟨y.2.2,o,w.aHI,w.aA,w.aHQ,w.aHK,w.aHR,w.aHN,w.aHZ,w.aHT⟩:M.World))else if(x.2.2==1)=true then some (x.1,x.2.1,(⟨w.Now,o,0,w.aA,w.aHQ,w.aHK,w.aHR,w.aHN,w.aHZ,w.aHT⟩:M.World))else if(x.2.2==2)=true then(AX w.aHZ 2).bind λy=>some (x.1,x.2.1,(⟨w.Now,o,w.aHI,w.aA,w.aHQ,w.aHK,w.aHR,w.aHN,List.take (2:Int).toNat w.aHZ,w.aHT⟩:M.World))else if(x.2.2==3)=true then(uT (⟨b,x.1,x.2.1⟩:M.aQ)).bind λy=>some (y.1,y.2.1,(⟨w.Now,o,w.aHI,y.2.2,w.aHQ,w.aHK,w.aHR,w.aHN,w.aHZ,w.aHT⟩:M.World))else if(x.2.2==4)=true then(A9 (⟨b,x.1,x.2.1⟩:M.aQ)).bind λy=>(app 144 w.aHQ ([y.2.2])).bind λz=>some (y.1,y.2.1,(⟨w.Now,o,w.aHI,w.aA,w.aHQ++[y.2.2],w.aHK,w.aHR,w.aHN,w.aHZ,w.aHT⟩:M.World))else if(x.2.2==5)=true then some (x.1,x.2.1,(⟨w.Now,o,w.aHI,w.aA,w.aHQ,0,w.aHR,w.aHN,w.aHZ,w.aHT⟩:M.World))else if(x.2.2==6)=true then(Bg (⟨b,x.1,x.2.1⟩:M.aQ)).bind λy=>(idx w.aHT 0).bind λz=>some (y.1,y.2.1,(⟨w.Now,o,w.aHI,w.aA,w.aHQ,w.aHK,w.aHR,w.aHN,w.aHZ,List.set w.aHT (0:Int).toNat y.2.2⟩:M.World))else some (x.1,x.2.1,(⟨w.Now,o,w.aHI,w.aA,w.aHQ,w.aHK,w.aHR,w.aHN,w.aHZ,w.aHT⟩:M.World))):=by
 obtain⟨⟨a1,a2,a3,a4,a5,I,J,U,a9⟩,h3,hs⟩:=hw
 have C:w.aHQ.length<=n+1/\∀p∈w.aHQ,UX p:=⟨jF,a4.2⟩
 have j:stG m 720000 w.aA:=a3.mono (qg _) hZ
 refine .bnd (aW c0) λi1 v1 r1 c1 q1=> ?_
 dsimp only
 split
 ·exact .bnd (uE (λx=> -1000000000000000<=x/\x<=1000000000000000) jI jI c1) λi2 v2 r2 c2 q2=>.ret c2 ⟨bgI q2,a2,j,C,a5,I,J,U,a9⟩
 split
 ·exact .ret c1 ⟨a1,xV,j,C,a5,I,J,U,a9⟩
 split
 ·rw[show AX w.aHZ 2=AX w.aHZ ((2:Nat):Int)from rfl,CF jF,qA];exact .ret c1 ⟨a1,a2,j,C,a5,I,J,⟨by show(List.take 2 w.aHZ).length<=3;rw[qV];omega,λs hs=>U.2 s (qk hs)⟩,a9⟩
 split
 ·exact .bnd (Pd c1) λi2 v2 r2 c2 q2=>.ret c2 ⟨a1,a2,q2.G.mono hm (qg _),C,a5,I,J,U,a9⟩
 split
 ·refine .bnd (Xd c1) λi2 v2 r2 c2 q2=> ?_
  dsimp only
  rw[BF jV jF,qA]
  refine .ret c2 ⟨a1,a2,j,⟨jR,λp hp=> ?_⟩,a5,I,J,U,a9⟩
  rcases qP.1 hp with hp|hp
  ·exact a4.2 p hp
  ·rw[qQ.1 hp];exact q2
 split
 ·exact .ret c1 ⟨a1,a2,j,C,xV,I,J,U,a9⟩
 split
 ·refine .bnd (Xi c1) λi2 v2 r2 c2 q2=> ?_
  dsimp only
  rw[show idx w.aHT 0=idx w.aHT ((0:Nat):Int)from rfl,aK jF,qA]
  refine .ret c2 ⟨a1,a2,j,C,a5,I,J,U,⟨by show(List.set w.aHT 0 r2).length<=3;rw[qN];omega,λs hs=> ?_⟩⟩
  rcases jD hs with hs|rfl
  ·exact a9.2 s hs
  ·exact q2
 ·exact .ret c1 ⟨a1,a2,j,C,a5,I,J,U,a9⟩
theorem V4{b:List Int}{i h:Int}(j:okC b i h):Dr b (wdG 4 5 720000) (Cu (⟨b,i,h⟩:M.aQ)):=by
 unfold Cu
 refine .bnd (Tp j) λi1 v1 U C J=>.bnd (Ay C) λi2 v2 r2 I q2=> ?_
 exact Zi (w:=U) (o:= !r2) I J jF jF jF
theorem UO{j:List Int}(hl:j.length<=1048576)(hb:∀x∈j,0<=x/\x<=255):∃x,vU j=some x/\wdG 10 11 726600 x.1/\x.2.1.size<=16/\x.2.2.1.size<=16/\AD x.2.2.2:=by
 unfold vU
 obtain⟨h,e,c0⟩:=Zm hl hb
 rw[e,qA]
 obtain⟨i1,v1,w,e1,c1,I⟩:=V4 c0
 rw[e1,qA]
 dsimp only
 obtain⟨i2,v2,t,e2,c2,J⟩:=BT (l:=[(⟨#[98,97,110,107]⟩:ByteArray),(⟨#[110,101,119,115]⟩:ByteArray),(⟨#[115,104,111,112]⟩:ByteArray),(⟨#[122,122,122]⟩:ByteArray)]) (λs=>s.size<=16) jI jI c1
 rw[e2,qA]
 dsimp only
 obtain⟨i3,v3,a,e3,c3,U⟩:=BT (l:=[(⟨#[98,97,110,107]⟩:ByteArray),(⟨#[110,101,119,115]⟩:ByteArray),(⟨#[115,104,111,112]⟩:ByteArray),(⟨#[]⟩:ByteArray)]) (λs=>s.size<=16) jI jI c2
 rw[e3,qA]
 dsimp only
 obtain⟨i4,v4,r4,e4,c4,q4⟩:=Ay (n:=8) c3
 rw[e4,qA]
 dsimp only
 obtain⟨i5,v5,sc,e5,c5,q5⟩:=ET c4
 split
 ·have key:∀(n k:Nat) (w:M.World),6-k<n->k<=6->wdG (4+k) (5+k) (720000+1100*k) w->∃x,kY (⟨j,0,h⟩:M.aQ) (i2,v2,t) (i3,v3,a) (i4,v4,r4) n (k:Int) w.Now w.aHc w.aHI w.aHK w.aA.aHE w.aHQ w.aHR.aHR w.aHN.aHn w.aHZ w.aHT=some x/\wdG 10 11 726600 x.1/\x.2.1.size<=16/\x.2.2.1.size<=16/\AD x.2.2.2:=by
   intro n
   induction n with
   |zero=>intro k w h _ _;omega
   |succ n ih=>
    intro k w hn hk C
    simp only[kY]
    rcases Nat.lt_or_ge k 6 with h6|h6
    ·rw[if_pos jG,bD jF];obtain⟨R,eR,_,hR,_⟩:=Ou (w:=w) (a:=(⟨#[98,97,110,107]⟩:ByteArray)) (t:=(⟨#[98,97,110,107]⟩:ByteArray)) (l:=([]:List M.Instr)) C ⟨jF,jF,jF⟩ jI jI ⟨jH,jH⟩;rw[eR,qA];exact ih (k+1) R.1 jF jF (hR.1.mono jF jF jF)
    ·rw[if_neg jG,e5,qA];exact⟨_,rfl,C.mono jF jF jF,U,J,q5⟩
  exact key fuel 0 w (nJ jF) jF (I.mono jF jF jF)
 ·rw[e5,qA];exact⟨_,rfl,I.mono jF jF jF,U,J,q5⟩
theorem VT{w:M.World}(j:zZ w=true){k:Nat}(hk:k<w.aHQ.length):DA w.aHQ[k]=true/\w.aHQ[k].Id<w.aHK/\0<=mM (nAt w.aHQ[k].aHL w.aHQ[k].Top) w.aA.aHE:=by unfold zZ at j;simp only[qM]at j;have h:=qR.1 j.2.2.2.2.1 k (qS.2 hk);unfold DS at h;rw[qF hk,qf]at h;simp only[qM,qL]at h;exact⟨h.1,h.2.1,h.2.2.2⟩
theorem aAR{w:M.World}(j:zZ w=true):∀y∈w.aHQ,(y.Id==w.aHK)=false:=λy C=>by obtain⟨k,hk,rfl⟩:=List.getElem_of_mem C;have:=(VT j hk).2.1;rw[beq_eq_false_iff_ne];omega
theorem Va{α:Type}{f:α->Bool}{l:List α}{x:α}(h:∀y∈l,f y=false)(j:f x=true):mM f (l++[x])=(l.length:Int):=by have:=(R0 (l:=l) (p:=l.length) (x:=x) (qg _) h j).1;rw[List.take_length,qa]at this;exact this
theorem Pf{n d C:Int}{o:Bool}{s:M.aA}{l:List M.bC}{p:M.bC}{t t':M.aM}{c U:M.aHN}{J:List M.aHL}{I:List M.aHO}(h:zZ (⟨n,o,d,s,l++[p],C,t,c,J,I⟩:M.World)=true)(ht:Gy t'=true):zZ (⟨n,o,d,s,l,C,t',U,J,I⟩:M.World)=true:=by unfold zZ at h⊢;simp only[qM,qL]at h⊢;obtain⟨h1,h2,h3,h4,h5,h6,h7,h8,h9,_⟩:=h;refine⟨h1,h2,by rw[qE]at h3;omega,h4,?_,h6,h7,h8,h9,ht⟩;rw[qR]at h5⊢;intro k hk;have j:=qS.1 hk;have:=h5 k (qS.2 (by rw[qE];omega));unfold DS at this⊢;dsimp only at this⊢;rw[qy j,qy (show k-1<l.length by omega)]at this;exact this
set_option maxHeartbeats 4000000 in
theorem ZK(p0:List Int)(hb:∀b∈p0,0<=b/\b<=255):AM p0=some true:=by
 unfold AM GJ
 rw[qA]
 by_cases hl:(p0.length:Int)>1048576
 ·rw[if_pos (by simpa using hl)]
 rw[if_neg (by simpa using hl)]
 have hl':p0.length<=1048576:=by omega
 obtain⟨⟨w,a,t,l⟩,ed,hW,hA,hT,hL⟩:=UO hl' hb
 rw[ed,qA]
 dsimp only at hW hA hT hL⊢
 have hlit:lit 10 11 726600:=⟨jF,jF,jF⟩
 have hlit2:lit 11 12 727700:=⟨jF,jF,jF⟩
 have ho:=hW.ok' hlit
 have hz:=hW.sz' hlit
 obtain⟨R,e1,e2,⟨J,_,_⟩,hR⟩:=Ou (w:=w) hW hlit hA hT hL
 have U:=J.ok' hlit2
 have hRz:=J.sz' hlit2
 rw[e2,qA,e1,qA]
 refine jn (v:=false) ?_ ?_
 ·rw[if_neg jH,if_neg jH,Ef U,qA,LA];rfl
 rw[if_neg jH]
 rcases hR with rfl|⟨B,p,hB,hn,j,hp2,hat,eW,eI,eT,pok,psz,pid,pa,pt,pl⟩
 ·rw[if_pos jH,Ef ho,qA,LA]
 obtain⟨W,I,b⟩:=R
 dsimp only at e1 e2 J U hRz j eW eI eT⊢
 subst eT eI
 rw[if_neg jH,Fq U,qA]
 have hids:=aAR hn
 have hx:NX W w.aHK=(w.aHQ.length:Int):=by rw[eW];exact Va hids (by rw[pid];simp)
 rw[hx]
 have hWl:W.aHQ.length=w.aHQ.length+1:=by rw[eW];simp
 have hWp:W.aHQ[w.aHQ.length]? =some p:=by rw[eW];simp
 have hlast:w.aHQ.length<W.aHQ.length:=by omega
 have hWg:W.aHQ[w.aHQ.length]=p:=by rw[qF hlast]at hWp;exact qd hWp
 refine jn (v:=false) ?_ ?_
 ·rw[if_neg jH,if_neg jG,aK hlast,qA,hWg,pl,if_neg jH];rw[show idx [(⟨(⟨#[105,110,100,101,120]⟩:ByteArray),p.aHA⟩:M.aT)] 0=some (⟨(⟨#[105,110,100,101,120]⟩:ByteArray),p.aHA⟩:M.aT)from rfl,qA,if_neg jH,if_neg jH,CV U hRz,qA,j];rfl
 rw[if_neg jH]
 obtain⟨Q,c1,c2,⟨C,_,_⟩,hQ⟩:=Oh (w:=W) (i:=w.aHK) J hlit2
 rcases hQ with⟨hbad,_⟩|⟨_,k,hk,ek,rfl⟩
 ·exfalso;rcases hbad with h|h;(rw[j]at h;cases h);·rw[hx]at h;omega
 rw[hx]at ek
 have ek':w.aHQ.length=k:=by omega
 subst ek'
 rw[c2,qA]
 dsimp only at C⊢
 have eP:W.aHQ.take w.aHQ.length++W.aHQ.drop (w.aHQ.length+1)=w.aHQ:=by rw[eW];simp
 rw[eP]at C⊢
 obtain⟨Q2,d1,d2,_,hQ2⟩:=Oh (i:=w.aHK) C hlit2
 have hno:¬∃k:Nat,k<w.aHQ.length/\mM (λp:M.bC=>p.Id==w.aHK) w.aHQ=(k:Int):=by rintro⟨k,hk,e⟩;obtain⟨hk',hit⟩:=B1 e;rw[hids _ (qG hk')]at hit;cases hit
 rcases hQ2 with⟨_,rfl⟩|⟨_,k,hk,ek,_⟩
 ·rw[d2,qA]
  refine jn (v:=true) ?_ rfl
  have hzo:=C.ok' hlit2
  have hzz:=C.sz' hlit2
  rw[if_pos rfl,if_pos jH,G4 hzz,qA,G4 hz,qA,if_pos jH,xX hzo.aA,qA]
  have hf:=(VT j hlast).2.2
  rw[hWg,pa,pt]at hf
  rw[if_pos (by simpa using hf),CV hzo hzz,qA]
  have hlk:Gy (MN W.aHR w.aHK)=true:=by have h0:W.aHR.aHR=[]:=J.2.2.2.2.2.1;unfold MN;rw[h0];rfl
  have hfin:zZ (⟨W.Now,W.aHc,W.aHI,W.aA,w.aHQ,W.aHK,MN W.aHR w.aHK,Ke W.aHN w.aHK,W.aHZ,W.aHT⟩:M.World)=true:=by
   have hW':W=(⟨W.Now,W.aHc,W.aHI,W.aA,w.aHQ++[p],W.aHK,W.aHR,W.aHN,W.aHZ,W.aHT⟩:M.World):=by rw[eW]
   rw[hW']at j
   exact Pf j hlk
  rw[hfin]
 ·exact absurd ⟨k,hk,ek⟩ hno
