/-
  Helper text. No conditions.
-/
import Derived.Test.YtjlnkcoeghonfaaGreatRunningPagesPd9
set_option linter.all false
namespace Go.Proofs.YtjlnkcoeghonfaaGreat.gen
open Go Go.Sh
open Go.IntKind (i64)
theorem aAr{α:Type}{f:α->Bool}{l:List α}{p:Nat}{x:α}(hp:p<=l.length)(h:∀y∈l,f y=false)(hx:f x=true):kP f (l.take p++([x]++l.drop p))=(p:Int)/\(l.take p++([x]++l.drop p))[p]? =some x:=by
 have U:(l.take p).length=p:=by rw[qV];omega
 have J:p<(l.take p++([x]++l.drop p)).length:=by simp only[qE,U,qJ,qK];omega
 have C:(l.take p++([x]++l.drop p))[p]? =some x:=by rw[qz wi,U,Nat.sub_self];rfl
 have I:(l.take p++([x]++l.drop p))[p]=x:=by rw[qF J]at C;exact qd C
 refine⟨eq_of_beq ((HW J (by rw[I];exact hx)).trans ?_),C⟩
 rw[qR]
 intro j hj
 have hj':=qS.1 hj
 rw[qy wi]
 cases e:(l.take p)[j]? with
 |none=>rfl
 |some y=>
  rw[qf,h y (qk (jC e))]
  rfl
theorem VX{s:M.aC}{b:M.Bucket}(j:(IU s b).2=true):(IU s b).1=(⟨Ek s b⟩:M.aC)/\sH (⟨Ek s b⟩:M.aC)=true:=by unfold IU Lh at j⊢;by_cases h1:sH s=true;(by_cases h2:sH (⟨Ek s b⟩:M.aC)=true;(rw[jE h1,jE h2];exact⟨rfl,h2⟩);·rw[jE h1,jF h2]at j;cases j);·rw[jF h1]at j;cases j
theorem VY(b:M.Bucket):nAt b.aLa b.Top b=true:=by unfold nAt;simp
theorem Th(s:M.aC)(b:M.Bucket):∃j:Nat,kP (nAt b.aLa b.Top) (Ek s b)=(j:Int)/\(Ek s b)[j]? =some b:=by unfold Ek;by_cases h:kP (nAt b.aLa b.Top) s.Buckets>=0;(rw[jE h];obtain⟨k,e,hk⟩:=dM (show ¬kP (nAt b.aLa b.Top) s.Buckets<0 by omega);rw[e,qH];exact⟨k,Vf e (VY b)⟩);·rw[jF h];exact⟨Xe s b,aAr (RM s b) (MD wi) (VY b)⟩
theorem aCt{s:M.aC}(h:sH s=true){x:M.Bucket}{j:Nat}(C:s.Buckets[j]? =some x):xW x=true:=by unfold sH at h;rw[qM,qR]at h;obtain⟨I,_⟩:=qe.1 C;have:=h.1 j (qS.2 I);unfold HA at this;rw[C,qf,qM]at this;exact this.1
theorem aBH{s:M.aC}{b:M.Bucket}(C:M.aC.sz s<=1500000)(J:M.aLS.sz b.bP.aLq<=1500000):∀x∈(IU s b).1.Buckets,M.aLS.sz x.bP.aLq<=1500000:=by
 have j:∀x∈s.Buckets,M.aLS.sz x.bP.aLq<=1500000:=λx I=>BG (XM C x I)
 unfold IU Lh
 split
 ·split;(exact Px C J);·exact j
 ·exact j
theorem Z4(p:M.bO)(f:ByteArray)(x:M.aLb):(EY p f x).1.Id=p.Id:=by unfold EY;split;(rfl);·split;(rfl);·split;(split<;>rfl);·rfl
theorem YM{w:M.aD}{B:M.Bucket}{p:M.bO}{f:ByteArray}{k:Nat}(hw:w.ok)(J:B.ok)(hz:M.aD.sz w<=1500000)(hk:k<w.aLp.length)(I:GL p.aLa=(k:Int))(U:(IU w.aC B).2=true)(e:nAt p.aLa p.Top=nAt B.aLa B.Top):
  gJ (⟨w.Now,w.aLt,w.aLZ,(IU w.aC B).1,w.aLf,w.aLd,w.aLk,w.aLe,w.aLp,w.aLh⟩:M.aD) p f=mL B.aLW w.aLp[k] p.aLT f w.aLt:=by
 have C:=TS hw.aC J (Ep hz)
 obtain⟨j,e1,e2⟩:=Th w.aC B
 rw[(VX U).1]at C⊢
 unfold gJ
 rw[oH C,qA,Dp,qA,e,I]
 show(if decide (kP (nAt B.aLa B.Top) (Ek w.aC B)<0)=true then _ else _)=_
 rw[e1,jF we,jF we]
 show((idx (Ek w.aC B) (j:Int)).bind _)=_
 rw[aDn e2,qA,aM hk,qA]
 cases mL B.aLW w.aLp[k] p.aLT f w.aLt<;>rfl
def oS(w:M.aD)(B:M.Bucket)(k:Nat)(a b:ByteArray)(l:List M.aZ):Option (M.aD×Int×Bool):=(iN w.aC B).bind λj=>(idx w.aLp (k:Int)).bind λU=>(sZ B.aLU U w.aLt).bind λaj=>(nI w.aLd a b aj l).bind λC=>if(!j.2)=true then some (w,0,false)else if(!C.2)=true then some (w,0,false)else(gJ (⟨w.Now,w.aLt,w.aLZ,j.1,w.aLf,w.aLd,w.aLk,w.aLe,w.aLp,w.aLh⟩:M.aD) C.1 (⟨#[105,110,100,101,120]⟩:ByteArray)).bind λak=>(kZ C.1 (⟨#[105,110,100,101,120]⟩:ByteArray) ak).bind λI=>(app 144 w.aLf ([I.1])).bind λal=>if(!I.2)=true then some (w,0,false)else(lL (⟨w.Now,w.aLt,w.aLZ,j.1,w.aLf++[I.1],i64.wrap (w.aLd+1),w.aLk,w.aLe,w.aLp,w.aLh⟩:M.aD)).bind λJ=>if(!J)=true then some (w,0,false)else some ((⟨w.Now,w.aLt,w.aLZ,j.1,w.aLf++[I.1],i64.wrap (w.aLd+1),w.aLk,w.aLe,w.aLp,w.aLh⟩:M.aD),C.1.Id,true)
def Ub(w:M.aD)(B:M.Bucket)(a b:ByteArray)(l:List M.aZ)(p:M.bO)(R:M.aD×Int×Bool):Prop:=CJ w=true/\CJ R.1=true/\(IU w.aC B).2=true/\nAt a b=nAt B.aLa B.Top/\R.1=(⟨w.Now,w.aLt,w.aLZ,(IU w.aC B).1,w.aLf++[p],i64.wrap (w.aLd+1),w.aLk,w.aLe,w.aLp,w.aLh⟩:M.aD)/\R.2.1=w.aLd/\R.2.2=true/\M.bO.ok p/\M.bO.sz p<=a.size+b.size+(l.length+dV M.aZ.sz l)+10/\p.Id=w.aLd/\p.aLa=a/\p.Top=b/\p.aW=[(⟨(⟨#[105,110,100,101,120]⟩:ByteArray),p.aLT⟩:M.aW)]
def aDt(w:M.aD)(q:M.Bucket):M.Bucket:=(⟨q.aLa,q.Top,q.aLU,q.aLW,q.bP,q.aG,w.Now,q.aLy⟩:M.Bucket)
def aDk(w:M.aD)(a b:ByteArray)(d:Int):M.Bucket:=(⟨(FW a b d).1.aLa,(FW a b d).1.Top,(FW a b d).1.aLU,(FW a b d).1.aLW,(FW a b d).1.bP,(FW a b d).1.aG,w.Now,(FW a b d).1.aLy⟩:M.Bucket)
def aCm(w:M.aD)(a b:ByteArray)(B:M.Bucket):Prop:=(∃j:Nat,∃C:j<w.aC.Buckets.length,kP (nAt a b) w.aC.Buckets=(j:Int)/\B=aDt w w.aC.Buckets[j])\/(∃d,inI d/\B=aDk w a b d)
theorem Zp{p:M.bO}{f:ByteArray}{x:M.aLb}(h:(EY p f x).2=true):(EY p f x).1=Gt p f x.aLT/\x.aLT=p.aLT:=by unfold EY at h⊢;by_cases h1:(x.aMD !=200)=true;(rw[jE h1]at h;cases h);·rw[jF h1]at h⊢;by_cases h2:(x.aLT !=p.aLT)=true;(rw[jE h2]at h;cases h);·rw[jF h2]at h⊢;by_cases h3:EW p=true;(rw[jE h3]at h⊢;by_cases h4:EW (Gt p f x.aLT)=true;(rw[jE h4];exact⟨rfl,by simpa using h2⟩);·rw[jF h4]at h;cases h);·rw[jF h3]at h;cases h
theorem QG{w:M.aD}{B:M.Bucket}{k:Nat}{a b:ByteArray}{l:List M.aZ}(C:w.ok)(hn:CJ w=true)(hz:M.aD.sz w<=1500000)(ha:a.size<=1500000)(hb:b.size<=1500000)(hl:Ga l)(zl:l.length+dV M.aZ.sz l<=1500000)(ek:GL a=(k:Int))(hk:k<w.aLp.length)
  (J:B.ok)(zB:M.Bucket.sz B<=6000000)(zD:M.aLS.sz B.bP.aLq<=1500000)(zC:M.aJ.sz B.aLW<=1500000)(H:nAt a b=nAt B.aLa B.Top\/xW B=false):∃R:M.aD×Int×Bool,oS w B k a b l=some R/\(R=(w,0,false) \/∃p,Ub w B a b l p R):=by
 have hz':=hz
 simp only[M.aD.sz]at hz'
 have z5:(⟨#[105,110,100,101,120]⟩:ByteArray).size=5:=rfl
 have m5:(⟨#[105,110,100,101,120]⟩:ByteArray).size<=maxLen:=UT _ wi
 have z2:=eA (f:=M.aLa.sz) (qG hk)
 have ht:=C.aLp.2 _ (qG hk)
 have hpg:=C.aLf.1
 have hv:=aCB (r:=B.aLU) (s:=w.aLp[k]) (o:=w.aLt) J.aLU ht
 obtain⟨r,e1,e3⟩:=PS (c:=B.aLW) (s:=w.aLp[k]) (f:=(⟨#[105,110,100,101,120]⟩:ByteArray)) (v:=Q5 B.aLU w.aLp[k] w.aLt) (o:=w.aLt) J.aLW ht hv zC wi wi
 have pk:=Tg (i:=w.aLd) (v:=Q5 B.aLU w.aLp[k] w.aLt) C.aLd (UT _ ha) (UT _ hb) hv hl
 have pz:=Si w.aLd a b (Q5 B.aLU w.aLp[k] w.aLt) l
 have lk:=RP (f:=(⟨#[105,110,100,101,120]⟩:ByteArray)) (x:=r) pk wi m5 e3.aLT
 have lz:=Rk (FM w.aLd a b (Q5 B.aLU w.aLp[k] w.aLt) l).1 (⟨#[105,110,100,101,120]⟩:ByteArray) r
 have lid:=Z4 (FM w.aLd a b (Q5 B.aLU w.aLp[k] w.aLt) l).1 (⟨#[105,110,100,101,120]⟩:ByteArray) r
 have sw:=TS C.aC J (Ep hz)
 have sz:=aCO w.aC B
 have sd:=aBH (b:=B) (Ep hz) zD
 have no:∃R:M.aD×Int×Bool,some (w,0,false)=some R/\(R=(w,0,false) \/∃p,Ub w B a b l p R):=⟨(w,0,false),rfl,.inl rfl⟩
 unfold oS
 rw[E7 C.aC J (Ep hz) wi zD,aM hk]
 simp only[qA]
 rw[Mt]
 simp only[qA]
 rw[Iv C.aLd (UT _ ha) (UT _ hb) hv hl wi]
 simp only[qA]
 cases hP:(FM w.aLd a b (Q5 B.aLU w.aLp[k] w.aLt) l).2 with
 |false=>
  simp only[qC,jH,ite_self]
  exact no
 |true=>
  have hpp:EW (GO w.aLd a b (Q5 B.aLU w.aLp[k] w.aLt) l)=true:=by unfold FM at hP;split at hP;(assumption);·cases hP
  have I:(FM w.aLd a b (Q5 B.aLU w.aLp[k] w.aLt) l).1=GO w.aLd a b (Q5 B.aLU w.aLp[k] w.aLt) l:=by unfold FM;rw[jE hpp]
  have hv0:(Q5 B.aLU w.aLp[k] w.aLt==0)=false:=aA8 hpp
  simp only[hv0,qB,qD,jG]
  cases hp:(IU w.aC B).2 with
  |false=>
   simp only[qC,jH,qA,ite_self]
   exact no
  |true=>
   have e:nAt a b=nAt B.aLa B.Top:=by rcases H with H|H;(exact H);·obtain⟨j,_,e2⟩:=Th w.aC B;have:=aCt (VX hp).2 e2;rw[H]at this;cases this
   have hA:gJ (⟨w.Now,w.aLt,w.aLZ,(IU w.aC B).1,w.aLf,w.aLd,w.aLk,w.aLe,w.aLp,w.aLh⟩:M.aD) (FM w.aLd a b (Q5 B.aLU w.aLp[k] w.aLt) l).1 (⟨#[105,110,100,101,120]⟩:ByteArray)=some r:=by rw[YM C J hz hk (by rw[I];exact ek) hp (by rw[I];exact e),I];exact e1
   rw[hA]
   simp only[qB,qD,jG,qA]
   rw[GY pk wi wi m5 e3.aLT]
   simp only[qA]
   rw[dN wA]
   simp only[qA,lid]
   generalize U:EY (FM w.aLd a b (Q5 B.aLU w.aLp[k] w.aLt) l).1 (⟨#[105,110,100,101,120]⟩:ByteArray) r=X at lk lz
   cases hX:X.2 with
   |false=>
    simp only[qC,jH]
    exact no
   |true=>
    simp only[qB,qD,jG]
    have wo:M.aD.ok (⟨w.Now,w.aLt,w.aLZ,(IU w.aC B).1,w.aLf++[X.1],i64.wrap (w.aLd+1),w.aLk,w.aLe,w.aLp,w.aLh⟩:M.aD):=⟨C.Now,C.aLZ,sw,⟨by
     show(w.aLf++[X.1]).length<=maxLen
     rw[qE]
     exact UT _ wA,λy hy=>by
     have hy':y∈w.aLf++[X.1]:=hy
     rcases qP.1 hy' with h|h
     ·exact C.aLf.2 y h
     ·rw[qQ.1 h];exact lk⟩,bV _,C.aLk,C.aLe,C.aLp,C.aLh⟩
    rw[JA wo sd]
    simp only[qA]
    generalize hc:CJ _=c
    cases c with
    |false=>
     simp only[qC,jH]
     exact no
    |true=>
     simp only[qB,qD,jG]
     obtain⟨y1,y2⟩:=Zp (p:=(FM w.aLd a b (Q5 B.aLU w.aLp[k] w.aLt) l).1) (f:=(⟨#[105,110,100,101,120]⟩:ByteArray)) (x:=r) (by rw[U];exact hX)
     rw[U,I]at y1
     rw[I]at y2
     refine⟨_,rfl,.inr ⟨X.1,hn,hc,hp,e,rfl,?_,rfl,lk,?_,?_,?_,?_,?_⟩⟩
     ·show(FM w.aLd a b (Q5 B.aLU w.aLp[k] w.aLt) l).1.Id=_;rw[I];rfl
     ·have:=pz.1;omega
     ·rw[y1];rfl
     ·rw[y1];rfl
     ·rw[y1];rfl
     ·rw[y1];show([]++[(⟨(⟨#[105,110,100,101,120]⟩:ByteArray),r.aLT⟩:M.aW)])=[(⟨(⟨#[105,110,100,101,120]⟩:ByteArray),(GO w.aLd a b (Q5 B.aLU w.aLp[k] w.aLt) l).aLT⟩:M.aW)];rw[y2];rfl
theorem aBS(a b:ByteArray)(d:Int):M.Bucket.sz (LG a b d)<=2*a.size+b.size+1000:=by have h3:(⟨#[97,112,112]⟩:ByteArray).size=3:=rfl;have h5:(⟨#[110,111,116,101,115]⟩:ByteArray).size=5:=rfl;simp only[LG,M.Bucket.sz,M.aLU.sz,M.aJ.sz,M.bP.sz,M.aLS.sz,M.aE.sz,M.aG.sz,M.aLs.sz,M.aN.sz,dV,qJ,qK,h3,h5];omega
theorem aC7{w:M.aD}{a b:ByteArray}{l:List M.aZ}(J:w.ok)(hz:M.aD.sz w<=1500000)(ha:a.size<=1500000)(hb:b.size<=1500000)(hl:Ga l)(zl:l.length+dV M.aZ.sz l<=1500000):∃R:M.aD×Int×Bool,yW w a b l=some R/\(R=(w,0,false) \/∃B p,aCm w a b B/\Ub w B a b l p R):=by
 have hz':=hz
 simp only[M.aD.sz,M.aC.sz]at hz'
 have no:∃R:M.aD×Int×Bool,some (w,0,false)=some R/\(R=(w,0,false) \/∃B p,aCm w a b B/\Ub w B a b l p R):=⟨(w,0,false),rfl,.inl rfl⟩
 unfold yW B5
 rw[Bh w wi,DM J hz,Dp (a:=a),Dp (a:=b)]
 simp only[qA]
 cases hn:CJ w with
 |false=>
  simp only[qC,jH]
  exact no
 |true=>
  simp only[qB,qD,jG]
  by_cases h1:GL a<0
  ·simp only[h1,jb,jH];exact no
  by_cases h2:GL b<0
  ·simp only[h1,h2,jb,jc,jH,qD,jG];exact no
  simp only[h1,h2,jc,qD,jG]
  obtain⟨k,ek,hk⟩:=Qf h1
  have hk':k<w.aLp.length:=by rw[Nh hn];exact hk
  rw[IJ (UT _ ha) (UT _ hb) (bV _),oH J.aC]
  simp only[qA,ek]
  by_cases h:kP (nAt a b) w.aC.Buckets<0
  ·have h':¬kP (nAt a b) w.aC.Buckets>=0:=by omega
   simp only[h,h',jb,jc,jH,qD,jG,qA]
   have hd:=bV (i64.wrap (1000*w.aLZ)+w.aLd)
   generalize i64.wrap (i64.wrap (1000*w.aLZ)+w.aLd)=d at hd
   have C:=Vr (UT _ ha) (UT _ hb) hd
   suffices H:∃R:M.aD×Int×Bool,oS w (aDk w a b d) k a b l=some R/\(R=(w,0,false) \/∃p,Ub w (aDk w a b d) a b l p R)by obtain⟨R,r1,r3⟩:=H;exact⟨R,r1,r3.imp id λ⟨p,hp⟩=>⟨_,p,.inr ⟨d,hd,rfl⟩,hp⟩⟩
   refine QG (B:=aDk w a b d) J hn hz ha hb hl zl ek hk' ⟨C.aLa,C.Top,C.aLU,C.aLW,C.bP,C.aG,J.Now⟩ ?_ ?_ ?_ ?_
   ·have:=aBS a b d;show M.Bucket.sz (FW a b d).1<=_;unfold FW;split;(split;(show M.Bucket.sz (LG a b d)<=_;omega);·show M.Bucket.sz DP<=6000000;decide);·show M.Bucket.sz DP<=6000000;decide
   ·show M.aLS.sz (FW a b d).1.bP.aLq<=_;unfold FW;split;(split;(exact UZ a b d);·show M.aLS.sz DP.bP.aLq<=1500000;decide);·show M.aLS.sz DP.bP.aLq<=1500000;decide
   ·show M.aJ.sz (FW a b d).1.aLW<=_;unfold FW;split;(split;(show M.aJ.sz (⟨([]:List M.aLi)⟩:M.aJ)<=1500000;decide);·show M.aJ.sz DP.aLW<=1500000;decide);·show M.aJ.sz DP.aLW<=1500000;decide
   ·unfold aDk
    show nAt a b=nAt (FW a b d).1.aLa (FW a b d).1.Top\/_
    have z:∀n p,xW (⟨DP.aLa,DP.Top,DP.aLU,DP.aLW,DP.bP,DP.aG,n,p⟩:M.Bucket)=false:=λ_ _=>rfl
    unfold FW
    split
    ·split;(exact .inl rfl);·exact .inr (z _ _)
    ·exact .inr (z _ _)
  ·obtain⟨j,ej,hj⟩:=dM h
   have h':kP (nAt a b) w.aC.Buckets>=0:=by omega
   simp only[h,h',jb,jc,jH,qD,jG]
   rw[ej,aM hj]
   simp only[qA,jH]
   have I:=J.aC.Buckets.2 _ (qG hj)
   have z1:=eA (f:=M.Bucket.sz) (qG hj)
   obtain⟨_,U⟩:=CC ej
   generalize hqe:w.aC.Buckets[j]=q at I z1 U
   have zq:M.Bucket.sz q<=1500000:=by omega
   have z3:M.aJ.sz q.aLW<=M.Bucket.sz q:=by simp only[M.Bucket.sz];omega
   rw[Bi q wi]
   simp only[qA]
   suffices H:∃R:M.aD×Int×Bool,oS w (aDt w q) k a b l=some R/\(R=(w,0,false) \/∃p,Ub w (aDt w q) a b l p R)by obtain⟨R,r1,r3⟩:=H;exact⟨R,r1,r3.imp id λ⟨p,hp⟩=>⟨_,p,.inl ⟨j,hj,ej,by rw[hqe]⟩,hp⟩⟩
   refine QG (B:=aDt w q) J hn hz ha hb hl zl ek hk' ⟨I.aLa,I.Top,I.aLU,I.aLW,I.bP,I.aG,J.Now⟩ ?_ (BG zq) (by show M.aJ.sz q.aLW<=_;omega) (.inl ?_)
   ·show M.Bucket.sz q<=_;omega
   ·funext x;unfold nAt at U⊢;rw[qM]at U;show(_&&_)=((x.aLa.toList==q.aLa.toList)&&(x.Top.toList==q.Top.toList));rw[eq_of_beq U.1,eq_of_beq U.2]
def aDa(w:M.aD)(i:Int)(R:M.aD×Bool):Prop:=((CJ w=false\/G0 w i<0)/\R=(w,false))\/(CJ w=true/\∃k:Nat,k<w.aLf.length/\G0 w i=(k:Int)/\R=((⟨w.Now,w.aLt,w.aLZ,w.aC,w.aLf.take k++w.aLf.drop (k+1),w.aLd,YK w.aLk i,Tb w.aLe i,w.aLp,w.aLh⟩,true):M.aD×Bool))
theorem aAW{w:M.aD}{i:Int}(C:w.ok)(I:M.aD.sz w<=1500000):∃R:M.aD×Bool,Af w i=some R/\aDa w i R:=by
 have j:=I
 simp only[M.aD.sz]at j
 have J:w.aLk.aLk.length<=M.aT.sz w.aLk:=by simp only[M.aT.sz];omega
 have U:w.aLe.aL8.length<=M.aLe.sz w.aLe:=by simp only[M.aLe.sz];omega
 unfold Af
 rw[Bh w wi,qA,D3 C,qA,DM C I,qA]
 cases hn:CJ w with
 |false=>exact⟨(w,false),we,.inl ⟨.inl hn,rfl⟩⟩
 |true=>
  simp only[qB,qD,jG]
  by_cases h:G0 w i<0
  ·simp only[h,jb,jH];exact⟨(w,false),rfl,.inl ⟨.inr h,rfl⟩⟩
  ·obtain⟨k,e,hk⟩:=dM (show ¬kP (λp:M.bO=>p.Id==i) w.aLf<0 from h);simp only[h,jc,qD,jG];rw[show G0 w i=(k:Int)from e,FT wi,qA,bL wi,Oi wi,qA,qH,qH,dN (by simp only[qV,qW];omega),qA,KF wi wi,qA,N1 wi];simp only[qA];exact⟨(⟨w.Now,w.aLt,w.aLZ,w.aC,w.aLf.take k++w.aLf.drop (k+1),w.aLd,YK w.aLk i,Tb w.aLe i,w.aLp,w.aLh⟩,true),rfl,.inr ⟨hn,k,hk,e,rfl⟩⟩
theorem JY{α:Type}{f:α->Nat}{x:α}:∀{l:List α} {i:Nat} (h:i<l.length),dV f (l.set i x)+f l[i]=dV f l+f x
 |[],_,h=>absurd h we
 |y::l,0,_=>by simp only[List.set_cons_zero,dV,List.getElem_cons_zero];omega
 |y::l,i+1,h=>by have:=JY (f:=f) (x:=x) (l:=l) (i:=i) wN;simp only[List.set_cons_succ,dV,List.getElem_cons_succ];omega
def bkJ(x:M.Bucket):Prop:=x.aLa.size<=16/\x.Top.size<=16/\M.Bucket.ok x
def stG(m Z:Nat)(s:M.aC):Prop:=s.Buckets.length<=m/\(∀b∈s.Buckets,bkJ b)/\dV M.Bucket.sz s.Buckets<=Z
theorem stG.mono{m n Y Z:Nat}{s:M.aC}(h:stG m Y s)(h1:m<=n)(h2:Y<=Z):stG n Z s:=⟨qh h.1 h1,h.2.1,qh h.2.2 h2⟩
theorem stN.G{s:M.aC}(h:stN 4 s):stG 4 720000 s:=by
 have h1:=eU (w:=M.Bucket.sz) (b:=180000) (xs:=s.Buckets) λb hb=>(h.2 b hb).sz
 have h2:=h.1
 exact⟨h2,λb hb=>⟨(h.2 b hb).1,(h.2 b hb).2.1,(h.2 b hb).ok⟩,wi⟩
theorem stG.ok{m Z:Nat}{s:M.aC}(h:stG m Z s)(j:m<=1000):s.ok:=⟨⟨ml (by have:=h.1;omega),λb hb=>(h.2.1 b hb).2.2⟩⟩
theorem aCc{m Z c:Nat}{s:M.aC}{b:M.Bucket}(h:stG m Z s)(hb:bkJ b)(hc:M.Bucket.sz b<=c):stG (m+1) (Z+c) (IU s b).1:=by have C:=Le s b;have I:=V0 s b;obtain⟨h1,h2,h3⟩:=h;unfold IU Lh;split;(split;(refine⟨wI,λx j=> ?_,wI⟩;rcases Mc j with rfl|j;(exact hb);·exact h2 x j);·exact⟨by show s.Buckets.length<=_;omega,h2,jq⟩);·exact⟨by show s.Buckets.length<=_;omega,h2,jq⟩
theorem aCn{m Z c j:Nat}{s:M.aC}{b:M.Bucket}(h:stG m Z s)(hb:bkJ b)(J:j<s.Buckets.length)(e:kP (nAt b.aLa b.Top) s.Buckets=(j:Int))(hc:M.Bucket.sz b<=M.Bucket.sz s.Buckets[j]+c):stG m (Z+c) (IU s b).1:=by
 have I:Ek s b=s.Buckets.set j b:=by unfold Ek;rw[e,jE wi,qH]
 have U:=JY (f:=M.Bucket.sz) (x:=b) J
 obtain⟨h1,h2,h3⟩:=h
 unfold IU Lh
 rw[I]
 split
 ·split;(refine⟨by show(s.Buckets.set j b).length<=m;rw[qN];exact h1,λx C=> ?_,wI⟩;rcases jD C with C|rfl;(exact h2 x C);·exact hb);·exact⟨h1,h2,jq⟩
 ·exact⟨h1,h2,jq⟩
def wdG(m n Z:Nat)(w:M.aD):Prop:=inI w.Now/\inI w.aLZ/\stG m Z w.aC/\(w.aLf.length<=n/\∀p∈w.aLf,aAe p)/\inI w.aLd/\(w.aLk.aLk=[])/\(w.aLe.aL8=[])/\(w.aLp.length<=3/\(∀s∈w.aLp,M.aLa.ok s/\M.aLa.sz s<=100))/\(w.aLh.length<=3/\∀s∈w.aLh,Xr s)
theorem wdG.mono{m n Z I J j:Nat}{w:M.aD}(h:wdG m n Z w)(h1:m<=I)(h2:n<=J)(h3:Z<=j):wdG I J j w:=by obtain⟨U,a2,a3,C,a5⟩:=h;exact⟨U,a2,a3.mono h1 h3,⟨qh C.1 h2,C.2⟩,a5⟩
theorem wdG.ok{m n Z:Nat}{w:M.aD}(h:wdG m n Z w)(C:m<=1000)(I:n<=1000):M.aD.ok w:=by obtain⟨h1,h2,h3,h4,h5,h6,h7,h8,h9⟩:=h;exact⟨h1,h2,h3.ok C,⟨ml wi,λp j=>(h4.2 p j).1⟩,h5,⟨by rw[h6];simp[maxLen],by rw[h6];simp⟩,⟨by rw[h7];simp[maxLen],by rw[h7];simp⟩,⟨ml wi,λp j=>(h8.2 p j).1⟩,⟨ml wi,λp j=>(h9.2 p j).1⟩⟩
theorem wdG.sz{m n Z:Nat}{w:M.aD}(h:wdG m n Z w):M.aD.sz w<=m+Z+2001*n+90400:=by
 obtain⟨h1,h2,h3,h4,h5,h6,h7,h8,h9⟩:=h
 have j:=eU (w:=M.bO.sz) (b:=2000) (xs:=w.aLf) λb hb=>(h4.2 b hb).2
 have C:=eU (w:=M.aLa.sz) (b:=100) (xs:=w.aLp) λb hb=>(h8.2 b hb).2
 have I:=eU (w:=M.aLj.sz) (b:=30000) (xs:=w.aLh) λb hb=>(h9.2 b hb).2
 have J:=h3.1
 have b5:=h3.2.2
 have U:=h4.1
 have b3:=h8.1
 have b4:=h9.1
 simp only[M.aD.sz,M.aC.sz,M.aT.sz,M.aLe.sz,h6,h7,dV,qK]
 omega
def lit(m n Z:Nat):Prop:=m<=20/\n<=20/\Z<=800000
theorem wdG.ok'{m n Z:Nat}{w:M.aD}(h:wdG m n Z w)(j:lit m n Z):M.aD.ok w:=h.ok (by have:=j.1;omega) (by have:=j.2.1;omega)
theorem wdG.sz'{m n Z:Nat}{w:M.aD}(h:wdG m n Z w)(j:lit m n Z):M.aD.sz w<=1500000:=by have:=h.sz;have:=j.1;have:=j.2.1;have:=j.2.2;omega
theorem aE6{d:Int}:wdG 0 0 0 (Xj d):=by
 obtain⟨j,C,a3,I,J,U,a7,a8,a9⟩:=aDp (d:=d)
 have e:(Xj d).aC.Buckets=[]:=by unfold Xj;split<;>rfl
 exact⟨j,C,⟨by rw[e];simp,by rw[e];simp,by rw[e];simp[dV]⟩,I,J,U,a7,a8,a9⟩
theorem Ze{m n Z:Nat}{w:M.aD}{a t:ByteArray}{l:List M.aZ}(h:wdG m n Z w)(hm:lit m n Z)(ha:a.size<=16)(ht:t.size<=16)(hl:E5 l):∃R,yW w a t l=some R/\((wdG (m+1) (n+1) (Z+1100) R.1/\R.1.aLp=w.aLp/\R.1.aLh=w.aLh)/\(R=(w,0,false) \/∃B p,aCm w a t B/\Ub w B a t l p R)):=by
 have hsc:=S6 hl
 obtain⟨R,e1,hR⟩:=aC7 (h.ok' hm) (h.sz' hm) (a:=a) (b:=t) (l:=l) wi wi (Ph hl) wi
 refine⟨R,e1,?_,hR⟩
 rcases hR with rfl|⟨B,p,hB,hF⟩
 ·exact⟨h.mono wi wi wi,rfl,rfl⟩
 ·obtain⟨_,_,_,hat,e,_,_,pk,pz,_⟩:=hF
  obtain⟨J,a2,U,a4,a5,a6,a7,a8,a9⟩:=h
  have hst:stG (m+1) (Z+1100) (IU w.aC B).1:=by
   rcases hB with⟨j,hj,ej,rfl⟩|⟨d,hd,rfl⟩
   ·have C:=U.2.1 _ (qG hj);refine(aCn (c:=0) U (b:=aDt w w.aC.Buckets[j]) ⟨C.1,C.2.1,⟨C.2.2.aLa,C.2.2.Top,C.2.2.aLU,C.2.2.aLW,C.2.2.bP,C.2.2.aG,J⟩⟩ hj (by rw[<-hat];exact ej) (qg _)).mono wi wi
   ·have ok:=Vr (s16 ha) (s16 ht) hd
    have hs:(FW a t d).1.aLa.size<=16/\(FW a t d).1.Top.size<=16/\M.Bucket.sz (FW a t d).1<=1100:=by have:=aBS a t d;unfold FW;split;(split;(exact⟨ha,ht,by show M.Bucket.sz (LG a t d)<=1100;omega⟩);·exact⟨wh,wh,by show M.Bucket.sz DP<=1100;decide⟩);·exact⟨wh,wh,by show M.Bucket.sz DP<=1100;decide⟩
    exact aCc (c:=1100) U ⟨hs.1,hs.2.1,⟨ok.aLa,ok.Top,ok.aLU,ok.aLW,ok.bP,ok.aG,J⟩⟩ hs.2.2
  rw[e]
  refine⟨⟨J,a2,hst,⟨jv,λy I=> ?_⟩,bV _,a6,a7,a8,a9⟩,rfl,rfl⟩
  rcases qP.1 I with I|I
  ·exact a4.2 y I
  ·rw[qQ.1 I];exact⟨pk,wi⟩
theorem aAy{m n Z:Nat}{w:M.aD}{i:Int}(h:wdG m n Z w)(J:lit m n Z):∃R,Af w i=some R/\((wdG m n Z R.1/\R.1.aLp=w.aLp/\R.1.aLh=w.aLh)/\(((CJ w=false\/G0 w i<0)/\R=(w,false))\/(CJ w=true/\∃k:Nat,k<w.aLf.length/\G0 w i=(k:Int)/\R=((⟨w.Now,w.aLt,w.aLZ,w.aC,w.aLf.take k++w.aLf.drop (k+1),w.aLd,YK w.aLk i,Tb w.aLe i,w.aLp,w.aLh⟩,true):M.aD×Bool)))):=by obtain⟨R,e1,I⟩:=aAW (i:=i) (h.ok' J) (h.sz' J);refine⟨R,e1,?_,I⟩;rcases I with⟨_,rfl⟩|⟨_,k,hk,_,rfl⟩;(exact⟨h,rfl,rfl⟩);·obtain⟨U,a2,a3,C,a5,a6,a7,a8,a9⟩:=h;refine⟨⟨U,a2,a3,⟨by simp only[qE,qV,qW];omega,λy j=> ?_⟩,a5,?_,?_,a8,a9⟩,rfl,rfl⟩;(rcases qP.1 j with j|j;(exact C.2 y (qk j));·exact C.2 y (qv j));(show SE (w.aLk.aLk.filter _)=[];rw[a6];rfl);·show w.aLe.aL8.filter _=[];rw[a7];rfl
def wd3(m n Z:Nat)(w:M.aD):Prop:=wdG m n Z w/\w.aLp.length=3/\w.aLh.length=3
theorem wd3.mono{m n Z C I j:Nat}{w:M.aD}(h:wd3 m n Z w)(h1:m<=C)(h2:n<=I)(h3:Z<=j):wd3 C I j w:=⟨h.1.mono h1 h2 h3,h.2⟩
theorem wd3.to{m n Z I J C:Nat}{w v:M.aD}(h:wd3 m n Z w)(j:wdG I J C v/\v.aLp=w.aLp/\v.aLh=w.aLh):wd3 I J C v:=⟨j.1,by rw[j.2.1];exact h.2.1,by rw[j.2.2];exact h.2.2⟩
theorem aBZ(k:Nat)(h:k<=1000):i64.wrap (((k+1:Nat):Int)-1)=(k:Int):=by rw[mO wi wi];omega
theorem Tw{b:List Int}{i h:Int}(hc:okC b i h):Dr b (λs=>s.size<=16) (CA (⟨b,i,h⟩:M.bI)):=by unfold CA;exact .bnd (Fo (λs=>s.size<=16) wh wh hc) λi1 J I j C=>.ret j C
theorem Xa{b:List Int}{i h:Int}(c0:okC b i h):Dr b (wd3 4 4 4400) (CO (⟨b,i,h⟩:M.bI)):=by
 unfold CO
 refine .bnd (bA c0) λi1 v1 r1 c1 q1=> ?_
 have hr:=q1.2.1 wi
 have hr0:=q1.1
 dsimp only
 rw[O8,qA,mO wi wi]
 have hN:(Xj (1+r1)).aLp.length=3/\(Xj (1+r1)).aLh.length=3:=by unfold Xj;rw[jE wi];exact⟨rfl,rfl⟩
 have hw0:wd3 0 0 0 (Xj (1+r1)):=⟨aE6,hN⟩
 generalize Xj (1+r1)=w0 at hw0
 refine .bnd (bA c1) λi2 v2 r2 c2 q2=> ?_
 obtain⟨N,rfl⟩:=Dw q2.1
 have hN4:=q2.2.1 wi
 have key:∀(n k:Nat) (w:M.aD) (ci ch:Int),k<n->k<=4->okC b ci ch->wd3 (4-k) (4-k) (1100*(4-k)) w->Dr b (wd3 4 4 4400) (gY (⟨b,i,h⟩:M.bI) n (k:Int) w.Now w.aLt w.aLZ w.aLd ci ch w.aC.Buckets w.aLf w.aLk.aLk w.aLe.aL8 w.aLp w.aLh):=by
  intro n
  induction n with
  |zero=>intro k w ci ch h _ _ _;omega
  |succ n ih=>
   intro k w ci ch hn hk hc C
   simp only[gY]
   cases k with
   |zero=>
    rw[jF we]
    exact .ret hc (C.mono wi wi wi)
   |succ k=>
    have hlit:lit (4-(k+1)) (4-(k+1)) (1100*(4-(k+1))):=⟨wi,wi,wi⟩
    have up:∀{v:M.aD},wd3 (4-(k+1)) (4-(k+1)) (1100*(4-(k+1))) v->wd3 (4-k) (4-k) (1100*(4-k)) v:=λhv=>hv.mono wi wi wi
    have up2:∀{v:M.aD},wd3 (4-(k+1)+1) (4-(k+1)+1) (1100*(4-(k+1))+1100) v->wd3 (4-k) (4-k) (1100*(4-k)) v:=λhv=>hv.mono wi wi wi
    rw[jE (decide_eq_true wi),aBZ k wi]
    refine .bnd (bA hc) λi3 v3 r3 c3 q3=> ?_
    dsimp only
    split
    ·refine .bnd (bA c3) λi4 v4 r4 J I=>.J9 (aAy (w:=w) C.1 hlit) λR hR=> ?_
     exact ih k R.1 i4 v4 wi wi J (up (C.to hR.1))
    split
    ·refine .bnd (bA c3) λi4 v4 r4 J I=> ?_
     obtain⟨⟨a1,a2⟩,a3⟩:=C
     exact ih k (⟨i64.wrap (w.Now+r4),w.aLt,w.aLZ,w.aC,w.aLf,w.aLd,w.aLk,w.aLe,w.aLp,w.aLh⟩:M.aD) i4 v4 wi wi J (up ⟨⟨bV _,a2⟩,a3⟩)
    split
    ·refine .bnd (bA c3) λi4 v4 r4 J I=>.bnd (bA J) λi5 v5 r5 c5 q5=> ?_
     obtain⟨⟨a1,a2,a3,a4,a5,a6,a7,a8,a9⟩,aa,ae⟩:=C
     obtain⟨j,rfl⟩:=Dw I.1
     have hj:=I.2.1 wi
     have hj':j<w.aLp.length:=by omega
     dsimp only
     rw[aM hj',qA,qH]
     have hs:=a8.2 _ (qG hj')
     refine ih k (⟨w.Now,w.aLt,w.aLZ,w.aC,w.aLf,w.aLd,w.aLk,w.aLe,w.aLp.set j (⟨w.aLp[j].Name,i64.wrap (1+r5),w.aLp[j].aL4,w.aLp[j].aL9⟩:M.aLa),w.aLh⟩:M.aD) i5 v5 wi wi c5 (up ⟨⟨a1,a2,a3,a4,a5,a6,a7,⟨by rw[qN];exact a8.1,λs U=> ?_⟩,a9⟩,by rw[qN];exact aa,ae⟩)
     rcases jD U with U|rfl
     ·exact a8.2 s U
     ·exact⟨⟨hs.1.Name,bV _,hs.1.aL4⟩,hs.2⟩
    ·refine .bnd (Tw c3) λi4 v4 r4 J I=>.bnd (CG J) λi5 v5 r5 c5 q5=> ?_
     dsimp only
     split
     ·refine .bnd (Tw c5) λi6 v6 r6 c6 q6=>.bnd (Kx c6) λi7 v7 r7 c7 q7=>.J9 (Ze (w:=w) C.1 hlit I q6 q7) λR hR=> ?_
      exact ih k R.1 i7 v7 wi wi c7 (up2 (C.to hR.1))
     ·refine .bnd (Kx c5) λi7 v7 r7 c7 q7=>.J9 (Ze (w:=w) C.1 hlit I I q7) λR hR=> ?_
      exact ih k R.1 i7 v7 wi wi c7 (up2 (C.to hR.1))
 exact key aH N w0 i2 v2 (nN wi) wi c2 (hw0.mono wi wi wi)
def JX(n:Int):M.bD:=(⟨1,n,(⟨#[]⟩:ByteArray)⟩:M.bD)
def Pj:ByteArray:=(⟨#[110,111,116,101,115]⟩:ByteArray)
def Kf(d:M.aLS)(n:Int):M.aF:=match d.aLc[(kP (C6 Pj) d.aLc).toNat]? with
 |some s=>if kP (C6 Pj) d.aLc<0 then(⟨([]:List M.aR)⟩:M.aF)else gP s (JX n)
 |none=>(⟨([]:List M.aR)⟩:M.aF)
theorem RN{d:M.aLS}{n:Int}(j:d.ok):(Kf d n).ok:=by unfold Kf;split;(rename_i s C;split;(exact Ji);·exact Gx (j.aLc.2 _ (jC C)));·exact Ji
theorem ZJ{d:M.aLS}{n:Int}(C:M.aLS.sz d<=1500000):M.aF.sz (Kf d n)<=1500000:=by unfold Kf;split;(rename_i s j;split;(simp[M.aF.sz,dV]);·exact qh (IZ s _) (Of C _ (jC j)));·simp[M.aF.sz,dV]
def Ps(d:M.aLS):Bool:=decide (0<=kP (C6 Pj) d.aLc)
theorem aDq{s:M.aE}(k:M.bD):M.aF.sz (gP s k)<=M.aE.sz s:=IZ s k
theorem IF{b:M.Bucket}{n:Int}(hb:b.bP.ok)(U:M.bP.sz b.bP<=1500000):Ax b n=some (Kf (F6 b.bP).1 n,Ps (F6 b.bP).1):=by
 obtain⟨J,v2⟩:=Gu hb U
 unfold Ax Kf
 rw[JR hb U,qA]
 generalize (F6 b.bP).1=d at J v2⊢
 show((nF d Pj).bind _)=_
 rw[D4 J,qA]
 by_cases hf:kP (C6 Pj) d.aLc<0
 ·have I:Ps d=false:=by unfold Ps;rw[decide_eq_false_iff_not];omega
  rw[jE (by simpa using hf),I]
  split
  ·rw[jE hf]
  ·rfl
 ·obtain⟨j,e,C⟩:=dM hf
  have hs:=J.aLc.2 _ (qG C)
  have zs:=Of v2 _ (qG C)
  have I:Ps d=true:=by unfold Ps;rw[qL];omega
  rw[I,jF (by simpa using hf),e,qH,qF C]
  simp only[show ¬((j:Nat):Int)<0 from by omega,jG]
  rw[aM C,qA]
  unfold AP
  rw[qA]
  show((kY d.aLc[j] (JX n)).bind _)=_
  rw[BW hs,qA]
  by_cases hi:kP (zK (JX n)) d.aLc[j].aLV<0
  ·rw[jE (by simpa using hi),Lg hi]
  ·obtain⟨x,e1,e2⟩:=Ii hi;have:=aDq (s:=d.aLc[j]) (JX n);rw[jF (by simpa using hi),e1,qA,e2,Dm _ wi,qA]
theorem LJ{d:M.aLS}{n:Int}(J:d.ok):∃g,Dn d n=some (Kf d n,g,Ps d):=by
 unfold Dn Kf
 show ∃g,((rT d Pj).bind _)=_
 rw[FP J,qA]
 by_cases hf:kP (C6 Pj) d.aLc<0
 ·have C:Ps d=false:=by unfold Ps;rw[decide_eq_false_iff_not];omega
  rw[jE (by simpa using hf),C]
  split
  ·rw[jE hf];exact⟨_,rfl⟩
  ·exact⟨_,rfl⟩
 ·obtain⟨j,e,I⟩:=dM hf
  have U:=J.aLc.2 _ (qG I)
  have C:Ps d=true:=by unfold Ps;rw[qL];omega
  rw[C,jF (by simpa using hf),e,qH,qF I]
  simp only[show ¬((j:Nat):Int)<0 from by omega,jG]
  rw[aM I,qA]
  unfold rV
  rw[qA]
  show ∃g,((mW d.aLc[j] (JX n)).bind _)=_
  rw[CZ U,qA]
  by_cases hi:kP (zK (JX n)) d.aLc[j].aLV<0
  ·rw[jE (by simpa using hi),Lg hi];exact⟨_,rfl⟩
  ·obtain⟨x,e1,e2⟩:=Ii hi;rw[jF (by simpa using hi),e1,qA,e2];exact⟨_,rfl⟩
def WJ(w:M.aD)(p:M.bO)(n:Int)(f:ByteArray):Int:=match w.aC.Buckets[(kP (nAt p.aLa p.Top) w.aC.Buckets).toNat]? with
 |some b=>if kP (nAt p.aLa p.Top) w.aC.Buckets<0 then -1 else if(eS (Kf (F6 b.bP).1 n) f).2=true then if 1000<(eS (Kf (F6 b.bP).1 n) f).1 then 1000 else(eS (Kf (F6 b.bP).1 n) f).1 else -1
 |none=> -1
theorem Za{w:M.aD}(j:M.aD.sz w<=1500000){b:M.Bucket}(hb:b∈w.aC.Buckets):M.bP.sz b.bP<=1500000:=by
 have:=eA (f:=M.Bucket.sz) hb
 have h2:M.bP.sz b.bP<=M.Bucket.sz b:=by simp only[M.Bucket.sz];omega
 simp only[M.aD.sz,M.aC.sz]at j
 omega
theorem OU{w:M.aD}{p:M.bO}{n:Int}{f:ByteArray}(I:w.ok)(U:M.aD.sz w<=1500000):Bw w p n f=some (WJ w p n f):=by
 unfold Bw WJ
 rw[oH I.aC,qA]
 by_cases hf:kP (nAt p.aLa p.Top) w.aC.Buckets<0
 ·rw[jE (by simpa using hf)];split;(rw[jE hf]);·rfl
 ·obtain⟨j,e,C⟩:=dM hf
  have hb:=I.aC.Buckets.2 _ (qG C)
  have J:=Za U (qG C)
  rw[jF (by simpa using hf),e,qH,qF C]
  simp only[show ¬((j:Nat):Int)<0 from by omega,jG]
  rw[aM C,qA,IF (n:=n) hb.bP J,qA,uH (RN (Gu hb.bP J).1),qA]
  cases (eS (Kf (F6 w.aC.Buckets[j].bP).1 n) f).2 with
  |false=>rfl
  |true=>
   rw[jF we,jE rfl]
   unfold fN
   generalize (eS (Kf (F6 w.aC.Buckets[j].bP).1 n) f).1=v
   by_cases hv:v<1000
   ·rw[jE (by simpa using hv),qA,jF wi]
   ·rw[jF (by simpa using hv),qA];by_cases h2:1000<v;(rw[jE h2]);·rw[jF h2,show v=1000 from by omega]
theorem O3{w:M.aD}{p:M.bO}{n:Int}{f:ByteArray}(J:w.ok)(hz:M.aD.sz w<=1500000):C7 w p n f=some (WJ w p n f):=by unfold C7 mX WJ;rw[yT J.aC,qA];by_cases hf:kP (nAt p.aLa p.Top) w.aC.Buckets<0;(rw[jE (by simpa using hf),qA];simp only[qC,jH];split;(rw[jE hf]);·rfl);·obtain⟨j,e,C⟩:=dM hf;have hb:=J.aC.Buckets.2 _ (qG C);have I:=Za hz (qG C);rw[jF (by simpa using hf),e,qH,qF C];simp only[show ¬((j:Nat):Int)<0 from by omega,jG];obtain⟨g,U⟩:=LJ (n:=n) (Gu hb.bP I).1;rw[aM C,qA,qA,jF we,GU hb.bP I,qA,U,qA,nD (RN (Gu hb.bP I).1),qA];cases (eS (Kf (F6 w.aC.Buckets[j].bP).1 n) f).2<;>rfl
theorem Zn{b o:M.Bucket}(j:M.Bucket.sz b<=1500000)(C:M.aLS.sz o.bP.aLq<=1500000):M.aLS.sz (OR b o).1.bP.aLq<=1500000:=by unfold OR;split;(split;(exact C);·exact BG j);·exact BG j
def K9(w:M.aD)(b:M.Bucket)(ok:Bool):M.aD×Bool:=if ok=true then if(IU w.aC b).2=true then({ w with aC:=(IU w.aC b).1 },true)else(w,false)else(w,false)
theorem Wb{w:M.aD}{b:M.Bucket}{ok:Bool}(j:w.ok)(hb:b.ok)(C:M.aD.sz w<=1500000):M.aD.ok (K9 w b ok).1:=by have h:=TS j.aC hb (Ep C);unfold K9;split;(split;(exact⟨j.Now,j.aLZ,h,j.aLf,j.aLd,j.aLk,j.aLe,j.aLp,j.aLh⟩);·exact j);·exact j
theorem Gd{w:M.aD}{b:M.Bucket}{ok:Bool}(j:w.ok)(hb:b.ok)(C:M.aD.sz w<=1500000)(J:M.Bucket.sz b<=1073741824)(I:M.aLS.sz b.bP.aLq<=1500000):uB w b ok=some (K9 w b ok):=by unfold uB K9;rw[Bh w wi,qA,E7 j.aC hb (Ep C) J I,qA];cases ok;(simp);·cases (IU w.aC b).2<;>simp
theorem OL(w:M.aD)(b:M.Bucket)(ok:Bool):(K9 w b ok).1.aLf=w.aLf:=by unfold K9;split;(split<;>rfl);·rfl
def NW(w:M.aD)(p:M.bO)(v:M.aD):Prop:=v.aLp=w.aLp/\v.aLh=w.aLh/\∀(i:Nat) (b:M.Bucket),w.aC.Buckets[i]? =some b->nAt p.aLa p.Top b=false->v.aC.Buckets[i]? =some b
theorem NW.refl(w:M.aD)(p:M.bO):NW w p w:=⟨rfl,rfl,λ_ _ h _=>h⟩
theorem VP{w:M.aD}{b:M.Bucket}{j:Nat}{a t:ByteArray}(e:kP (nAt a t) w.aC.Buckets=(j:Int))(I:j<w.aC.Buckets.length)(h1:b.aLa=w.aC.Buckets[j].aLa)(h2:b.Top=w.aC.Buckets[j].Top):Ek w.aC b=w.aC.Buckets.set j b:=by
 obtain⟨_,C⟩:=CC e
 have e2:nAt b.aLa b.Top=nAt a t:=by funext x;unfold nAt at C⊢;rw[qM]at C;rw[h1,h2,eq_of_beq C.1,eq_of_beq C.2]
 unfold Ek
 rw[e2,e,jE wi,qH]
theorem QO{w:M.aD}{b:M.Bucket}{ok:Bool}{j:Nat}{p:M.bO}(e:kP (nAt p.aLa p.Top) w.aC.Buckets=(j:Int))(U:j<w.aC.Buckets.length)(h1:b.aLa=w.aC.Buckets[j].aLa)(h2:b.Top=w.aC.Buckets[j].Top):NW w p (K9 w b ok).1:=by
 have eL:=VP e U h1 h2
 obtain⟨_,J⟩:=CC e
 have key:∀(i:Nat) (c:M.Bucket),w.aC.Buckets[i]? =some c->nAt p.aLa p.Top c=false->(w.aC.Buckets.set j b)[i]? =some c:=λi c C hc=>by
  have I:j≠i:=λh=>by subst h;rw[qF U]at C;rw[qd C,hc]at J;cases J
  rw[List.getElem?_set_ne I]
  exact C
 unfold K9
 split
 ·split;(refine⟨rfl,rfl,?_⟩;show ∀(i:Nat) (c:M.Bucket),w.aC.Buckets[i]? =some c->nAt p.aLa p.Top c=false->(IU w.aC b).1.Buckets[i]? =some c;unfold IU Lh;rw[eL];split;(split;(exact key);·exact λ_ _ h _=>h);·exact λ_ _ h _=>h);·exact NW.refl w p
 ·exact NW.refl w p
def Zy(w:M.aD)(i:Int)(R:M.aD×Int):Prop:=(R.2<0->R.1=w)/\R.1.aLp=w.aLp/\R.1.aLh=w.aLh/\∀(k:Nat) (p:M.bO),G0 w i=(k:Int)->w.aLf[k]? =some p->NW w p R.1
theorem Zy.refl(w:M.aD)(i c:Int):Zy w i (w,c):=⟨λ_=>rfl,rfl,rfl,λ_ p _ _=>NW.refl w p⟩
theorem Zy.mk{w v:M.aD}{i c:Int}{k:Nat}{p:M.bO}{l:List M.bO}(hc:0<=c)(e:G0 w i=(k:Int))(I:w.aLf[k]? =some p)(h:NW w p v):Zy w i ((⟨v.Now,v.aLt,v.aLZ,v.aC,l,v.aLd,v.aLk,v.aLe,v.aLp,v.aLh⟩:M.aD),c):=⟨λC=>absurd (show c<0 from C) wi,h.1,h.2.1,λJ p' U j=>by
 have:J=k:=by omega
 subst this
 rw[I]at j
 cases j
 exact h⟩
theorem Qs{w:M.aD}{b:M.Bucket}{ok:Bool}{c j:Nat}{a t:ByteArray}(e:kP (nAt a t) w.aC.Buckets=(j:Int))(C:j<w.aC.Buckets.length)(h1:b.aLa=w.aC.Buckets[j].aLa)(h2:b.Top=w.aC.Buckets[j].Top)(U:M.Bucket.sz b<=M.Bucket.sz w.aC.Buckets[j]+c):M.aD.sz (K9 w b ok).1<=M.aD.sz w+c:=by
 have I:=VP e C h1 h2
 have J:=JY (f:=M.Bucket.sz) (x:=b) C
 have key:M.aC.sz (IU w.aC b).1<=M.aC.sz w.aC+c:=by unfold IU Lh;rw[I];split;(split;(simp only[M.aC.sz,qN];omega);·exact jT _ _);·exact jT _ _
 unfold K9
 split
 ·split;(simp only[M.aD.sz];omega);·exact jT _ _
 ·exact jT _ _
theorem Sb{b o:M.Bucket}{c:Nat}(h1:o.aLa=b.aLa)(h2:o.Top=b.Top)(j:M.Bucket.sz o<=M.Bucket.sz b+c):(OR b o).1.aLa=b.aLa/\(OR b o).1.Top=b.Top/\M.Bucket.sz (OR b o).1<=M.Bucket.sz b+c:=by unfold OR;split;(split;(exact⟨h1,h2,j⟩);·exact⟨rfl,rfl,jT _ _⟩);·exact⟨rfl,rfl,jT _ _⟩
theorem WY{w:M.aD}{p:M.bO}{n v:Int}{f:ByteArray}(J:w.ok)(hn:inI n)(hv:inI v)(hf:f.size<=1500000)(hz:M.aD.sz w<=1500000):∃R:M.aD×Bool,Bm w p n f v=some R/\CL w p n f v=some R/\R.1.ok/\M.aD.sz R.1<=M.aD.sz w+(f.size+1)/\R.1.aLf=w.aLf/\NW w p R.1:=by
 have hz':=hz
 simp only[M.aD.sz,M.aC.sz]at hz'
 have U:f.size<=maxLen:=by unfold maxLen;omega
 unfold Bm CL mX rV AP
 rw[oH J.aC,yT J.aC,Ay w wi,Bh w wi]
 simp only[qA]
 by_cases h:kP (nAt p.aLa p.Top) w.aC.Buckets<0
 ·simp only[h,jb,jH,qA];exact⟨(w,false),rfl,we,J,jT _ _,rfl,NW.refl w p⟩
 ·obtain⟨j,ej,hj⟩:=dM h
  simp only[h,jc,qD,jG]
  rw[ej,aM hj]
  simp only[qA,qB,qD,jG]
  have hb:=J.aC.Buckets.2 _ (qG hj)
  have z1:=eA (f:=M.Bucket.sz) (qG hj)
  have CI:=λ(b:M.Bucket) (ok:Bool)=>QO (w:=w) (b:=b) (ok:=ok) (p:=p) ej hj
  have grow:=λ(b:M.Bucket) (ok:Bool) (c:Nat)=>Qs (w:=w) (b:=b) (ok:=ok) (c:=c) ej hj
  generalize w.aC.Buckets[j]=q at hb z1 grow CI
  have z2:M.aG.sz q.aG<=M.Bucket.sz q:=by simp only[M.Bucket.sz];omega
  have z3:q.aG.aLs.aN.aLl.length<=M.aG.sz q.aG:=by simp only[M.aG.sz,M.aLs.sz,M.aN.sz];omega
  have hk:M.bD.ok (⟨1,n,(⟨#[]⟩:ByteArray)⟩:M.bD):=⟨wK,hn,by simp[maxLen,ByteArray.size]⟩
  rw[HT hb.aG wi hk U hv,Mn hb.aG wi hk U hv]
  have C:=aDb (n:=v) hb.aG wi hk U hv
  have sz1:=aDz q.aG (⟨1,n,(⟨#[]⟩:ByteArray)⟩:M.bD) f v
  generalize nWL q.aG (⟨1,n,(⟨#[]⟩:ByteArray)⟩:M.bD) f v=T at C sz1
  obtain⟨r,c⟩:=T
  have hk0:(⟨#[]⟩:ByteArray).size=0:=rfl
  simp only[hk0]at C sz1
  simp only[qA]
  have zo:M.aLS.sz (fR q r).bP.aLq<=1500000:=BG (b:=q) wi
  have zr:=GS q r
  have zc:=ZD q (fR q r)
  have zd:=Zn (b:=q) (o:=fR q r) wi zo
  have I:=YW hb (Gy hb C)
  rw[JT hb C wi wi zo,JM hb C wi wi zo]
  simp only[qA]
  have yg:=Sb (b:=q) (o:=fR q r) (c:=f.size+1) rfl rfl (by simp only[fR,M.Bucket.sz];omega)
  generalize OR q (fR q r)=Y at zc I zd yg
  rw[Gd J I hz wi zd,Gd J I hz wi zd,HR J.aC I (Ep hz) wi zd]
  simp only[qA]
  have ok4:=Wb (ok:=c&&Y.2) J I hz
  have sz4:=grow Y.1 (c&&Y.2) (f.size+1) yg.1 yg.2.1 yg.2.2
  refine⟨K9 w Y.1 (c&&Y.2),?_,?_,ok4,sz4,OL _ _ _,CI Y.1 (c&&Y.2) yg.1 yg.2.1⟩
  ·cases c<;>simp
  ·unfold K9;cases c;(simp);·cases Y.2;(simp);·cases (IU w.aC Y.1).2<;>simp
theorem Uz{w:M.aD}{p:M.bO}{n v:Int}{f:ByteArray}(J:w.ok)(hn:inI n)(hv:inI v)(hf:f.size<=1500000)(hz:M.aD.sz w<=1500000):∃R:M.aD×Bool,Ad w p n f v=some R/\Cb w p n f v=some R/\R.1.ok/\M.aD.sz R.1<=M.aD.sz w+(4000)/\R.1.aLf=w.aLf/\NW w p R.1:=by
 have hz':=hz
 simp only[M.aD.sz,M.aC.sz]at hz'
 have U:f.size<=maxLen:=by unfold maxLen;omega
 unfold Ad Cb mX rV AP
 rw[oH J.aC,yT J.aC,Ay w wi,Bh w wi]
 simp only[qA]
 by_cases h:kP (nAt p.aLa p.Top) w.aC.Buckets<0
 ·simp only[h,jb,jH,qA];exact⟨(w,false),rfl,we,J,jT _ _,rfl,NW.refl w p⟩
 ·obtain⟨j,ej,hj⟩:=dM h
  simp only[h,jc,qD,jG]
  rw[ej,aM hj]
  simp only[qA,qB,qD,jG]
  have hb:=J.aC.Buckets.2 _ (qG hj)
  have z1:=eA (f:=M.Bucket.sz) (qG hj)
  have CI:=λ(b:M.Bucket) (ok:Bool)=>QO (w:=w) (b:=b) (ok:=ok) (p:=p) ej hj
  have grow:=λ(b:M.Bucket) (ok:Bool) (c:Nat)=>Qs (w:=w) (b:=b) (ok:=ok) (c:=c) ej hj
  generalize w.aC.Buckets[j]=q at hb z1 grow CI
  have z2:M.bP.sz q.bP<=M.Bucket.sz q:=by simp only[M.Bucket.sz];omega
  obtain⟨v1,v2⟩:=Gu hb.bP wi
  obtain⟨g,eg⟩:=LJ (n:=n) v1
  have nk:=RN (n:=n) v1
  have nz:=ZJ (n:=n) v2
  have nl:(Kf (F6 q.bP).1 n).aLY.length<=1500000:=by simp only[M.aF.sz]at nz;omega
  rw[IF hb.bP wi,GU hb.bP wi]
  simp only[qA]
  rw[eg]
  simp only[qA]
  rw[CR nk wi U hv,EG nk wi U hv]
  simp only[qA]
  have ok0:=Mq nk wi U hv
  generalize JO (Kf (F6 q.bP).1 n) f v=S at ok0
  obtain⟨r,c0⟩:=S
  have ho:∀o∈[(⟨1,(⟨#[110,111,116,101,115]⟩:ByteArray),(⟨1,n,(⟨#[]⟩:ByteArray)⟩:M.bD),r,(⟨#[]⟩:ByteArray)⟩:M.gN)],Kn o:=λo hx=>by rw[qQ.1 hx];exact⟨by show inI 1;unfold inI;omega,(by show(⟨#[110,111,116,101,115]⟩:ByteArray).size<=maxLen;exact UT _ wh),⟨by show inI 1;unfold inI;omega,hn,sz0⟩,ok0,sz0⟩
  rw[HO hb.bP wi we ho,MJ hb.bP wi we ho]
  obtain⟨C,sz1,eb⟩:=Mo (l:=[(⟨1,(⟨#[110,111,116,101,115]⟩:ByteArray),(⟨1,n,(⟨#[]⟩:ByteArray)⟩:M.bD),r,(⟨#[]⟩:ByteArray)⟩:M.gN)]) hb.bP
  generalize Ih q.bP [(⟨1,(⟨#[110,111,116,101,115]⟩:ByteArray),(⟨1,n,(⟨#[]⟩:ByteArray)⟩:M.bD),r,(⟨#[]⟩:ByteArray)⟩:M.gN)]=T at C sz1 eb
  obtain⟨k,c⟩:=T
  dsimp only at C sz1 eb
  simp only[qA]
  have zo:M.aLS.sz (sN q k).bP.aLq<=1500000:=by show M.aLS.sz k.aLq<=_;rw[eb];exact BG (b:=q) wi
  have zr:=Jo q k
  have zc:=ZD q (sN q k)
  have zd:=Zn (b:=q) (o:=sN q k) wi zo
  have I:=YW hb (Jl hb C)
  rw[LL hb C wi wi zo,Lp hb C wi wi zo]
  simp only[qA]
  have yg:=Sb (b:=q) (o:=sN q k) (c:=4000) rfl rfl (by simp only[sN,M.Bucket.sz];omega)
  generalize OR q (sN q k)=Y at zc I zd yg
  rw[Gd J I hz wi zd,Gd J I hz wi zd,HR J.aC I (Ep hz) wi zd]
  simp only[qA]
  generalize Ps (F6 q.bP).1=c1
  have ok4:=Wb (ok:=c1&&(c0&&(c&&Y.2))) J I hz
  have sz4:=grow Y.1 (c1&&(c0&&(c&&Y.2))) (4000) yg.1 yg.2.1 yg.2.2
  refine⟨K9 w Y.1 (c1&&(c0&&(c&&Y.2))),?_,?_,ok4,sz4,OL _ _ _,CI Y.1 (c1&&(c0&&(c&&Y.2))) yg.1 yg.2.1⟩
  ·cases c1<;>cases c0<;>cases c<;>simp
  ·unfold K9;cases c1;(simp);cases c0;(simp);cases c;(simp);·cases Y.2;(simp);·cases (IU w.aC Y.1).2<;>simp
theorem ZU{k r n m:Int}{t:ByteArray}(j:t.size<=maxLen)(h:Nx (⟨k,r,n,t⟩:M.aZ) m=true):inR k 1 9=true/\inR r 0 3=true/\(k=2->inR n 0 3=true)/\(k=5\/k=6\/k=7\/k=8->t.size<=8):=by
 unfold Nx yC at h
 simp only[bY,dG j,qA]at h
 cases hk:inR k 1 9 with
 |false=>
  rw[hk]at h
  exact absurd h we
 |true=>
  rw[hk]at h
  cases hr:inR r 0 3 with
  |false=>
   rw[hr]at h
   exact absurd h we
  |true=>
   rw[hr]at h
   refine⟨rfl,rfl,λh2=> ?_,λh2=> ?_⟩
   ·subst h2;simp+decide only[jH,jG,qA,aDT,qB]at h;revert h;cases inR n 0 3<;>cases (t.toList==(⟨#[]⟩:ByteArray).toList)<;>simp
   ·cases j:pS t with
    |true=>
     unfold pS inR at j
     simp only[qM,qL]at j
     omega
    |false=>
     rw[j]at h
     rcases h2 with rfl|rfl|rfl|rfl<;>exact absurd h (by simp+decide [aDT])
def aBn(v:Int):Int:=if(if v<1000 then v else 1000)>(-1)then if v<1000 then v else 1000 else -1
theorem aC1(v:Int): -1<=aBn v/\aBn v<=1000:=by unfold aBn;split<;>split at* <;>omega
theorem PA(v:Int):BN v=some (aBn v):=rfl
theorem NL(v:Int):xF v=some (aBn v):=by unfold xF fN AA aBn;by_cases h:v<1000;(simp only[h,jb,jH,qA];by_cases h2:v> -1;(simp only[h2,jb,jH,qA]);·simp only[h2,jc,qD,jG,qA]);·simp only[h,jc,qD,jG,qA];rfl
def ZB(m:M.aLX)(R:M.aLX×M.Ask):Prop:=R.1.aLz=m.aLz/\R.1.aMC.length=m.aMC.length/\(∀y∈R.1.aMC,inI y)/\inI R.1.Pc/\inI R.1.aME/\(0<=R.2.aLn/\R.2.aLn<=4)/\inI R.2.N/\inI R.2.Value/\R.2.aLu.size<=8/\(R.2.aLn=0->dO R.1=some (R.1,(⟨0,0,0,(⟨#[]⟩:ByteArray),0⟩:M.Ask)))
theorem Y3{r:List Int}{v:Int}{j:Nat}(C:∀y∈r,inI y)(I:inI v):∀y∈r.set j v,inI y:=λy J=>by rcases jD J with h|rfl;(exact C y h);·exact I
