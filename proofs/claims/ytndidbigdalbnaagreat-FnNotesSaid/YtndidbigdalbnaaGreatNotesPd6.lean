/-
  Helper text. No conditions.
-/
import Derived.Test.YtndidbigdalbnaaGreatNotesPd5
set_option linter.all false
namespace Go.Proofs.YtndidbigdalbnaaGreat.gen
open Go Go.Sh
open Go.IntKind (i64)
theorem GA{s:M.aD}{g:M.fY}(C:s.ok)(hl:g.Low.ok)(U:g.aLW.ok)(I:M.aD.sz s<=1500000):uM s g=some (MD s g):=by
 have hn:s.aKg.length<=1500000:=by simp only[M.aD.sz]at I;omega
 have key:∀(n k:Nat) (r:List M.aKy),s.aKg.length-k<n->k<=s.aKg.length->r=(s.aKg.take k).filter (λx=> !yI x.Key g)->kL s g n k r=some (⟨s.Name,s.aKg.filter (λx=> !yI x.Key g),s.aK7⟩,i64.wrap (s.aKg.length-(List.length (s.aKg.filter (λx=> !yI x.Key g))))):=by
  intro n
  induction n with
  |zero=>simp
  |succ n J=>
   intro k r hk hle j
   simp only[kL]
   rcases jS k s.aKg.length with hlt|hge
   ·have hx:=C.aKg.2 _ (qG hlt)
    have hrl:r.length<=1500000:=by rw[j];refine qh (List.length_filter_le _ _) ?_;rw[qV];omega
    rw[jF (bE hlt),aK hlt,qA,Nq hx.Key hl U,qA]
    cases hq:yI s.aKg[k].Key g with
    |true=>
     rw[jG wb,bM wg]
     refine J (k+1) r wg hlt ?_
     rw[OG hlt,hq,<-j]
     simp
    |false=>
     rw[jF wb,H3 _ (qh (aAn I (qG hlt)) wg),qA,dK jz,qA,bM wg]
     refine J (k+1) _ wg hlt ?_
     rw[OG hlt,hq,<-j]
     simp
   ·have e:k=s.aKg.length:=by omega
    subst e
    rw[jG wb,j,List.take_length]
 unfold uM MD
 rw[B2 C,qA,pM s wg]
 cases iM s with
 |false=>rfl
 |true=>
  rw[jG wb,jF rfl]
  exact key aJ 0 [] wG wg wb
theorem GB{s:M.aD}{g:M.fY}(hs:s.ok)(hl:g.Low.ok)(hh:g.aLW.ok)(hz:M.aD.sz s<=1500000):tT s g=some (MD s g):=by
 have hn:s.aKg.length<=1500000:=by simp only[M.aD.sz]at hz;omega
 have hp:∀x∈s.aKg,lS x g=some (yI x.Key g):=λx C=>by unfold lS;rw[Nn (hs.aKg.2 x C).Key hl hh,qA]
 unfold tT MD
 rw[kZ s wg,qA,BR hs,qA]
 cases iM s with
 |false=>rfl
 |true=>
  rw[jG wb,jF rfl,Ih (f:=λx=>yI x.Key g) hs.aKg.1 hp,qA]
  unfold gJ
  cases hf:s.aKg.findIdx? (λx=>yI x.Key g)with
  |none=>
   rw[jF wb]
   rw[List.findIdx?_eq_none_iff]at hf
   rw[List.filter_eq_self.2 (λx C=>by simp[hf x C])]
  |some k=>
   obtain⟨hk,hqk,U⟩:=List.findIdx?_eq_some_iff_getElem.1 hf
   simp only[qD]
   rw[bM wg]
   refine Q0 (xs:=s.aKg) (q:=λx=>yI x.Key g) (L:=eY s g s) (E:=λl=>some (⟨s.Name,l,s.aK7⟩,i64.wrap (s.aKg.length-(l.length)))) (λn i j r I J hrl hmem=> ?_) (λn i r J=> ?_) aJ k (k+1) s.aKg wG hk wg rfl ?_ rfl
   ·simp only[eY];rw[jF (bE I),aK I,qA,hp _ hmem,qA,aK J,qA];rw[bM (n:=i) wg,bM (n:=j) wg,qH];cases yI r[j].Key g<;>rfl
   ·simp only[eY];rw[jG wb,show BM r i=some (r.drop i)from by unfold BM;rw[jF ⟨wg,by simpa using J⟩,qH],qA,qH]
   ·rw[OG hk];have:(s.aKg.take k).filter (λx=> !yI x.Key g)=s.aKg.take k:=List.filter_eq_self.2 (λx C=>by obtain⟨j,I,rfl⟩:=List.mem_iff_getElem.1 C;rw[qV]at I;have:=U j wg;simpa using this);rw[this];simp[hqk]
theorem Vj{s:M.aD}{g:M.fY}(j:s.ok):(MD s g).1.ok/\M.aD.sz (MD s g).1<=M.aD.sz s:=by unfold MD;split;(refine⟨⟨j.Name,⟨qh (List.length_filter_le _ _) j.aKg.1,λy C=>j.aKg.2 y (jC.1 C).1⟩,j.aK7⟩,?_⟩;have h4:=List.length_filter_le (λx:M.aKy=> !yI x.Key g) s.aKg;have h5:=Qe (f:=M.aKy.sz) (λx:M.aKy=> !yI x.Key g) s.aKg;simp only[M.aD.sz];omega);simp_all
def QS(s:M.aD)(k:M.bD)(r:M.aF):M.aD×Bool:=if gJ (uB k) s.aKg<0 then Ca s k r else(s,false)
theorem Ke{s:M.aD}{k:M.bD}{r:M.aF}(C:s.ok)(hk:k.ok)(U:r.ok)(J:cV r=true)(I:M.aD.sz s<=1073741824)(j:M.aF.sz r<=1073741824):BV s k r=some (QS s k r):=by unfold BV QS;rw[Bc C,qA,pM s I,BT C hk U J I j];by_cases h:gJ (uB k) s.aKg<0;(rw[jG wV,jF h];rfl);·rw[jF wV,jG h];rfl
theorem PM{s:M.aD}{k:M.bD}{r:M.aF}(C:s.ok)(hk:k.ok)(U:r.ok)(J:cV r=true)(I:M.aD.sz s<=1073741824)(j:M.aF.sz r<=1073741824):C8 s k r=some (QS s k r):=by unfold C8 QS;rw[Cm C,qA,kZ s I,C1 C hk U J I j];by_cases h:gJ (uB k) s.aKg<0;(rw[jG wV,jF h];rfl);·rw[jF wV,jG h];rfl
def aBj:M.fY:=⟨false,false,⟨0,0,⟨#[]⟩⟩,⟨0,0,⟨#[]⟩⟩⟩
def aDe(s:M.aD)(o:M.fA):M.aD×Int×Bool:=if(GL (fC s o.Key) o.Field (i64.wrap ((cY (fC s o.Key) o.Field).1+1))).2=true then((Ca s o.Key (GL (fC s o.Key) o.Field (i64.wrap ((cY (fC s o.Key) o.Field).1+1))).1).1,i64.wrap ((cY (fC s o.Key) o.Field).1+1),(Ca s o.Key (GL (fC s o.Key) o.Field (i64.wrap ((cY (fC s o.Key) o.Field).1+1))).1).2)else(s,0,false)
def nOn(s:M.aD)(o:M.fA):M.aD×Int×Bool:=if o.aKx=1 then((Ca s o.Key o.aF).1,1,(Ca s o.Key o.aF).2)else if o.aKx=2 then((QS s o.Key o.aF).1,1,(QS s o.Key o.aF).2)else if o.aKx=3 then((MD s ⟨true,true,o.Key,o.Key⟩).1,(MD s ⟨true,true,o.Key,o.Key⟩).2,true)else if o.aKx=4 then if gJ (uB o.Key) s.aKg<0 then(s,-1,true)else(s,List.length (fC s o.Key).aKj,true)else if o.aKx=5 then((MD s aBj).1,(MD s aBj).2,true)else aDe s o
theorem OH:M.bD.ok ⟨0,0,⟨#[]⟩⟩:=⟨yH,yH,sz0⟩
theorem HY{s:M.aD}{k:M.bD}(h:¬gJ (uB k) s.aKg<0):∃x,idx s.aKg (gJ (uB k) s.aKg)=some x/\x.aF=fC s k:=by obtain⟨j,e,C⟩:=cT h;refine⟨s.aKg[j],by rw[e,aK C],?_⟩;unfold fC;rw[jG h,e,qH,qF C]
theorem K0{s:M.aD}{k:M.bD}(h:gJ (uB k) s.aKg<0):fC s k=⟨[]⟩:=by unfold fC;rw[jF h]
theorem HZ:cV ⟨[]⟩=true:=by rfl
theorem Y5{s:M.aD}(h:iM s=true)(k:M.bD):cV (fC s k)=true:=by by_cases hf:gJ (uB k) s.aKg<0;(rw[K0 hf];exact HZ);·obtain⟨j,e,C⟩:=cT hf;obtain⟨x,e1,e2⟩:=HY hf;rw[<-e2];rw[e,aK C]at e1;obtain rfl:=qd e1;exact((LH (Bi h).1).1 j _ (qF C)).2
theorem Vt{r:M.aF}(h:cV r=true)(a:ByteArray)(n:Int):cV (GL r a n).1=true:=by
 cases e:(GL r a n).2 with
 |true=>exact Ga e
 |false=>
  unfold GL Nt at e⊢
  grind
structure Xo (x:M.aD) (y:M.fA):Prop where
 s:x.ok
 o:Kb y
 n:nOp y=true
 t:iM x=true
theorem Xo.z{s:M.aD}{o:M.fA}(h:Xo s o):M.aD.sz s<=10000:=tR h.t
theorem Xo.r{s:M.aD}{o:M.fA}(h:Xo s o):M.aF.sz o.aF<=100:=Il (BF h.n).2.2.2.2
theorem OE{s:M.aD}{o:M.fA}(h:Xo s o):(fC s o.Key).ok/\M.aF.sz (fC s o.Key)<=100/\(GL (fC s o.Key) o.Field (i64.wrap ((cY (fC s o.Key) o.Field).1+1))).1.ok/\cV (GL (fC s o.Key) o.Field (i64.wrap ((cY (fC s o.Key) o.Field).1+1))).1=true:=by have h1:=Y5 h.t o.Key;have h2:=FW (k:=o.Key) h.s;have h3:=(vT h1).1;exact⟨h2,Il h1,Ml h2 wg h.o.2.2.2.2 (bS _),Vt h1 _ _⟩
theorem T4{s:M.aD}{o:M.fA}(h:Xo s o):Gd s o=some (nOn s o):=by have C:=h.z;have j:=h.r;obtain⟨i1,i2,i3,i4⟩:=OE h;have i5:=Il i4;unfold Gd nOn;rw[Cm h.s,qA,C1 h.s h.o.2.2.1 h.o.2.2.2.1 (BF h.n).2.2.2.2 wg wg,PM h.s h.o.2.2.1 h.o.2.2.2.1 (BF h.n).2.2.2.2 wg wg,GB h.s h.o.2.2.1 h.o.2.2.1 wg,GB (g:=⟨false,false,⟨0,0,⟨#[]⟩⟩,⟨0,0,⟨#[]⟩⟩⟩) h.s OH OH wg];by_cases k1:o.aKx=1;(rw[jF (by simpa using k1),jF k1];rfl);rw[jG wX,jG k1];by_cases k2:o.aKx=2;(rw[jF (by simpa using k2),jF k2];rfl);rw[jG wX,jG k2];by_cases k3:o.aKx=3;(rw[jF (by simpa using k3),jF k3];rfl);rw[jG wX,jG k3];by_cases k5:o.aKx=5;(rw[jF (by simpa using k5),jG wg,jF k5];rfl);rw[jG wX];by_cases k4:o.aKx=4;(rw[jF wX,jF k4];by_cases hf:gJ (uB o.Key) s.aKg<0;(rw[jF (by simpa using hf),jF hf]);·obtain⟨x,e1,e2⟩:=HY hf;rw[jG (by simpa using hf),jG hf,e1,qA,e2]);·rw[jG wX,jG k4,jG k5];unfold aDe;by_cases hf:gJ (uB o.Key) s.aKg<0;(rw[K0 hf]at i1 i2 i3 i4 i5⊢;rw[jG wV,mQ i1,qA,DW i1 wg h.o.2.2.2.2 (bS _),qA,C1 h.s h.o.2.2.1 i3 i4 wg wg];cases (GL ⟨[]⟩ o.Field (i64.wrap ((cY ⟨[]⟩ o.Field).1+1))).2<;>rfl);·obtain⟨x,e1,e2⟩:=HY hf;rw[jF wV,e1,qA,e2,mQ i1,qA,DW i1 wg h.o.2.2.2.2 (bS _),qA,C1 h.s h.o.2.2.1 i3 i4 wg wg];cases (GL (fC s o.Key) o.Field (i64.wrap ((cY (fC s o.Key) o.Field).1+1))).2<;>rfl
theorem Tz{s:M.aD}{o:M.fA}(h:Xo s o):∃x,EU s o.Key o.Field=some x/\x.2.2=(aDe s o).2.2/\(x.2.2=true->x=aDe s o):=by have j:=h.z;obtain⟨i1,i2,i3,i4⟩:=OE h;have i5:=Il i4;unfold EU aDe;rw[Bc h.s,qA];by_cases hf:gJ (uB o.Key) s.aKg<0;(rw[K0 hf]at i1 i2 i3 i4 i5⊢;rw[jG wV,tB i1,qA,Cf i1 wg h.o.2.2.2.2 (bS _),qA,BT h.s h.o.2.2.1 i3 i4 wg wg,qA];cases (GL ⟨[]⟩ o.Field (i64.wrap ((cY ⟨[]⟩ o.Field).1+1))).2;(exact⟨_,rfl,rfl,λe=>by cases e⟩);·exact⟨_,rfl,rfl,λ_=>rfl⟩);·obtain⟨x,e1,e2⟩:=HY hf;rw[jF wV,e1,qA,e2,tB i1,qA,Cf i1 wg h.o.2.2.2.2 (bS _),qA,BT h.s h.o.2.2.1 i3 i4 wg wg,qA];cases (GL (fC s o.Key) o.Field (i64.wrap ((cY (fC s o.Key) o.Field).1+1))).2;(exact⟨_,rfl,rfl,λe=>by cases e⟩);·exact⟨_,rfl,rfl,λ_=>rfl⟩
theorem PB{s:M.aD}{o:M.fA}(h:Xo s o):∃x,C3 s o=some x/\x.2.2=(nOn s o).2.2/\(x.2.2=true->x=nOn s o):=by
 have C:=h.z
 have j:=h.r
 have same:∀{m:Option (M.aD×Int×Bool)} {y:M.aD×Int×Bool},m=some y->∃x,m=some x/\x.2.2=y.2.2/\(x.2.2=true->x=y):=λe=>⟨_,e,rfl,λ_=>rfl⟩
 unfold C3 nOn
 rw[Bc h.s,qA,pM s wg,BT h.s h.o.2.2.1 h.o.2.2.2.1 (BF h.n).2.2.2.2 wg wg,Ke h.s h.o.2.2.1 h.o.2.2.2.1 (BF h.n).2.2.2.2 wg wg,GA h.s h.o.2.2.1 h.o.2.2.1 wg,GA (g:=⟨false,false,⟨0,0,⟨#[]⟩⟩,⟨0,0,⟨#[]⟩⟩⟩) h.s OH OH wg]
 by_cases k1:o.aKx=1
 ·rw[jF (by simpa using k1),jF k1];exact same rfl
 rw[jG wX,jG k1]
 by_cases k2:o.aKx=2
 ·rw[jF (by simpa using k2),jF k2];exact same rfl
 rw[jG wX,jG k2]
 by_cases k3:o.aKx=3
 ·rw[jF (by simpa using k3),jF k3];exact same rfl
 rw[jG wX,jG k3]
 by_cases k4:o.aKx=4
 ·rw[jF wX,jF k4];by_cases hf:gJ (uB o.Key) s.aKg<0;(rw[jF (by simpa using hf),jF hf];exact same rfl);·obtain⟨x,e1,e2⟩:=HY hf;rw[jG (by simpa using hf),jG hf,qA,e1,qA,e2];exact same rfl
 rw[jG wX,jG k4]
 by_cases k5:o.aKx=5
 ·rw[jF wX,jF k5];exact same rfl
 ·obtain⟨x,e1,e2,e3⟩:=Tz h;grind
theorem Pj{s:M.aD}{k:M.bD}{r:M.aF}(J:s.ok)(U:iM s=true)(hk:k.ok)(I:r.ok)(C:cV r=true):(Ca s k r).1.ok/\M.aD.sz (Ca s k r).1<=10000:=by
 have j:=tR U
 refine⟨Q9 J (by simp only[M.aD.sz]at j;omega) hk I,?_⟩
 cases e:(Ca s k r).2 with
 |true=>exact tR (G5 C e)
 |false=>rw[MV e];exact j
theorem UR{s:M.aD}{o:M.fA}(h:Xo s o):(nOn s o).1.ok/\M.aD.sz (nOn s o).1<=10000:=by
 have j:=h.z
 have C:=(BF h.n).2.2.2.2
 obtain⟨i1,i2,i3,i4⟩:=OE h
 have I:∀g,(MD s g).1.ok/\M.aD.sz (MD s g).1<=10000:=λg=>⟨(Vj h.s).1,qh (Vj h.s).2 j⟩
 unfold nOn aDe QS
 split
 ·exact Pj h.s h.t h.o.2.2.1 h.o.2.2.2.1 C
 split
 ·split;(exact Pj h.s h.t h.o.2.2.1 h.o.2.2.2.1 C);·exact⟨h.s,j⟩
 split
 ·exact I _
 split
 ·split<;>exact⟨h.s,j⟩
 split
 ·exact I _
 split
 ·exact Pj h.s h.t h.o.2.2.1 i3 i4
 ·exact⟨h.s,j⟩
theorem LB{d:M.aKc}(h:nDb d=true):(∀(k:Nat) (hk:k<d.aKm.length),iM d.aKm[k]=true)/\d.Name.size<=8/\d.aKm.length<=4/\d.aKz.length<=4/\∀u∈d.aKz,u.Field.size<=8:=by unfold nDb at h;simp only[qM,qL,qR,qS]at h;obtain⟨h1,h2,h3,_,h5,h6⟩:=h;refine⟨λk hk=> ?_,?_,h5,h6,λu j=> ?_⟩;(have:=h1 k hk;unfold H2 at this;simp_all);(unfold oO inR at h3;grind);·obtain⟨k,hk,rfl⟩:=List.getElem_of_mem j;have:=h2 k hk;unfold II oO inR at this;grind
def QU(d:M.aKc)(j:Nat)(s:M.aD):M.aKc:=⟨d.Name,d.aKb,d.aKm.set j s,d.aKz⟩
def Qd(d:M.aKc)(o:M.fA)(j:Nat)(s:M.aD):M.aKc×Int×Bool:=if(nOn s o).2.2=true then if nDb (QU d j (nOn s o).1)=true then(QU d j (nOn s o).1,(nOn s o).2.1,true)else(d,0,false)else(d,0,false)
def Sa(d:M.aKc)(o:M.fA):M.aKc×Int×Bool:=if(nDb d&&nOp o)=true then(match d.aKm[(gJ (BL o.aD) d.aKm).toNat]? with
 |some s=>if gJ (BL o.aD) d.aKm<0 then(d,0,false)else Qd d o (gJ (BL o.aD) d.aKm).toNat s
 |none=>(d,0,false))else(d,0,false)
theorem Rd{d:M.aKc}{s:M.aD}{j:Nat}(C:d.ok)(I:s.ok):(QU d j s).ok:=⟨C.Name,C.aKb,⟨by show(d.aKm.set j s).length<=_;rw[qN];exact C.aKm.1,λy J=>by rcases jE J with h|rfl;(exact C.aKm.2 y h);·exact I⟩,C.aKz⟩
theorem VX{d:M.aKc}{s:M.aD}{j:Nat}(C:M.aKc.sz d<=1000000)(I:M.aD.sz s<=10000):M.aKc.sz (QU d j s)<=1500000:=by have:=Jz (f:=M.aD.sz) (x:=s) (l:=d.aKm) (i:=j);simp only[QU,M.aKc.sz,qN]at C⊢;omega
theorem SR{d:M.aKc}{o:M.fA}(I:d.ok)(U:Kb o)(hz:M.aKc.sz d<=1000000):Du d o=some (Sa d o):=by
 unfold Du Sa
 rw[CI d wg,qA,Dh I,qA,xH I wg,qA,Od U,qA]
 cases hD:nDb d with
 |false=>rfl
 |true=>
  cases hO:nOp o with
  |false=>rfl
  |true=>
   by_cases hf:gJ (BL o.aD) d.aKm<0
   ·grind
   ·obtain⟨j,e,J⟩:=cT hf
    have ht:=(LB hD).1 j J
    have hs:=I.aKm.2 _ (qG J)
    have C:Xo d.aKm[j] o:=⟨hs,U,hO,ht⟩
    obtain⟨v1,v2⟩:=UR C
    rw[jG wX,e,qH,qF J]
    simp only[show ¬(j)<0 from by omega]
    rw[aK J,qA]
    unfold Qd
    obtain⟨x,e1,e2,e3⟩:=PB C
    rw[e1,qA,qA,<-e2]
    cases hx:x.2.2 with
    |false=>rfl
    |true=>
     have:=xH (Rd (j:=j) I v1) (VX hz v2)
     unfold QU at this⊢
     grind
theorem Sk{d:M.aKc}{o:M.fA}(I:d.ok)(U:Kb o)(hz:M.aKc.sz d<=1000000):Dv d o=some (Sa d o):=by
 unfold Dv Sa
 rw[xS d wg,qA,E6 I,qA,Cy I wg,qA,OB U,qA]
 cases hD:nDb d with
 |false=>rfl
 |true=>
  cases hO:nOp o with
  |false=>rfl
  |true=>
   by_cases hf:gJ (BL o.aD) d.aKm<0
   ·grind
   ·obtain⟨j,e,J⟩:=cT hf
    have ht:=(LB hD).1 j J
    have hs:=I.aKm.2 _ (qG J)
    have C:Xo d.aKm[j] o:=⟨hs,U,hO,ht⟩
    obtain⟨v1,v2⟩:=UR C
    rw[jG wX,e,qH,qF J]
    simp only[show ¬(j)<0 from by omega]
    rw[aK J,qA]
    unfold Qd
    rw[T4 C,qA]
    cases hx:(nOn d.aKm[j] o).2.2 with
    |false=>rfl
    |true=>
     have:=Cy (Rd (j:=j) I v1) (VX hz v2)
     unfold QU at this⊢
     grind
theorem RA{d:M.aKc}{o:M.fA}(C:d.ok)(U:Kb o)(hz:M.aKc.sz d<=1000000):(Sa d o).1.ok/\M.aKc.sz (Sa d o).1<=M.aKc.sz d+10000:=by unfold Sa;split;(rename_i h;rw[qM]at h;by_cases hf:gJ (BL o.aD) d.aKm<0;(split;(rw[jF hf];exact⟨C,wH⟩);·exact⟨C,wH⟩);·obtain⟨j,e,I⟩:=cT hf;have J:Xo d.aKm[j] o:=⟨C.aKm.2 _ (qG I),U,h.2,(LB h.1).1 j I⟩;obtain⟨v1,v2⟩:=UR J;rw[e,qH,qF I];simp only[show ¬(j:Int)<0 from by omega,jH];unfold Qd;split;(split;(refine⟨Rd C v1,?_⟩;have:=Jz (f:=M.aD.sz) (x:=(nOn d.aKm[j] o).1) (l:=d.aKm) (i:=j);simp only[QU,M.aKc.sz,qN];omega);·exact⟨C,wH⟩);·exact⟨C,wH⟩);simp_all
theorem aAL{d:M.aKc}(h:nDb d=true)(C:∀u∈d.aKz,u.aD.size<=8):M.aKc.sz d<=100000:=by obtain⟨h1,h2,h3,h4,h5⟩:=LB h;have I:=eN (w:=M.aD.sz) (b:=10000) (xs:=d.aKm) (λx j=>by obtain⟨k,hk,rfl⟩:=List.getElem_of_mem j;exact tR (h1 k hk));have J:=eN (w:=M.aV.sz) (b:=16) (xs:=d.aKz) (λx j=>by have U:=h5 x j;have b2:=C x j;simp only[M.aV.sz];omega);simp only[M.aKc.sz];omega
theorem Wp{l:List M.aD}{a:ByteArray}(h:0<=gJ (BL a) l):∃x∈l,x.Name.toList=a.toList:=by obtain⟨k,e,hk⟩:=cT (show ¬gJ (BL a) l<0 by omega);obtain⟨_,j⟩:=pY e;exact⟨_,qG hk,by unfold BL at j;exact eq_of_beq j⟩
theorem Rs{d:M.aKc}(h:nDb d=true):∀u∈d.aKz,u.aD.size<=8:=by intro u J;obtain⟨h1,_⟩:=LB h;unfold nDb at h;simp only[qM,qL,qR,qS]at h;obtain⟨k,hk,rfl⟩:=List.getElem_of_mem J;have:=h.2.1 k hk;unfold II at this;rw[qF hk]at this;simp only[qf,qM,qL]at this;obtain⟨x,U,e⟩:=Wp this.1;obtain⟨j,I,rfl⟩:=List.getElem_of_mem U;have C:=(Bi (h1 j I)).2.1;unfold oO inR at C;simp only[qM,qL]at C;have:=bsize e;omega
def OO(d0:M.aKc):M.aKc->List Int->List M.fA->M.aKc×List Int×Bool
 |x,j,[]=>(x,j,true)
 |x,j,o::l=>if(Sa x o).2.2=true then OO d0 (Sa x o).1 (j++[(Sa x o).2.1]) l else(d0,([]:List Int),false)
def B5(d:M.aKc)(l:List M.fA):M.aKc×List Int×Bool:=if nDb d=true then if l.length>6 then(d,[],false)else OO d d [] l else(d,[],false)
theorem XP{d0:M.aKc}{l:List M.fA}(h6:l.length<=6)(I:∀o∈l,Kb o)(C:M.aKc.sz d0<=1000000):∀(n k:Nat) (x:M.aKc) (ns:List Int),l.length-k<n->k<=l.length->x.ok->M.aKc.sz x<=900000+10000*k->ns.length=k->yW d0 l n k x.Name x.aKb ns x.aKm x.aKz=some (OO d0 x ns (l.drop k))
 |0,_,_,_,h,_,_,_,_=>by omega
 |n+1,k,x,ns,hn,hk,J,hz,U=>by
  simp only[yW]
  rcases jS k l.length with hlt|hge
  ·rw[jF (bE hlt),aK hlt,qA]
   show((Du x l[k]).bind _)=_
   have j:=I _ (qG hlt)
   obtain⟨v1,v2⟩:=RA J j wg
   rw[SR J j wg,qA,qX hlt]
   simp only[OO]
   cases (Sa x l[k]).2.2 with
   |false=>
    rw[jF wb,jG wb,CI d0 wg,qA]
   |true=>
    rw[jG wb,jF rfl,dK wV,qA,bM wg]
    exact XP h6 I C n (k+1) _ _ wg hlt v1 (qh v2 wg) (by simp[U])
  ·have e:k=l.length:=by omega
   subst e
   rw[jG wF,qa]
   rfl
theorem Ly{d:M.aKc}{l:List M.fA}(j:d.ok)(I:l.length<=1000)(C:∀o∈l,Kb o)(U:M.aKc.sz d<=1500000):Bu d l=some (B5 d l):=by
 unfold Bu B5
 rw[CI d wg,qA,xH j wg,qA]
 cases hD:nDb d with
 |false=>rfl
 |true=>
  have J:=aAL hD (Rs hD)
  rw[jG wb,jF rfl]
  by_cases h6:l.length>6
  ·rw[jF wV,jF h6]
  ·rw[jG wV,jG h6];exact XP wg C wg aJ 0 d [] wG wg j wg rfl
theorem XR{d0:M.aKc}{l:List M.fA}(h6:l.length<=6)(I:∀o∈l,Kb o)(C:M.aKc.sz d0<=1000000):∀(n k:Nat) (x:M.aKc) (ns:List Int),l.length-k<n->k<=l.length->x.ok->M.aKc.sz x<=900000+10000*k->ns.length=k->uN d0 l n k x.Name x.aKb ns x.aKm x.aKz=some (OO d0 x ns (l.drop k))
 |0,_,_,_,h,_,_,_,_=>by omega
 |n+1,k,x,ns,hn,hk,J,hz,U=>by
  simp only[uN]
  rcases jS k l.length with hlt|hge
  ·rw[jF (bE hlt),aK hlt,qA]
   show((Dv x l[k]).bind _)=_
   have j:=I _ (qG hlt)
   obtain⟨v1,v2⟩:=RA J j wg
   rw[Sk J j wg,qA,qX hlt]
   simp only[OO]
   cases (Sa x l[k]).2.2 with
   |false=>
    rw[jF wb,jG wb,xS d0 wg,qA]
   |true=>
    rw[jG wb,jF rfl,dK wV,qA,bM wg]
    exact XR h6 I C n (k+1) _ _ wg hlt v1 (qh v2 wg) (by simp[U])
  ·have e:k=l.length:=by omega
   subst e
   rw[jG wF,qa]
   rfl
theorem LO{d:M.aKc}{l:List M.fA}(j:d.ok)(I:l.length<=1000)(C:∀o∈l,Kb o)(U:M.aKc.sz d<=1500000):Bg d l=some (B5 d l):=by
 unfold Bg B5
 rw[xS d wg,qA,Cy j wg,qA]
 cases hD:nDb d with
 |false=>rfl
 |true=>
  have J:=aAL hD (Rs hD)
  rw[jG wb,jF rfl]
  by_cases h6:l.length>6
  ·rw[jF wV,jF h6]
  ·rw[jG wV,jG h6];exact XR wg C wg aJ 0 d [] wG wg j wg rfl
theorem aCJ{d:M.aKc}{o:M.fA}(h:(Sa d o).2.2=true):nDb (Sa d o).1=true:=by unfold Sa at h⊢;split at h;(rename_i h1;rw[jF h1];split at h;(rename_i s j;split at h;(cases h);·rename_i h2;rw[jG h2];unfold Qd at h⊢;split at h;(rename_i h3;rw[jF h3];split at h;(rename_i h4;rw[jF h4];exact h4);·cases h);·cases h);·cases h);·cases h
theorem Tk{d0:M.aKc}(I:d0.ok):∀{l:List M.fA} {x:M.aKc} {ns:List Int},(∀o∈l,Kb o)->x.ok->nDb x=true->(OO d0 x ns l).1=d0\/((OO d0 x ns l).1.ok/\nDb (OO d0 x ns l).1=true)
 |[],x,ns,_,j,hb=>.inr ⟨j,hb⟩
 |o::l,x,ns,C,j,hb=>by have U:=aAL hb (Rs hb);simp only[OO];split;(rename_i h;exact Tk I (λy J=>C y (by simp[J])) (RA j (C o wb) wg).1 (aCJ h));·exact .inl rfl
theorem KQ{d:M.aKc}{l:List M.fA}(j:d.ok)(C:∀o∈l,Kb o):(B5 d l).1=d\/((B5 d l).1.ok/\M.aKc.sz (B5 d l).1<=100000):=by unfold B5;split;(rename_i h;split;(exact .inl rfl);·rcases Tk j C j h (ns:=[])with e|⟨h1,h2⟩;(exact .inl e);·exact .inr ⟨h1,aAL h2 (Rs h2)⟩);·exact .inl rfl
def Ej:M.aKc->Nat->List (List Int)->M.aKc×Int
 |d,i,[]=>(d,(i:Int))
 |d,i,e::l=>if(Bl e).2=true then Ej (B5 d (Bl e).1).1 (i+1) l else(d,(i:Int))
def zV(d:M.bJ):M.aKc×Int:=Ej d.aK1 0 (QM d.Log).1
theorem UU{x3:List (List Int)×Int}(J:x3.1.length<=1500000)(C:∀l∈x3.1,okB l/\l.length<=4000):∀(n k:Nat) (d:M.aKc),x3.1.length-k<n->k<=x3.1.length->d.ok->M.aKc.sz d<=1500000->uE x3 n k d.Name d.aKb d.aKm d.aKz=some (Ej d k (x3.1.drop k))
 |0,_,_,h,_,_,_=>by omega
 |n+1,k,d,hn,hk,j,U=>by
  simp only[uE]
  rcases jS k x3.1.length with hlt|hge
  ·obtain⟨I,b2⟩:=C _ (qG hlt)
   obtain⟨o1,o2⟩:=MT I wg
   rw[jF (bE hlt),aK hlt,qA,NV I wg,qA,qX hlt]
   simp only[Ej]
   cases (Bl x3.1[k]).2 with
   |false=>rfl
   |true=>
    rw[jG wb,jF rfl]
    show((Bu d (Bl x3.1[k]).1).bind _)=_
    rw[Ly j wg (λo h=>(o2 o h).1) U,qA,bM wg]
    rcases KQ j (λo h=>(o2 o h).1)with e|⟨v1,v2⟩
    ·rw[e];exact UU J C n (k+1) d wg hlt j U
    ·exact UU J C n (k+1) _ wg hlt v1 wg
  ·have e:k=x3.1.length:=by omega
   subst e
   rw[jG wF,qa]
   rfl
theorem JA{d:M.bJ}(j:d.ok)(I:M.bJ.sz d<=1500000):AR d=some (zV d):=by
 have C:M.aKc.sz d.aK1<=1500000:=by simp only[M.bJ.sz]at I;omega
 have U:d.Log.length<=1500000:=by simp only[M.bJ.sz]at I;omega
 obtain⟨g1,J⟩:=UA j.Log
 unfold AR zV
 rw[CI d.aK1 wg,qA,J4 j.Log wg,qA]
 exact UU (x3:=QM d.Log) wg J aJ 0 d.aK1 wG wg j.aK1 C
theorem Uu{x3:List (List Int)×Int}(J:x3.1.length<=1500000)(C:∀l∈x3.1,okB l/\l.length<=4000):∀(n k:Nat) (d:M.aKc),x3.1.length-k<n->k<=x3.1.length->d.ok->M.aKc.sz d<=1500000->pD x3 n k d.Name d.aKb d.aKm d.aKz=some (Ej d k (x3.1.drop k))
 |0,_,_,h,_,_,_=>by omega
 |n+1,k,d,hn,hk,j,U=>by
  simp only[pD]
  rcases jS k x3.1.length with hlt|hge
  ·obtain⟨I,b2⟩:=C _ (qG hlt)
   obtain⟨o1,o2⟩:=MT I wg
   rw[jF (bE hlt),aK hlt,qA,Np I wg,qA,qX hlt]
   simp only[Ej]
   cases (Bl x3.1[k]).2 with
   |false=>rfl
   |true=>
    rw[jG wb,jF rfl]
    show((Bg d (Bl x3.1[k]).1).bind _)=_
    rw[LO j wg (λo h=>(o2 o h).1) U,qA,bM wg]
    rcases KQ j (λo h=>(o2 o h).1)with e|⟨v1,v2⟩
    ·rw[e];exact Uu J C n (k+1) d wg hlt j U
    ·exact Uu J C n (k+1) _ wg hlt v1 wg
  ·have e:k=x3.1.length:=by omega
   subst e
   rw[jG wF,qa]
   rfl
theorem Gl{d:M.bJ}(j:d.ok)(I:M.bJ.sz d<=1500000):xU d=some (zV d):=by
 have C:M.aKc.sz d.aK1<=1500000:=by simp only[M.bJ.sz]at I;omega
 have U:d.Log.length<=1500000:=by simp only[M.bJ.sz]at I;omega
 obtain⟨g1,J⟩:=UA j.Log
 unfold xU zV
 rw[xS d.aK1 wg,qA,PF j.Log wg,qA]
 exact Uu (x3:=QM d.Log) wg J aJ 0 d.aK1 wG wg j.aK1 C
theorem Mw:∀{l:List (List Int)} {d:M.aKc} {i:Nat},(∀e∈l,okB e/\e.length<=4000)->d.ok->M.aKc.sz d<=1500000->(Ej d i l).1.ok/\M.aKc.sz (Ej d i l).1<=1500000
 |[],d,i,_,j,C=>⟨j,C⟩
 |e::l,d,i,I,j,C=>by obtain⟨U,b2⟩:=I e wb;obtain⟨o1,o2⟩:=MT U wg;simp only[Ej];split;(rcases KQ j (λo h=>(o2 o h).1)with e'|⟨v1,v2⟩;(rw[e'];exact Mw (λx J=>I x (by simp[J])) j C);·exact Mw (λx J=>I x (by simp[J])) v1 wg);·exact⟨j,C⟩
theorem FU{d:M.bJ}(j:d.ok)(C:M.bJ.sz d<=1500000):(zV d).1.ok/\M.aKc.sz (zV d).1<=1500000:=Mw (UA j.Log).2 j.aK1 (by simp only[M.bJ.sz]at C;omega)
def W5(l:List Int)(i:Int)(b:List Int):List Int:=l++(CJ b++uv (KS i b).toNat)
def Uj(l:List Int)(i:Int)(b:List Int):List Int×Bool:=if i<0 then(l,false)else if(W5 l i b).length>4000 then(l,false)else(W5 l i b,true)
theorem Yx{l b:List Int}{i:Int}:W5 l i b=(l++CJ b)++uv (KS i b).toNat:=by unfold W5;rw[qT]
theorem Ug(i:Int)(b:List Int):0<=KS i b/\KS i b<2147483647:=Um _
theorem Ie{l b:List Int}{i:Int}(I:l.length<=1500000)(hb:b.length<=100000):zE l i b=some (Uj l i b):=by have C:=Ug i b;have J:=FV (n:=b.length) wg;have j:=pS (r:=l++CJ b) (n:=(KS i b).toNat) (by unfold CJ;simp only[qE];omega) wg;rw[jT C.1,<-Yx]at j;unfold zE Uj;rw[Ip wg wg,qA,uH wg wg,qA,Jr wg,qA];show((cK (l++CJ b) (KS i b)).bind _)=_;rw[j,qA];by_cases hi:i<0;(rw[jF (by simpa using hi),jF hi]);·rw[jG (by simpa using hi),jG hi];by_cases h4:(W5 l i b).length>4000;(rw[jF wV,jF h4]);·rw[jG wV,jG h4]
theorem ND{l b:List Int}{i:Int}(I:l.length<=1500000)(hb:b.length<=100000):BG l i b=some (Uj l i b):=by have C:=Ug i b;have J:=FV (n:=b.length) wg;have j:=pT (r:=l++CJ b) (n:=(KS i b).toNat) (by unfold CJ;simp only[qE];omega) wg;rw[jT C.1,<-Yx]at j;unfold BG Uj;rw[DP wg wg,qA,Jm wg,qA];show((cW (l++CJ b) (KS i b)).bind _)=_;rw[j,qA,Fe l wg,qA];by_cases hi:i<0;(rw[jF (by simpa using hi),jF hi]);·rw[jG (by simpa using hi),jG hi];by_cases h4:(W5 l i b).length>4000;(rw[jF wV,jF h4]);·rw[jG wV,jG h4]
def Vl(d:M.bJ)(l:List M.fA):Bool:=(B5 (zV d).1 l).2.2&&((List.length (Be l):Int) !=0&&(((zV d).2==d.aLF)&&(Uj d.Log d.aLF (Be l)).2))
def tN(d:M.bJ)(l:List M.fA):M.bJ×Bool:=if Vl d l=true then(⟨d.aK1,(Uj d.Log d.aLF (Be l)).1,i64.wrap (d.aLF+1)⟩,true)else(d,false)
theorem Jp(l:List M.fA):(Be l).length<=2000:=by unfold Be;split;(rename_i h;rw[qM,qL,qR]at h;have h1:=RM (f:=enO) (λo j=>RR (h.1 o j));have h9:=FV (n:=l.length) wg;rw[qE];omega);·simp
theorem Hq{d:M.bJ}{l:List M.fA}(I:d.ok)(j:M.bJ.sz d<=1500000)(J:l.length<=1000)(U:∀o∈l,Kb o):nR d l=some (tN d l):=by
 have C:d.Log.length<=1500000:=by simp only[M.bJ.sz]at j;omega
 have he:=Jp l
 obtain⟨v1,v2⟩:=FU I j
 unfold nR tN Vl
 rw[GW d wg,qA,JA I j,qA,Ly v1 J U v2,qA,Iq J U,qA,Ie C wg,qA]
 unfold bne
 generalize (B5 (zV d).1 l).2.2=a1
 generalize ((List.length (Be l):Int)==0)=a2
 generalize ((zV d).2==d.aLF)=a3
 cases a1<;>cases a2<;>cases a3<;>cases (Uj d.Log d.aLF (Be l)).2<;>rfl
theorem MB{d:M.bJ}{l:List M.fA}(I:d.ok)(j:M.bJ.sz d<=1500000)(J:l.length<=1000)(U:∀o∈l,Kb o):AZ d l=some (tN d l):=by
 have C:d.Log.length<=1500000:=by simp only[M.bJ.sz]at j;omega
 have he:=Jp l
 obtain⟨v1,v2⟩:=FU I j
 unfold AZ tN Vl
 rw[Jg d wg,qA,Gl I j,qA,LO v1 J U v2,qA,Ig J U,qA,ND C wg,qA]
 unfold bne
 generalize (B5 (zV d).1 l).2.2=a1
 generalize ((List.length (Be l):Int)==0)=a2
 rw[Bool.beq_comm (a:=d.aLF)]
 generalize ((zV d).2==d.aLF)=a3
 cases a1<;>cases a2<;>cases a3<;>cases (Uj d.Log d.aLF (Be l)).2<;>rfl
theorem JH{d:M.bJ}{l:List M.fA}(C:d.ok):(tN d l).1.ok/\M.bJ.sz (tN d l).1<=M.bJ.sz d+4000/\(tN d l).1.aK1=d.aK1:=by unfold tN;split;(rename_i h;unfold Vl at h;simp only[qM]at h;have h4:=h.2.2.2;unfold Uj at h4⊢;split at h4;(cases h4);·rename_i I;rw[jG I];split at h4;(cases h4);·rename_i J;rw[jG J];refine⟨⟨C.aK1,⟨qh (by omega:(W5 d.Log d.aLF (Be l)).length<=4000) wD,λy U=> ?_⟩,bS _⟩,?_,rfl⟩;(have j:y∈W5 d.Log d.aLF (Be l):=U;unfold W5 at j;simp only[qP]at j;rcases j with h|h|h;(exact C.Log.2 y h);(exact HK (RL l).2 y h);·exact Kk _ y h);·simp only[M.bJ.sz];omega);·exact⟨C,wH,rfl⟩
theorem Ii{s:M.aN}{v:Int}(j:s.ok):zT s v=some (gJ (λc:M.aKv=>c.aKb==v) s.aKi):=by have C:=aZ j.aKi.1;unfold zT;rw[oQ (L:=nE s v) (f:=λc:M.aKv=>c.aKb==v) (A:=λi=>some (i:Int)) (E:=some (-1)) j.aKi.1 (λm k hk=> ?_) (λm=> ?_),tK];(simp only[nE];rw[jF (bE hk),aK hk,qA,bM wg]);·simp only[nE];rw[jG wF]
theorem NI{s:M.aN}{v:Int}(j:s.ok):Fh s v=some (gJ (λc:M.aKv=>c.aKb==v) s.aKi):=by unfold Fh;rw[MH (f:=λc:M.aKv=>c.aKb==v) j.aKi.1 (λx _=>by simp only[GC]),qA]
def Jc(a b:ByteArray)(x:M.aK2):Bool:=(x.aKl.toList==a.toList)&&(x.aLQ.toList==b.toList)
theorem Kj{c:M.aKv}{a b:ByteArray}(hc:c.ok):BQ c a b=some (gJ (Jc a b) c.aKs):=by have j:=aZ hc.aKs.1;unfold BQ;rw[oQ (L:=oJ c a b) (f:=Jc a b) (A:=λi=>some (i:Int)) (E:=some (-1)) hc.aKs.1 (λm k hk=> ?_) (λm=> ?_),tK];(simp only[oJ];rw[jF (bE hk),aK hk,qA,bM wg,aAo];rfl);·simp only[oJ];rw[jG wF]
theorem P3{c:M.aKv}{a b:ByteArray}(hc:c.ok):sV c a b=some (gJ (Jc a b) c.aKs):=by unfold sV;rw[Gz (f:=Jc a b) hc.aKs.1 (λx _=>by simp only[yY,bI];rfl),qA]
def NW(s:M.aN)(v:Int):Nat:=(s.aKi.takeWhile λc=>decide (c.aKb<v)).length
def Gm(s:M.aN)(v:Int)(k:Nat):List M.aKv:=s.aKi.take k++(⟨v,[]⟩::s.aKi.drop k)
def Kc(s:M.aN)(v:Int):M.aN×Bool:=if(mR s&&mR ⟨Gm s v (NW s v)⟩)=true then(⟨Gm s v (NW s v)⟩,true)else(s,false)
theorem Sj{s:M.aN}{v:Int}(C:s.ok)(I:inI v)(J:s.aKi.length<=1073741824)(k:Nat):M.aN.ok ⟨Gm s v k⟩:=by refine⟨⟨?_,λx j=> ?_⟩⟩;(show(Gm s v k).length<=maxLen;unfold Gm maxLen;simp only[qE,qJ,qV,qW];omega);·have j:x∈Gm s v k:=j;unfold Gm at j;rcases qP.1 j with j|j;(exact C.aKi.2 x (qk j));·rcases qq.1 j with rfl|j;(exact⟨I,⟨by simp[maxLen],wb⟩⟩);·exact C.aKi.2 x (qv j)
def Qw(s:M.aN)(v:Int)(k:Nat):Option (M.aN×Bool):=(dC s).bind λa=>if(!a)=true then(dY s).bind λy=>some (y,false)else(dC ⟨Gm s v k⟩).bind λb=>if(!b)=true then(dY s).bind λy=>some (y,false)else some (⟨Gm s v k⟩,true)
theorem NT{s:M.aN}{v:Int}(j:s.ok)(J:inI v)(C:M.aN.sz s<=1073741824):rJ s v=some (Kc s v):=by
 have I:s.aKi.length<=1073741824:=by simp only[M.aN.sz]at C;omega
 have U:=aZ j.aKi.1
 unfold rJ
 rw[ES s C,qA,KI (l:=s.aKi) (f:=λc:M.aKv=>decide (c.aKb<v)) (L:=nP s v s) (S:=Qw s v) j.aKi.1 (λn k hk=> ?_) (λn=> ?_)]
 ·unfold Qw Kc;rw[sP j,qA,sP (Sj j J I _),qA,ES s C,qA];show _=some (if(mR s&&mR ⟨Gm s v (NW s v)⟩)=true then _ else _);unfold NW;generalize mR ⟨Gm s v (List.takeWhile (λc:M.aKv=>decide (c.aKb<v)) s.aKi).length⟩=b;cases mR s<;>cases b<;>rfl
 ·simp only[nP];rw[jF (bE hk),aK hk,qA,bM wg];by_cases h:s.aKi[k].aKb<v;(rw[jF wM,jF wM]);·rw[jG wM,jG wM];rw[Ew wg,qA,qH,dK wB,qA,dK jw,qA,dK js,qA,qT];rfl
 ·simp only[nP];rw[jG wF];rw[Ew (qg _),qA,qH,dK wB,qA,dK jw,qA,dK js,qA,qT];rfl
theorem YO{s:M.aN}{v:Int}(j:s.ok)(I:inI v)(J:M.aN.sz s<=1073741824):M.aN.ok (Kc s v).1:=by
 have C:s.aKi.length<=1073741824:=by simp only[M.aN.sz]at J;omega
 unfold Kc
 split
 ·exact Sj j I C _
 ·exact j
theorem WN{s:M.aN}{v:Int}(h:(Kc s v).2=true):mR (Kc s v).1=true:=by unfold Kc at h⊢;split at h;(rename_i h1;rw[jF h1];exact(Bool.and_eq_true_iff.1 h1).2);·cases h
def Nc(c:M.aKv)(a p:ByteArray)(x:M.aKo):M.aKv:=⟨c.aKb,if gJ (Jc a p) c.aKs>=0 then c.aKs.set (gJ (Jc a p) c.aKs).toNat ⟨a,p,x⟩else c.aKs++[⟨a,p,x⟩]⟩
def Qv(s:M.aN)(v:Int)(a p:ByteArray)(x:M.aKo):List M.aKv:=match s.aKi[(gJ (λc:M.aKv=>c.aKb==v) s.aKi).toNat]? with
 |some c=>s.aKi.set (gJ (λc:M.aKv=>c.aKb==v) s.aKi).toNat (Nc c a p x)
 |none=>s.aKi
def PE(s:M.aN)(v:Int)(a p:ByteArray)(x:M.aKo):M.aN×Bool:=if gJ (λc:M.aKv=>c.aKb==v) s.aKi<0 then(s,false)else if(mR s&&mR ⟨Qv s v a p x⟩)=true then(⟨Qv s v a p x⟩,true)else(s,false)
theorem Xv{c:M.aKv}{a p:ByteArray}{x:M.aKo}(hc:c.ok)(U:c.aKs.length<=1073741824)(C:a.size<=maxLen)(I:p.size<=maxLen)(J:x.ok):M.aKv.ok (Nc c a p x):=by unfold Nc;refine⟨hc.aKb,?_⟩;dsimp only;split;(refine⟨by rw[qN];exact hc.aKs.1,λy j=> ?_⟩;rcases jE j with j|rfl;(exact hc.aKs.2 y j);·exact⟨C,I,J⟩);·refine⟨by simp only[qE,qJ,qK];unfold maxLen;omega,λy j=> ?_⟩;rcases qP.1 j with j|j;(exact hc.aKs.2 y j);·rw[qQ.1 j];exact⟨C,I,J⟩
theorem SH{s:M.aN}{v:Int}{a p:ByteArray}{x:M.aKo}(C:s.ok)(hz:M.aN.sz s<=1073741824)(J:a.size<=maxLen)(U:p.size<=maxLen)(hx:x.ok):M.aN.ok ⟨Qv s v a p x⟩:=by unfold Qv;split;(rename_i c hc;refine⟨⟨by show List.length (List.set _ _ _)<=_;rw[qN];exact C.aKi.1,λy I=> ?_⟩⟩;have j:=jD hc;have z:=dW (f:=M.aKv.sz) j;rcases jE I with I|rfl;(exact C.aKi.2 y I);·exact Xv (C.aKi.2 c j) (by simp only[M.aN.sz]at hz;simp only[M.aKv.sz]at z;omega) J U hx);·exact C
theorem Y0{s:M.aN}{v:Int}{a p:ByteArray}{x:M.aKo}{j:Nat}(C:gJ (λc:M.aKv=>c.aKb==v) s.aKi=j)(I:j<s.aKi.length):Qv s v a p x=s.aKi.set j (Nc s.aKi[j] a p x):=by unfold Qv;rw[C,qH,qF I]
theorem Yf{c:M.aKv}{a p:ByteArray}{x:M.aKo}{i:Nat}(j:gJ (Jc a p) c.aKs=i):Nc c a p x=⟨c.aKb,c.aKs.set i ⟨a,p,x⟩⟩:=by unfold Nc;rw[j,jF wg,qH]
theorem Xk{c:M.aKv}{a p:ByteArray}{x:M.aKo}(h:¬gJ (Jc a p) c.aKs>=0):Nc c a p x=⟨c.aKb,c.aKs++[⟨a,p,x⟩]⟩:=by unfold Nc;rw[jG h]
theorem JZ{s:M.aN}{v:Int}{a p:ByteArray}{x:M.aKo}(C:s.ok)(J:M.aN.sz s<=1073741824)(ha:a.size<=maxLen)(hp:p.size<=maxLen)(hx:x.ok)(zx:M.aKo.sz x<=1073741824):pU s v a p x=some (PE s v a p x):=by
 have hout:=SH (v:=v) (a:=a) (p:=p) (x:=x) C J ha hp hx
 unfold pU PE
 rw[ES s J,qA,Ii C,qA]
 by_cases h:gJ (λc:M.aKv=>c.aKb==v) s.aKi<0
 ·rw[jF wM,jF h]
 ·rw[jG wM,jG h]
  obtain⟨j,ej,I⟩:=cT h
  rw[Y0 ej I]at hout⊢
  have hc:=C.aKi.2 _ (qG I)
  have z1:=dW (f:=M.aKv.sz) (qG I)
  have hl:s.aKi[j].aKs.length<=1073741824:=by simp only[M.aN.sz]at J;simp only[M.aKv.sz]at z1;omega
  rw[Kh x zx,qA,ej,aK I,qA,Kj hc,qA,qH]
  by_cases h2:gJ (Jc a p) s.aKi[j].aKs>=0
  ·obtain⟨i,U,hi⟩:=cT (f:=Jc a p) (xs:=s.aKi[j].aKs) wg;rw[Yf U]at hout⊢;rw[jF (by simpa using h2),U,aK hi,qA,qH,sP C,qA,sP hout,qA];generalize mR ⟨s.aKi.set j _⟩=b;cases mR s<;>cases b<;>rfl
  ·rw[Xk h2]at hout⊢;rw[jG (by simpa using h2),dK jz,qA,sP C,qA,sP hout,qA];generalize mR ⟨s.aKi.set j _⟩=b;cases mR s<;>cases b<;>rfl
theorem XE{s:M.aN}{v:Int}{a p:ByteArray}{x:M.aKo}(h:(PE s v a p x).2=true):mR (PE s v a p x).1=true:=by unfold PE at h⊢;split at h;(cases h);·rename_i j;rw[jG j];split at h;(rename_i h1;rw[jF h1];exact(Bool.and_eq_true_iff.1 h1).2);·cases h
theorem aAt{s:M.aN}{v:Int}{a p:ByteArray}{x:M.aKo}(j:s.ok)(U:M.aN.sz s<=1073741824)(C:a.size<=maxLen)(I:p.size<=maxLen)(J:x.ok):M.aN.ok (PE s v a p x).1:=by unfold PE;split;(exact j);·split;(exact SH j U C I J);·exact j
theorem aBz{x a b:Int}(h:inR x a b=true):a<=x/\x<=b:=by unfold inR at h;simpa using h
theorem Nd{s:M.aN}(h:mR s=true):M.aN.sz s<=65536:=by
 unfold mR at h
 rw[qM]at h
 have h2:s.aKi.length<=4:=by simpa using h.2
 have hc:∀c∈s.aKi,M.aKv.sz c<=4096:=by
  intro c hc
  obtain⟨k,hk,rfl⟩:=List.getElem_of_mem hc
  have h3:=qR.1 h.1 k (qS.2 hk)
  unfold JE at h3
  rw[qF hk,qf,qM,qM]at h3
  have h4:=h3.1.2
  unfold HO at h4
  rw[qM]at h4
  have h5:s.aKi[k].aKs.length<=12:=by simpa using h4.2
  have he:∀x∈s.aKi[k].aKs,M.aK2.sz x<=100:=by
   intro x U
   obtain⟨i,J,rfl⟩:=List.getElem_of_mem U
   have h6:=qR.1 h4.1 i (qS.2 J)
   unfold EI at h6
   rw[qF J,qf,qM,qM,qM]at h6
   obtain⟨j,C,I,_⟩:=h6
   unfold oO at j C
   rw[qM]at j C
   have r1:=aBz j.2
   have r2:=aBz C.2
   unfold Iy at I
   rw[qM,qM,qM]at I
   have r3:s.aKi[k].aKs[i].aKo.aLZ.length<=60:=by have:=I.2.2.2;simp at this;omega
   simp only[M.aK2.sz,M.aKo.sz]
   omega
  have:=eN he
  simp only[M.aKv.sz]
  omega
 have:=eN hc
 simp only[M.aN.sz]
 omega
theorem UQ{l:List M.cH}:∀{s:M.aD},s.ok->l.length<=maxLen->(∀w∈l,M.cH.ok w)->M.aD.sz s<=536870912->(Bs s l).ok/\M.aD.sz (Bs s l)<=536870912:=by
 induction l with
 |nil=>intro s j _ _ C;exact⟨j,C⟩
 |cons w l ih=>
  intro s j J I C
  have h:=Lr j (I w wb) C
  exact ih (s:=(Mz s w).1) h.1 (by simp only[qJ]at J;omega) (λy U=>I y (by simp[U])) h.2
def Iv(o:M.aO)(k:M.bD)(f:ByteArray)(n:Int):M.aO:=⟨o.aKk,i64.wrap (o.aLE+1),o.aKw++[⟨o.aKk,o.aLE,k,f,n⟩]⟩
def Pk(o:M.aO)(k:M.bD)(f:ByteArray)(n:Int):M.aO×Bool:=if uO o=true then if uO (Iv o k f n)=true then(Iv o k f n,true)else(o,false)else(o,false)
theorem RB{o:M.aO}{k:M.bD}{f:ByteArray}{n:Int}(C:o.ok)(hl:o.aKw.length<=1073741824)(hk:k.ok)(J:f.size<=maxLen)(U:inI n):(Iv o k f n).ok:=
 ⟨C.aKk,bS _,⟨by show(o.aKw++_).length<=maxLen;unfold maxLen;simp;omega,λy I=>by have j:y∈o.aKw++[⟨o.aKk,o.aLE,k,f,n⟩]:=I;simp only[qP,qq,qO,or_false]at j;rcases j with I|rfl;(exact C.aKw.2 y I);·exact⟨C.aKk,C.aLE,hk,J,U⟩⟩⟩
theorem aDU{o:M.aO}{k:M.bD}{f:ByteArray}{n:Int}(j:o.ok)(I:o.aKw.length<=1073741824)(hk:k.ok)(C:f.size<=maxLen)(J:inI n):(Pk o k f n).1.ok:=by unfold Pk;split;(split;(exact RB j I hk C J);·exact j);·exact j
theorem aCB(o:M.aO)(k:M.bD)(f:ByteArray)(n:Int):M.aO.sz (Pk o k f n).1<=M.aO.sz o+k.aK5.size+f.size+1:=by
 have h:M.aO.sz (Iv o k f n)<=M.aO.sz o+k.aK5.size+f.size+1:=by simp only[Iv,M.aO.sz,qE,qJ,qK,xT,dO,M.cH.sz,M.bD.sz];omega
 unfold Pk
 split
 ·split;(exact h);·show M.aO.sz o<=_;omega
 ·show M.aO.sz o<=_;omega
theorem F6{o:M.aO}{k:M.bD}{f:ByteArray}{n:Int}(j:o.ok)(J:M.aO.sz o<=536870912)(hk:k.ok)(C:f.size<=maxLen)(I:inI n):kN o k f n=some (Pk o k f n):=by
 have U:o.aKw.length<=536870912:=by simp only[M.aO.sz]at J;omega
 have e:=tO (RB (k:=k) (f:=f) (n:=n) j wg hk C I)
 unfold Iv at e
 unfold kN Pk
 rw[EK o wg,qA,tO j,qA,dK jz,qA,e,qA]
 unfold Iv
 cases uO o
 ·simp
 ·cases uO ⟨o.aKk,i64.wrap (o.aLE+1),o.aKw++[⟨o.aKk,o.aLE,k,f,n⟩]⟩<;>simp
