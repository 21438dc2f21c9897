/-
  Helper text. No conditions.
-/
import Derived.Test.YtndidbigdalbnaaGreatNotesWspec0
import Derived.Test.YtndidbigdalbnaaGreatNotesWspec1
import Derived.Test.YtndidbigdalbnaaGreatNotesWspec2
set_option linter.all false
namespace Go.Proofs.YtndidbigdalbnaaGreat.gen
open Go Go.Sh Tryz
set_option maxRecDepth 20000
set_option maxHeartbeats 4000000
instance aDJ:bU 156 (∀p0 r (h:dY p0=some r),Sc 156 [aX (M.aN.en p0)] [(true,M.aN.rs r)]):=⟨λp0 r h=>by
 have i1:=He [.b 3 0 7050000 262 2] λm s=>∃v4:Int,∃aa:List M.aKv,∃ae:Nat,(s.t 1=vP 1 1 0/\s.t 2=vP 2 1 0/\s.t 3=vP 3 1 0/\s.t 4=vI v4/\s.h 1=(1,oX 63 (M.aN.en p0))/\s.h 2=(1,oB 63 [.nil])/\s.h 3=(1,oB 63 [.row 7050000 ae])/\s.h 7050000=(ae,oW 262 2 M.aKv.en aa))/\sU p0 m v4 aa=some r
 have e1:=@sU.eq_2
 unfold dY at h
 exact sgo 25 [.cell 2 63] func156⟩
instance:bU 144 (∀p0 r (h:cP p0=some r),Sc 144 [aX (M.aD.en p0)] [(true,M.aD.rs r)]):=⟨λp0 r h=>by
 have i1:=He [.b 3 1 7050000 153 4] λm s=>∃v4:Int,∃aa:List M.aKy,∃ae:Nat,(s.t 1=vP 1 1 0/\s.t 2=vP 2 1 0/\s.t 3=vP 3 1 0/\s.t 4=vI v4/\s.h 1=(1,oX 66 (M.aD.en p0))/\s.h 2=(1,oB 66 [cS (⟨#[]⟩:ByteArray),.nil,cI 0])/\s.h 3=(1,oB 66 [cS p0.Name,.row 7050000 ae,cI p0.aK7])/\s.h 7050000=(ae,oW 153 4 M.aKy.en aa))/\vA p0 m v4 aa=some r
 have e1:=@vA.eq_2
 unfold cP at h
 exact sgo 29 [.cell 2 66] func144⟩
instance aC0:bU 145 (∀p0 r (h:fS p0=some r),Sc 145 [aX (M.aKc.en p0)] [(true,M.aKc.rs r)]):=⟨λp0 r h=>by
 have i1:=He [.b 3 2 7050000 66 3] λm s=>∃v4:Int,∃aa:List M.aD,∃ae:Nat,(s.t 1=vP 1 1 0/\s.t 2=vP 2 1 0/\s.t 3=vP 3 1 0/\s.t 4=vI v4/\s.h 1=(1,oX 56 (M.aKc.en p0))/\s.h 2=(1,WT)/\s.h 3=(1,oB 56 [cS p0.Name,cI p0.aKb,.row 7050000 ae,.row 100009 2])/\s.h 100009=(2,oW 248 2 M.aV.en p0.aKz)/\s.h 7050000=(ae,oW 66 3 M.aD.en aa))/\vD p0 m v4 aa=some r
 have e1:=@vD.eq_2
 unfold fS at h
 exact sgo 33 [.cell 2 56] func145⟩
instance aFX:bU 157 (∀p0 r (h:xB p0=some r),Sc 157 [aX (M.aH.en p0)] [(true,M.aH.rs r)]):=⟨λp0 r h=>by unfold xB at h;exact sgo 12 [.cell 2 73] func157⟩
instance:bU 81 (∀p0 r (h:iJ p0=some r),Sc 81 [aX (M.aKt.en p0)] [(true,M.aKt.rs r)]):=⟨λp0 r h=>by unfold iJ at h;exact sgo 15 [.cell 2 125] func81⟩
instance:bU 326 (∀p0 r (h:lV p0=some r),Sc 326 [aX (M.cH.en p0)] [rB r]):=⟨λp0 r h=>by unfold lV at h;exact sgo 26 [.tmp 2] func326⟩
instance:bU 268 (∀p0 r (h:kR p0=some r),Sc 268 [aX (M.aO.en p0)] [rB r]):=⟨λp0 r h=>by
 have i1:=inv λm s=>∃v4:Int,(s.t 1=vP 1 1 0/\s.t 3=vI (List.length p0.aKw:Int)/\s.t 4=vI v4/\s.h 1=(1,oX 69 (M.aO.en p0)))/\oZ p0 m v4=some r
 have e1:=@oZ.eq_2
 unfold kR at h
 exact sgo 60 [.tmp 2] func268⟩
instance:bU 154 (∀p0 r (h:mT p0=some r),Sc 154 [aX (M.bD.en p0)] [rW 5 1 enB r]):=⟨λp0 r h=>by
 have i1:=inv λm s=>∃v4:Int,∃aa:List Int,∃ae:Nat,(s.t 1=vP 1 1 0/\s.t 3=vR 100012 ae/\s.t 4=vI v4/\s.h 1=(1,oX 98 (M.bD.en p0))/\s.h 100012=(ae,oW 5 1 enB aa))/\bT p0 m v4 aa=some r
 have e1:=@bT.eq_2
 unfold mT at h
 exact sgo 38 [.tmp 2] func154⟩
instance:bU 288 (∀p0 r (h:Am p0=some r),Sc 288 [aX (M.aW.en p0)] [rB r]):=⟨λp0 r h=>by
 have i1:=inv λm s=>∃v3:Int,(s.t 1=vP 1 1 0/\s.t 3=vI v3/\s.h 1=(1,oX 30 (M.aW.en p0)))/\gS p0 m v3=some r
 have e1:=@gS.eq_2
 have i2:=λ(v3:Int) (x6:M.vE) (ae:Int->Option Bool) (s1:St)=>inv λm s=>∃aa:Int,(s.t 1=vP 1 1 0/\s.t 3=vI v3/\s.t 4=vP 4 ((s1.h 4).1+1) 0/\s.t 5=vI aa/\s.h 1=(1,oX 30 (M.aW.en p0))/\s.h 4=((s1.h 4).1+1,oX 113 (M.vE.en x6)))/\dJ p0 v3 x6 ae m aa=some r
 have e2:=@dJ.eq_2
 unfold Am at h
 exact sgo 67 [.tmp 2] func288⟩
instance aEk:bU 109 (∀p0 p1 r (h:iQ p0 p1=some r),Sc 109 [(false,[.ptr [.sl (List.map enB p0.b),.int .i64 p0.i,.int .i64 p0.h]]),aL enS p1] [(false,[.edit (.lend 138 [.int .i64 r.1,.int .i64 r.2.1])]),rS r.2.2]):=⟨λp0 p1 r h=>by
 unfold iQ at h
 simp only[EN]
 refine sgB 12 [.tmp 4] func109 λbase wd B0 u0 hw0=> ?_
 refine bY (J:=λs=>s.t 0=vP 7059000 1 0/\s.t 1=vL enS p1/\s.h 7059000=(1,oB 138 [.old B0 (.sl (List.map enB p0.b)) (some u0),cI p0.i,cI p0.h])/\True) ?_ ?_
 ·and_intros<;>(try simp only[LN,jJ,jK])<;>rfl
 rintro s1 f2
 exact sgX⟩
instance:bU 222 (∀p0 r (h:C6 p0=some r),Sc 222 [(false,[.ptr [.sl (List.map enB p0.b),.int .i64 p0.i,.int .i64 p0.h]])] [(false,[.edit (.lend 138 [.int .i64 r.1,.int .i64 r.2.1])]),rS r.2.2]):=⟨λp0 r h=>by
 unfold C6 at h
 simp only[EN]
 refine sgB 6 [.tmp 2] func222 λbase wd B0 u0 hw0=> ?_
 refine bY (J:=λs=>s.t 0=vP 7059000 1 0/\s.h 7059000=(1,oB 138 [.old B0 (.sl (List.map enB p0.b)) (some u0),cI p0.i,cI p0.h])/\True) ?_ ?_
 ·and_intros<;>(try simp only[LN,jJ,jK])<;>rfl
 rintro s1 f2
 exact sgX⟩
instance c50:bU 50 (∀p0 r (h:cE p0=some r),Sc 50 [(false,[.ptr [.sl (List.map enB p0.b),.int .i64 p0.i,.int .i64 p0.h]])] [(false,[.edit (.lend 138 [.int .i64 r.1,.int .i64 r.2.1])]),rS r.2.2]):=⟨λp0 r h=>by
 unfold cE at h
 simp only[EN]
 refine sgB 6 [.tmp 2] func50 λbase wd B0 u0 hw0=> ?_
 refine bY (J:=λs=>s.t 0=vP 7059000 1 0/\s.h 7059000=(1,oB 138 [.old B0 (.sl (List.map enB p0.b)) (some u0),cI p0.i,cI p0.h])/\True) ?_ ?_
 ·and_intros<;>(try simp only[LN,jJ,jK])<;>rfl
 rintro s1 f2
 exact sgX⟩
instance:bU 289 (∀p0 p1 r (h:Ao p0 p1=some r),Sc 289 [aX (M.aY.en p0),aI p1] [rB r]):=⟨λp0 p1 r h=>by
 unfold Ao at h
 simp only[EN]
 refine sgn 74 [.tmp 4] func289 λbase wd=> ?_
 refine sq (rn ?_)
 refine an ?_
 obtain⟨x1,h2,h⟩:=aA h
 refine yN (λs=>s.t 1=vI p1/\s.t 2=vP 2 1 0/\s.t 5=vB x1/\s.h 2=(1,oX 229 (M.aY.en p0))/\True) ?_ ?_
 ·replace h:=h2;clear h2;rcases gK (p0.aKx==5)with b8|b8;(replace h:=bQ b8 h;refine rn ?_;cases h;exact fB zM);replace h:=bP b8 h;obtain⟨x9,bt,h⟩:=aA h;refine rn1 (Xl.1 _ _ _ _ bt) ?_;cases h;exact fB zM
 clear h2
 rintro s3 f4
 refine sq (rn ?_)
 refine an ?_
 obtain⟨bu,aa,h⟩:=aA h
 refine yN (λs=>s.t 2=vP 2 1 0/\s.t 5=vB x1/\s.t 6=vI bu/\s.h 2=(1,oX 229 (M.aY.en p0))/\True) ?_ ?_
 ·replace h:=aa;clear aa;refine sq (rn ?_);refine an (bk (sq (rn ?_)));refine an ?_;rcases gK (p0.aKx==1)with ae|ae;(replace h:=bQ ae h;refine ct (rn ?_);refine ab ?_;cases h;exact fB zM);replace h:=bP ae h;refine cf (sq (rn ?_));refine an ?_;rcases gK (p0.aKx==2)with af|af;(replace h:=bQ af h;refine ct (rn ?_);refine ab ?_;cases h;exact fB zM);replace h:=bP af h;refine cf ?_;obtain⟨bl,ah,h⟩:=aA h;refine yN (λs=>s.t 1=vI p1/\s.t 2=vP 2 1 0/\s.t 5=vB x1/\s.t 6=vI 0/\s.t 16=vI p0.aKx/\s.t 21=vB bl/\s.h 2=(1,oX 229 (M.aY.en p0))/\True) ?_ ?_;(replace h:=ah;clear ah;refine sq (rn ?_);refine an ?_;rcases gK (p0.aKx==3)with ai|ai;(replace h:=bQ ai h;refine ct (sk ?_);cases h;exact fB zM);replace h:=bP ai h;refine cf (rn ?_);cases h;exact fB zM);clear ah;rintro cd f23;rcases gK bl with aj|aj;(replace h:=bQ aj h;refine ct (rn ?_);refine ab ?_;cases h;exact fB zM);replace h:=bP aj h;refine cf ?_;obtain⟨bm,ak,h⟩:=aA h;refine yN (λs=>s.t 2=vP 2 1 0/\s.t 5=vB x1/\s.t 6=vI 0/\s.t 25=vB bm/\s.h 2=(1,oX 229 (M.aY.en p0))/\True) ?_ ?_;(replace h:=ak;clear ak;refine sq (rn ?_);refine an ?_;rcases gK (p0.aKx==6)with al|al;(replace h:=bQ al h;refine ct (sk ?_);cases h;exact fB zM);replace h:=bP al h;refine cf (sq (rn ?_));refine an ?_;rcases gK (p0.aKx==7)with ao|ao;(replace h:=bQ ao h;refine ct (sk ?_);cases h;exact fB zM);replace h:=bP ao h;refine cf (rn ?_);cases h;exact fB zM);clear ak;rintro cg f35;rcases CP bm with aq|aq;(replace h:=bP aq h;refine cf (sk (ab ?_));cases h;exact fB zM);replace h:=bQ aq h;refine ct (rn ?_);refine ab ?_;cases h;exact fB zM
 clear aa
 rintro cj f14
 refine sq ?_
 obtain⟨bn,ar,h⟩:=aA h
 refine yN (λs=>s.t 2=vP 2 1 0/\s.t 5=vB x1/\s.t 45=vB bn/\s.h 2=(1,oX 229 (M.aY.en p0))/\True) ?_ ?_
 ·replace h:=ar;clear ar;obtain⟨bw,av,h⟩:=aA h;rcases gK (!bw)with aw|aw;(replace h:=bQ aw h;refine rn1 (Xl.1 _ _ _ _ av) ?_;cases h;exact fB zM);replace h:=bP aw h;obtain⟨bx,bo,h⟩:=aA h;rcases gK (!bx)with ax|ax;(replace h:=bQ ax h;refine rn2 (Xl.1 _ _ _ _ av) (Xl.1 _ _ _ _ bo) ?_;cases h;exact fB zM);replace h:=bP ax h;obtain⟨ck,bz,h⟩:=aA h;refine rn3 (Xl.1 _ _ _ _ av) (Xl.1 _ _ _ _ bo) (Xl.1 _ _ _ _ bz) ?_;cases h;exact fB zM
 clear ar
 rintro cl f46
 rcases gK bn with ay|ay
 ·replace h:=bQ ay h;refine ct (sq (rn ?_));exact an (rt zR)
 replace h:=bP ay h
 refine cf (sk (an (sq ?_)))
 obtain⟨bq,az,h⟩:=aA h
 refine yN (λs=>s.t 2=vP 2 1 0/\s.t 5=vB x1/\s.t 58=vB bq/\s.h 2=(1,oX 229 (M.aY.en p0))/\True) ?_ ?_
 ·replace h:=az;clear az;rcases gK (p0.aKx==4)with ba|ba;(replace h:=bQ ba h;refine rn ?_;cases h;exact fB zM);replace h:=bP ba h;rcases gK (p0.aKx==9)with bd|bd;(replace h:=bQ bd h;refine rn ?_;cases h;exact fB zM);replace h:=bP bd h;refine rn ?_;cases h;exact fB zM
 clear az
 rintro cn f62
 rcases gK bq with bf|bf
 ·replace h:=bQ bf h;refine ct (sq (rn ?_));exact an (rt zR)
 replace h:=bP bf h
 refine cf (sk (an ?_))
 obtain⟨ca,bg,h⟩:=aA h
 refine yN (λs=>s.t 4=vB ca/\True) ?_ ?_
 ·replace h:=bg;clear bg;rcases CP x1 with bh|bh;(replace h:=bP bh h;refine rn ?_;cases h;exact fB zM);replace h:=bQ bh h;obtain⟨cc,br,h⟩:=aA h;rcases gK cc with bj|bj;(replace h:=bQ bj h;refine rn1 (aEF.1 _ _ br) ?_;cases h;exact fB zM);replace h:=bP bj h;refine rn1 (aEF.1 _ _ br) ?_;cases h;exact fB zM
 clear bg
 rintro cp ⟨f72,_⟩
 exact rt zR⟩
instance:bU 308 (∀p0 r (h:Cr p0=some r),Sc 308 [aL M.aY.en p0] [rB r]):=⟨λp0 r h=>by
 have i1:=inv λm s=>∃v3:Int,(s.t 0=vL M.aY.en p0/\s.t 3=vI v3)/\pF p0 m v3=some r
 have e1:=@pF.eq_2
 unfold Cr at h
 exact sgo 21 [.tmp 2] func308⟩
instance:bU 168 (∀p0 r (h:Eu p0=some r),Sc 168 [aL enI p0] [rI r]):=⟨λp0 r h=>by
 have i1:=inv λm s=>∃v3:Int,∃v4:Int,(s.t 0=vL enI p0/\s.t 3=vI v3/\s.t 4=vI v4)/\Ar p0 m v3 v4=some r
 have e1:=@Ar.eq_2
 unfold Eu at h
 exact sgo 22 [.tmp 2] func168⟩
instance:bU 367 (∀p0 p1 r (h:zF p0 p1=some r),Sc 367 [aI p0,aL enI p1] [rI r]):=⟨λp0 p1 r h=>by unfold zF at h;exact sgo 13 [.tmp 4] func367⟩
instance:bU 226 (∀p0 r (h:Bb p0=some r),Sc 226 [aX (M.aKh.en p0)] [(true,M.aKh.rs r.1),(true,M.Ask.rs r.2)]):=⟨λp0 r h=>by
 have i1:=λ(x1:M.aKh)=>inv λm s=>∃aa:Int,∃ae:Int,∃r7:List Int,(s.t 2=vP 2 1 0/\s.t 3=vP 3 1 0/\s.t 4=vP 4 1 0/\s.h 2=(1,aH3)/\s.h 3=(1,aDu)/\s.h 4=(1,oB 42 [.row 100007 1,cI aa,.row 300007 1,cI ae,cB x1.aLU,cB x1.aLR])/\s.h 100007=(1,oW 229 4 M.aY.en x1.aLA)/\s.h 300007=(1,oW 3 1 enI r7))/\eK x1 m aa ae r7=some r
 have e1:=@eK.eq_2
 unfold Bb at h
 exact sgo 139 [.cell 2 42,.cell 3 283] func226⟩
instance:bU 104 (∀p0 p1 r (h:AK p0 p1=some r),Sc 104 [aI p0,aL enB p1] [rI r]):=⟨λp0 p1 r h=>by unfold AK at h;exact sgo 11 [.tmp 4] func104⟩
instance aDa:bU 175 (∀p0 r (h:sX p0=some r),Sc 175 [(false,[.ptr [.sl (List.map enB p0.b),.int .i64 p0.i,.int .i64 p0.h]])] [(false,[.edit (.lend 138 [.int .i64 r.1,.int .i64 r.2.1])]),rS r.2.2]):=⟨λp0 r h=>by
 unfold sX at h
 simp only[EN]
 refine sgB 6 [.tmp 2] func175 λbase wd B0 u0 hw0=> ?_
 refine bY (J:=λs=>s.t 0=vP 7059000 1 0/\s.h 7059000=(1,oB 138 [.old B0 (.sl (List.map enB p0.b)) (some u0),cI p0.i,cI p0.h])/\True) ?_ ?_
 ·and_intros<;>(try simp only[LN,jJ,jK])<;>rfl
 rintro s1 f2
 exact sgX⟩
instance aEh:bU 296 (∀p0 r (h:fE p0=some r),Sc 296 [(false,[.ptr [.sl (List.map enB p0.b),.int .i64 p0.i,.int .i64 p0.h]])] [(false,[.edit (.lend 138 [.int .i64 r.1,.int .i64 r.2.1])]),(true,M.bD.rs r.2.2)]):=⟨λp0 r h=>by
 unfold fE at h
 simp only[EN]
 refine sgB 6 [.cell 2 98] func296 λbase wd B0 u0 hw0=> ?_
 refine bY (J:=λs=>s.t 0=vP 7059000 1 0/\s.h 7059000=(1,oB 138 [.old B0 (.sl (List.map enB p0.b)) (some u0),cI p0.i,cI p0.h])/\True) ?_ ?_
 ·and_intros<;>(try simp only[LN,jJ,jK])<;>rfl
 rintro s1 f2
 exact sgX⟩
instance aFD:bU 179 (∀p0 r (h:BW p0=some r),Sc 179 [(false,[.ptr [.sl (List.map enB p0.b),.int .i64 p0.i,.int .i64 p0.h]])] [(false,[.edit (.lend 138 [.int .i64 r.1,.int .i64 r.2.1])]),rS r.2.2]):=⟨λp0 r h=>by
 unfold BW at h
 simp only[EN]
 refine sgB 6 [.tmp 2] func179 λbase wd B0 u0 hw0=> ?_
 refine bY (J:=λs=>s.t 0=vP 7059000 1 0/\s.h 7059000=(1,oB 138 [.old B0 (.sl (List.map enB p0.b)) (some u0),cI p0.i,cI p0.h])/\True) ?_ ?_
 ·and_intros<;>(try simp only[LN,jJ,jK])<;>rfl
 rintro s1 f2
 exact sgX⟩
theorem aKL(p0 p1 r)(h:HV p0 p1=some r):Sc 376 [aX (M.aKc.en p0),aS p1] [(true,M.aKc.rs r)]:=by
 have i1:=He [.b 5 2 7050000 66 3] λm s=>∃U:Int,∃j:List M.aD,∃C:Nat,(s.t 1=vS p1/\s.t 2=vP 2 1 0/\s.t 4=vP 4 1 0/\s.t 5=vP 5 1 0/\s.t 6=vI U/\s.h 2=(1,oX 56 (M.aKc.en p0))/\s.h 4=(1,WT)/\s.h 5=(1,oB 56 [cS p0.Name,cI p0.aKb,.row 7050000 C,.nil])/\s.h 7050000=(C,oW 66 3 M.aD.en j))/\BO p0 p1 m U j=some r
 have e1:=@BO.eq_2
 have i2:=λ(j:List M.aD) (C:Nat)=>He [.b 5 3 7050100 248 2] λm s=>∃v7:Int,∃I:List M.aV,∃J:Nat,(s.t 1=vS p1/\s.t 2=vP 2 1 0/\s.t 4=vP 4 1 0/\s.t 5=vP 5 1 0/\s.t 7=vI v7/\s.h 2=(1,oX 56 (M.aKc.en p0))/\s.h 4=(1,WT)/\s.h 5=(1,oB 56 [cS p0.Name,cI p0.aKb,.row 7050000 C,.row 7050100 J])/\s.h 7050000=(C,oW 66 3 M.aD.en j)/\s.h 7050100=(J,oW 248 2 M.aV.en I))/\BB p0 p1 j m v7 I=some r
 have e2:=@BB.eq_2
 unfold HV at h
 exact sgo 65 [.cell 4 56] func376
