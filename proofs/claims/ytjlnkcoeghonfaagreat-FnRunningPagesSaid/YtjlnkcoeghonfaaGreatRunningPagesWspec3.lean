/-
  Helper text. No conditions.
-/
import Derived.Test.YtjlnkcoeghonfaaGreatRunningPagesWspec0
import Derived.Test.YtjlnkcoeghonfaaGreatRunningPagesWspec1
import Derived.Test.YtjlnkcoeghonfaaGreatRunningPagesWspec2
set_option linter.all false
namespace Go.Proofs.YtjlnkcoeghonfaaGreat.gen
open Go Go.Sh Tryz
set_option maxRecDepth 20000
set_option maxHeartbeats 4000000
instance aCG:bK 334 (∀p0 r (h:eC p0=some r),Sc 334 [aX (M.aJ.en p0)] [(true,M.aJ.rs r)]):=⟨λp0 r h=>by
 have i1:=G8 [.b 3 0 7050000 277 2] λm s=>∃v4:Int,∃aa:List M.aLi,∃ae:Nat,(s.t 1=vP 1 1 0/\s.t 2=vP 2 1 0/\s.t 3=vP 3 1 0/\s.t 4=vI v4/\s.h 1=(1,oX 66 (M.aJ.en p0))/\s.h 2=(1,oB 66 [.nil])/\s.h 3=(1,oB 66 [.row 7050000 ae])/\s.h 7050000=(ae,oW 277 2 M.aLi.en aa))/\tZ p0 m v4 aa=some r
 have e1:=@tZ.eq_2
 unfold eC at h
 exact sgo 25 [.cell 2 66] func334⟩
instance:bK 224 (∀p0 r (h:cM p0=some r),Sc 224 [aX (M.aE.en p0)] [(true,M.aE.rs r)]):=⟨λp0 r h=>by
 have i1:=G8 [.b 3 1 7050000 320 4] λm s=>∃v4:Int,∃aa:List M.aLo,∃ae:Nat,(s.t 1=vP 1 1 0/\s.t 2=vP 2 1 0/\s.t 3=vP 3 1 0/\s.t 4=vI v4/\s.h 1=(1,oX 75 (M.aE.en p0))/\s.h 2=(1,oB 75 [cS (⟨#[]⟩:ByteArray),.nil,cI 0])/\s.h 3=(1,oB 75 [cS p0.Name,.row 7050000 ae,cI p0.aLx])/\s.h 7050000=(ae,oW 320 4 M.aLo.en aa))/\xI p0 m v4 aa=some r
 have e1:=@xI.eq_2
 unfold cM at h
 exact sgo 29 [.cell 2 75] func224⟩
instance:bK 31 (∀p0 r (h:mZ p0=some r),Sc 31 [aX (M.bO.en p0)] [(true,M.bO.rs r)]):=⟨λp0 r h=>by unfold mZ at h;exact sgo 15 [.cell 2 91] func31⟩
instance:bK 232 (∀p0 r (h:cA p0=some r),Sc 232 [aX (M.aF.en p0)] [rB r]):=⟨λp0 r h=>by
 have i1:=inv λm s=>∃v3:Int,(s.t 1=vP 1 1 0/\s.t 3=vI v3/\s.h 1=(1,oX 207 (M.aF.en p0)))/\kK p0 m v3=some r
 have e1:=@kK.eq_2
 unfold cA at h
 exact sgo 53 [.tmp 2] func232⟩
instance:bK 318 (∀p0 p1 r (h:bW p0 p1=some r),Sc 318 [aX (M.bD.en p0),aX (M.bD.en p1)] [rI r]):=⟨λp0 p1 r h=>by unfold bW at h;exact sgo 46 [.tmp 4] func318⟩
instance:bK 91 (∀p0 r (h:yA p0=some r),Sc 91 [aX (M.bO.en p0)] [rB r]):=⟨λp0 r h=>by
 have i1:=inv λm s=>∃v3:Int,(s.t 1=vP 1 1 0/\s.t 3=vI v3/\s.h 1=(1,oX 91 (M.bO.en p0)))/\xC p0 m v3=some r
 have e1:=@xC.eq_2
 unfold yA at h
 exact sgo 54 [.tmp 2] func91⟩
instance:bK 111 (∀p0 p1 r (h:A9 p0 p1=some r),Sc 111 [aX (M.aZ.en p0),aI p1] [rB r]):=⟨λp0 p1 r h=>by
 unfold A9 at h
 simp only[EN]
 refine sgn 74 [.tmp 4] func111 λbase wd=> ?_
 refine sq (rn ?_)
 refine an ?_
 obtain⟨x1,h2,h⟩:=aA h
 refine tV (λs=>s.t 1=vI p1/\s.t 2=vP 2 1 0/\s.t 5=vB x1/\s.h 2=(1,oX 197 (M.aZ.en p0))/\True) ?_ ?_
 ·replace h:=h2;clear h2;rcases dX (p0.aLn==5)with b8|b8;(replace h:=bN b8 h;refine rn ?_;cases h;exact cZ zM);replace h:=bM b8 h;obtain⟨x9,bt,h⟩:=aA h;refine rn1 (c93.1 _ _ _ _ bt) ?_;cases h;exact cZ zM
 clear h2
 rintro s3 f4
 refine sq (rn ?_)
 refine an ?_
 obtain⟨bu,aa,h⟩:=aA h
 refine tV (λs=>s.t 2=vP 2 1 0/\s.t 5=vB x1/\s.t 6=vI bu/\s.h 2=(1,oX 197 (M.aZ.en p0))/\True) ?_ ?_
 ·replace h:=aa;clear aa;refine sq (rn ?_);refine an (bk (sq (rn ?_)));refine an ?_;rcases dX (p0.aLn==1)with ae|ae;(replace h:=bN ae h;refine ct (rn ?_);refine ab ?_;cases h;exact cZ zM);replace h:=bM ae h;refine cf (sq (rn ?_));refine an ?_;rcases dX (p0.aLn==2)with af|af;(replace h:=bN af h;refine ct (rn ?_);refine ab ?_;cases h;exact cZ zM);replace h:=bM af h;refine cf ?_;obtain⟨bl,ah,h⟩:=aA h;refine tV (λs=>s.t 1=vI p1/\s.t 2=vP 2 1 0/\s.t 5=vB x1/\s.t 6=vI 0/\s.t 16=vI p0.aLn/\s.t 21=vB bl/\s.h 2=(1,oX 197 (M.aZ.en p0))/\True) ?_ ?_;(replace h:=ah;clear ah;refine sq (rn ?_);refine an ?_;rcases dX (p0.aLn==3)with ai|ai;(replace h:=bN ai h;refine ct (sk ?_);cases h;exact cZ zM);replace h:=bM ai h;refine cf (rn ?_);cases h;exact cZ zM);clear ah;rintro cd f23;rcases dX bl with aj|aj;(replace h:=bN aj h;refine ct (rn ?_);refine ab ?_;cases h;exact cZ zM);replace h:=bM aj h;refine cf ?_;obtain⟨bm,ak,h⟩:=aA h;refine tV (λs=>s.t 2=vP 2 1 0/\s.t 5=vB x1/\s.t 6=vI 0/\s.t 25=vB bm/\s.h 2=(1,oX 197 (M.aZ.en p0))/\True) ?_ ?_;(replace h:=ak;clear ak;refine sq (rn ?_);refine an ?_;rcases dX (p0.aLn==6)with al|al;(replace h:=bN al h;refine ct (sk ?_);cases h;exact cZ zM);replace h:=bM al h;refine cf (sq (rn ?_));refine an ?_;rcases dX (p0.aLn==7)with ao|ao;(replace h:=bN ao h;refine ct (sk ?_);cases h;exact cZ zM);replace h:=bM ao h;refine cf (rn ?_);cases h;exact cZ zM);clear ak;rintro cg f35;rcases Dz bm with aq|aq;(replace h:=bM aq h;refine cf (sk (ab ?_));cases h;exact cZ zM);replace h:=bN aq h;refine ct (rn ?_);refine ab ?_;cases h;exact cZ zM
 clear aa
 rintro cj f14
 refine sq ?_
 obtain⟨bn,ar,h⟩:=aA h
 refine tV (λs=>s.t 2=vP 2 1 0/\s.t 5=vB x1/\s.t 45=vB bn/\s.h 2=(1,oX 197 (M.aZ.en p0))/\True) ?_ ?_
 ·replace h:=ar;clear ar;obtain⟨bw,av,h⟩:=aA h;rcases dX (!bw)with aw|aw;(replace h:=bN aw h;refine rn1 (c93.1 _ _ _ _ av) ?_;cases h;exact cZ zM);replace h:=bM aw h;obtain⟨bx,bo,h⟩:=aA h;rcases dX (!bx)with ax|ax;(replace h:=bN ax h;refine rn2 (c93.1 _ _ _ _ av) (c93.1 _ _ _ _ bo) ?_;cases h;exact cZ zM);replace h:=bM ax h;obtain⟨ck,bz,h⟩:=aA h;refine rn3 (c93.1 _ _ _ _ av) (c93.1 _ _ _ _ bo) (c93.1 _ _ _ _ bz) ?_;cases h;exact cZ zM
 clear ar
 rintro cl f46
 rcases dX bn with ay|ay
 ·replace h:=bN ay h;refine ct (sq (rn ?_));exact an (rt zR)
 replace h:=bM ay h
 refine cf (sk (an (sq ?_)))
 obtain⟨bq,az,h⟩:=aA h
 refine tV (λs=>s.t 2=vP 2 1 0/\s.t 5=vB x1/\s.t 58=vB bq/\s.h 2=(1,oX 197 (M.aZ.en p0))/\True) ?_ ?_
 ·replace h:=az;clear az;rcases dX (p0.aLn==4)with ba|ba;(replace h:=bN ba h;refine rn ?_;cases h;exact cZ zM);replace h:=bM ba h;rcases dX (p0.aLn==9)with bd|bd;(replace h:=bN bd h;refine rn ?_;cases h;exact cZ zM);replace h:=bM bd h;refine rn ?_;cases h;exact cZ zM
 clear az
 rintro cn f62
 rcases dX bq with bf|bf
 ·replace h:=bN bf h;refine ct (sq (rn ?_));exact an (rt zR)
 replace h:=bM bf h
 refine cf (sk (an ?_))
 obtain⟨ca,bg,h⟩:=aA h
 refine tV (λs=>s.t 4=vB ca/\True) ?_ ?_
 ·replace h:=bg;clear bg;rcases Dz x1 with bh|bh;(replace h:=bM bh h;refine rn ?_;cases h;exact cZ zM);replace h:=bN bh h;obtain⟨cc,br,h⟩:=aA h;rcases dX cc with bj|bj;(replace h:=bN bj h;refine rn1 (aDX.1 _ _ br) ?_;cases h;exact cZ zM);replace h:=bM bj h;refine rn1 (aDX.1 _ _ br) ?_;cases h;exact cZ zM
 clear bg
 rintro cp ⟨f72,_⟩
 exact rt zR⟩
instance:bK 34 (∀p0 p1 p2 r (h:rH p0 p1 p2=some r),Sc 34 [aX (M.aLX.en p0),aI p1,aI p2] [(true,M.aLX.rs r.1),rB r.2]):=⟨λp0 p1 p2 r h=>by unfold rH at h;exact sgo 36 [.cell 6 89,.tmp 7] func34⟩
instance:bK 537 (∀p0 r (h:Ac p0=some r),Sc 537 [aL enB p0] [(true,M.bD.rs r.1),rB r.2]):=⟨λp0 r h=>by
 have i1:=λ(x2:Int)=>inv λm s=>∃v6:Int,∃v7:Int,(s.t 0=vL enB p0/\s.t 2=vP 2 1 0/\s.t 4=vP 4 1 0/\s.t 6=vI v6/\s.t 7=vI v7/\s.h 2=(1,oB 216 [cI 0,cI 0,cS (⟨#[]⟩:ByteArray)])/\s.h 4=(1,oB 216 [cI (IntKind.i64.wrap x2),cI 0,cS (⟨#[]⟩:ByteArray)]))/\nP p0 x2 m v6 v7=some r
 have e1:=@nP.eq_2
 unfold Ac at h
 exact sgo 49 [.cell 2 216,.tmp 3] func537⟩
instance aEQ:bK 508 (∀p0 r (h:fI p0=some r),Sc 508 [(false,[.ptr [.sl (List.map enB p0.b),.int .i64 p0.i,.int .i64 p0.h]])] [(false,[.edit (.lend 256 [.int .i64 r.1,.int .i64 r.2.1])]),(true,M.bD.rs r.2.2)]):=⟨λp0 r h=>by
 unfold fI at h
 simp only[EN]
 refine sgB 6 [.cell 2 216] func508 λbase wd B0 u0 hw0=> ?_
 refine cY (J:=λs=>s.t 0=vP 7059000 1 0/\s.h 7059000=(1,oB 256 [.old B0 (.sl (List.map enB p0.b)) (some u0),cI p0.i,cI p0.h])/\True) ?_ ?_
 ·and_intros<;>(try simp only[LN,jI,jJ])<;>rfl
 rintro s1 f2
 exact sgX⟩
theorem c22(p0 p1 r)(h:tK p0 p1=some r):Sc 22 [aX (M.aD.en p0),aI p1] [rB r]:=by unfold tK at h;exact sgo 20 [.tmp 4] func22
