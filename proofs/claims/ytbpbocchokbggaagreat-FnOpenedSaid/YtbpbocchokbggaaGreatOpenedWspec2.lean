/-
  Helper text. No conditions.
-/
import Derived.Test.YtbpbocchokbggaaGreatOpenedWspec0
import Derived.Test.YtbpbocchokbggaaGreatOpenedWspec1
set_option linter.all false
namespace Go.Proofs.YtbpbocchokbggaaGreat.gen
open Go Go.Sh
set_option maxRecDepth 20000
set_option maxHeartbeats 4000000
instance Y0:bK 253 (∀p0 r (h:dD p0=some r),Sc 253 [aX (M.aF.en p0)] [(true,M.aF.rs r)]):=⟨λp0 r h=>by
 have i1:=ES [.b 3 0 7050000 345 2] λm s=>∃v4:Int,∃aa:List M.aHM,∃ae:Nat,(s.t 1=vP 1 1 0/\s.t 2=vP 2 1 0/\s.t 3=vP 3 1 0/\s.t 4=vI v4/\s.h 1=(1,oX 108 (M.aF.en p0))/\s.h 2=(1,oB 108 [.nil])/\s.h 3=(1,oB 108 [.row 7050000 ae])/\s.h 7050000=(ae,oW 345 2 M.aHM.en aa))/\rP p0 m v4 aa=some r
 have e1:=@rP.eq_2
 unfold dD at h
 exact sgo 25 [.cell 2 108] Tryz.func253⟩
instance:bK 306 (∀p0 r (h:bW p0=some r),Sc 306 [aX (M.aC.en p0)] [(true,M.aC.rs r)]):=⟨λp0 r h=>by
 have i1:=ES [.b 3 1 7050000 260 4] λm s=>∃v4:Int,∃aa:List M.aHV,∃ae:Nat,(s.t 1=vP 1 1 0/\s.t 2=vP 2 1 0/\s.t 3=vP 3 1 0/\s.t 4=vI v4/\s.h 1=(1,oX 117 (M.aC.en p0))/\s.h 2=(1,oB 117 [cS (⟨#[]⟩:ByteArray),.nil,cI 0])/\s.h 3=(1,oB 117 [cS p0.Name,.row 7050000 ae,cI p0.aHg])/\s.h 7050000=(ae,oW 260 4 M.aHV.en aa))/\tN p0 m v4 aa=some r
 have e1:=@tN.eq_2
 unfold bW at h
 exact sgo 29 [.cell 2 117] Tryz.func306⟩
instance Yw:bK 307 (∀p0 r (h:eV p0=some r),Sc 307 [aX (M.aHB.en p0)] [(true,M.aHB.rs r)]):=⟨λp0 r h=>by
 have i1:=ES [.b 3 2 7050000 117 3] λm s=>∃v4:Int,∃aa:List M.aC,∃ae:Nat,(s.t 1=vP 1 1 0/\s.t 2=vP 2 1 0/\s.t 3=vP 3 1 0/\s.t 4=vI v4/\s.h 1=(1,oX 112 (M.aHB.en p0))/\s.h 2=(1,DY)/\s.h 3=(1,oB 112 [cS p0.Name,cI p0.aHA,.row 7050000 ae,.row 100009 2])/\s.h 100009=(2,oW 471 2 M.aN.en p0.aHX)/\s.h 7050000=(ae,oW 117 3 M.aC.en aa))/\tP p0 m v4 aa=some r
 have e1:=@tP.eq_2
 unfold eV at h
 exact sgo 33 [.cell 2 112] Tryz.func307⟩
instance:bK 254 (∀p0 r (h:xU p0=some r),Sc 254 [aX (M.aE.en p0)] [(true,M.aE.rs r)]):=⟨λp0 r h=>by unfold xU at h;exact sgo 12 [.cell 2 124] Tryz.func254⟩
instance:bK 160 (∀p0 r (h:nN p0=some r),Sc 160 [aX (M.bC.en p0)] [(true,M.bC.rs r)]):=⟨λp0 r h=>by unfold nN at h;exact sgo 15 [.cell 2 67] Tryz.func160⟩
instance:bK 164 (∀p0 r (h:gQ p0=some r),Sc 164 [aX (M.aHO.en p0)] [(true,M.aHO.rs r)]):=⟨λp0 r h=>by unfold gQ at h;exact sgo 15 [.cell 2 205] Tryz.func164⟩
instance:bK 122 (∀p0 r (h:zN p0=some r),Sc 122 [aX (M.aHL.en p0)] [rB r]):=⟨λp0 r h=>by
 have i1:=inv λm s=>∃v3:Int,(s.t 1=vP 1 1 0/\s.t 3=vI v3/\s.h 1=(1,oX 92 (M.aHL.en p0)))/\lR p0 m v3=some r
 have e1:=@lR.eq_2
 unfold zN at h
 exact sgo 50 [.tmp 2] Tryz.func122⟩
instance:bK 125 (∀p0 r (h:uG p0=some r),Sc 125 [aX (M.bC.en p0)] [rB r]):=⟨λp0 r h=>by
 have i1:=inv λm s=>∃v3:Int,(s.t 1=vP 1 1 0/\s.t 3=vI v3/\s.h 1=(1,oX 67 (M.bC.en p0)))/\tK p0 m v3=some r
 have e1:=@tK.eq_2
 unfold uG at h
 exact sgo 54 [.tmp 2] Tryz.func125⟩
instance:bK 485 (∀p0 r (h:uM p0=some r),Sc 485 [aL M.aHU.en p0] [rB r]):=⟨λp0 r h=>by
 have i1:=inv λm s=>∃v3:Int,(s.t 0=vL M.aHU.en p0/\s.t 3=vI v3)/\eY p0 m v3=some r
 have e1:=@eY.eq_2
 have i2:=λ(v3:Int) (x5:M.aHU) (ae:Int->Option Bool)=>inv λm s=>∃aa:Int,(s.t 0=vL M.aHU.en p0/\s.t 3=vI v3/\s.t 4=vI aa)/\gT p0 v3 x5 ae m aa=some r
 have e2:=@gT.eq_2
 unfold uM at h
 exact sgo 68 [.tmp 2] Tryz.func485⟩
instance XT:bK 392 (∀p0 r (h:cM p0=some r),Sc 392 [aX (M.aF.en p0)] [rB r]):=⟨λp0 r h=>by
 have i1:=inv λm s=>∃v3:Int,(s.t 1=vP 1 1 0/\s.t 3=vI v3/\s.h 1=(1,oX 108 (M.aF.en p0)))/\eS p0 m v3=some r
 have e1:=@eS.eq_2
 unfold cM at h
 exact sgo 53 [.tmp 2] Tryz.func392⟩
instance c91:bK 91 (∀p0 p1 r (h:eC p0 p1=some r),Sc 91 [(false,[.ptr [.sl (List.map enB p0.b),.int .i64 p0.i,.int .i64 p0.h]]),aL enS p1] [(false,[.edit (.lend 304 [.int .i64 r.1,.int .i64 r.2.1])]),rS r.2.2]):=⟨λp0 p1 r h=>by
 unfold eC at h
 simp only[EN]
 refine sgB 12 [.tmp 4] Tryz.func91 λbase wd B0 u0 hw0=> ?_
 refine eE (J:=λs=>s.t 0=vP 7059000 1 0/\s.t 1=vL enS p1/\s.h 7059000=(1,oB 304 [.old B0 (.sl (List.map enB p0.b)) (some u0),cI p0.i,cI p0.h])/\True) ?_ ?_
 ·and_intros<;>(try simp only[LN,List.map_cons,List.map_nil])<;>rfl
 rintro s1 f2
 exact sgX⟩
instance:bK 278 (∀p0 r (h:Ar p0=some r),Sc 278 [(false,[.ptr [.sl (List.map enB p0.b),.int .i64 p0.i,.int .i64 p0.h]])] [(false,[.edit (.lend 304 [.int .i64 r.1,.int .i64 r.2.1])]),rS r.2.2]):=⟨λp0 r h=>by
 unfold Ar at h
 simp only[EN]
 refine sgB 6 [.tmp 2] Tryz.func278 λbase wd B0 u0 hw0=> ?_
 refine eE (J:=λs=>s.t 0=vP 7059000 1 0/\s.h 7059000=(1,oB 304 [.old B0 (.sl (List.map enB p0.b)) (some u0),cI p0.i,cI p0.h])/\True) ?_ ?_
 ·and_intros<;>(try simp only[LN,List.map_cons,List.map_nil])<;>rfl
 rintro s1 f2
 exact sgX⟩
instance aBS:bK 380 (∀p0 r (h:dC p0=some r),Sc 380 [(false,[.ptr [.sl (List.map enB p0.b),.int .i64 p0.i,.int .i64 p0.h]])] [(false,[.edit (.lend 304 [.int .i64 r.1,.int .i64 r.2.1])]),rS r.2.2]):=⟨λp0 r h=>by
 unfold dC at h
 simp only[EN]
 refine sgB 6 [.tmp 2] Tryz.func380 λbase wd B0 u0 hw0=> ?_
 refine eE (J:=λs=>s.t 0=vP 7059000 1 0/\s.h 7059000=(1,oB 304 [.old B0 (.sl (List.map enB p0.b)) (some u0),cI p0.i,cI p0.h])/\True) ?_ ?_
 ·and_intros<;>(try simp only[LN,List.map_cons,List.map_nil])<;>rfl
 rintro s1 f2
 exact sgX⟩
instance:bK 490 (∀p0 p1 r (h:Ak p0 p1=some r),Sc 490 [aX (M.Instr.en p0),aI p1] [rB r]):=⟨λp0 p1 r h=>by
 unfold Ak at h
 simp only[EN]
 refine sgn 74 [.tmp 4] Tryz.func490 λbase wd => ?_
 refine sq (rn ?_)
 refine an ?_
 obtain⟨x1,h2,h⟩:=bind_some h
 refine sD (λs=>s.t 1=vI p1/\s.t 2=vP 2 1 0/\s.t 5=vB x1/\s.h 2=(1,oX 308 (M.Instr.en p0))/\True) ?_ ?_
 ·replace h:=h2;clear h2;rcases dP (p0.aHb==5)with b8 | b8;(replace h:=bG b8 h;refine rn ?_;cases h;refine dV ⟨?_,?_,?_,?_,trivial⟩<;>(try simp +decide only[F,reduceIte,Nat.reduceAdd,qB,qC,EN, *,-h]));replace h:=bF b8 h;obtain⟨x9,bt,h⟩:=bind_some h;refine rn1 (Tr.1 _ _ _ _ bt) ?_;cases h;refine dV ⟨?_,?_,?_,?_,trivial⟩<;>(try simp +decide only[F,reduceIte,Nat.reduceAdd,qB,qC,EN, *,-h])
 clear h2
 rintro s3 f4
 refine sq (rn ?_)
 refine an ?_
 obtain⟨bu,aa,h⟩:=bind_some h
 refine sD (λs=>s.t 2=vP 2 1 0/\s.t 5=vB x1/\s.t 6=vI bu/\s.h 2=(1,oX 308 (M.Instr.en p0))/\True) ?_ ?_
 ·replace h:=aa;clear aa;refine sq (rn ?_);refine an (bk (sq (rn ?_)));refine an ?_;rcases dP (p0.aHb==1)with ae | ae;(replace h:=bG ae h;refine ct (rn ?_);refine ab ?_;cases h;refine dV ⟨?_,?_,?_,?_,trivial⟩<;>(try simp +decide only[F,reduceIte,Nat.reduceAdd,qB,qC,EN, *,-h]));replace h:=bF ae h;refine cf (sq (rn ?_));refine an ?_;rcases dP (p0.aHb==2)with af | af;(replace h:=bG af h;refine ct (rn ?_);refine ab ?_;cases h;refine dV ⟨?_,?_,?_,?_,trivial⟩<;>(try simp +decide only[F,reduceIte,Nat.reduceAdd,qB,qC,EN, *,-h]));replace h:=bF af h;refine cf ?_;obtain⟨bl,ah,h⟩:=bind_some h;refine sD (λs=>s.t 1=vI p1/\s.t 2=vP 2 1 0/\s.t 5=vB x1/\s.t 6=vI 0/\s.t 16=vI p0.aHb/\s.t 21=vB bl/\s.h 2=(1,oX 308 (M.Instr.en p0))/\True) ?_ ?_;(replace h:=ah;clear ah;refine sq (rn ?_);refine an ?_;rcases dP (p0.aHb==3)with ai | ai;(replace h:=bG ai h;refine ct (sk ?_);cases h;refine dV ⟨?_,?_,?_,?_,?_,?_,?_,trivial⟩<;>(try simp +decide only[F,reduceIte,Nat.reduceAdd,qB,qC,EN, *,-h]));replace h:=bF ai h;refine cf (rn ?_);cases h;refine dV ⟨?_,?_,?_,?_,?_,?_,?_,trivial⟩<;>(try simp +decide only[F,reduceIte,Nat.reduceAdd,qB,qC,EN, *,-h]));clear ah;rintro cd f23;rcases dP bl with aj | aj;(replace h:=bG aj h;refine ct (rn ?_);refine ab ?_;cases h;refine dV ⟨?_,?_,?_,?_,trivial⟩<;>(try simp +decide only[F,reduceIte,Nat.reduceAdd,qB,qC,EN, *,-h]));replace h:=bF aj h;refine cf ?_;obtain⟨bm,ak,h⟩:=bind_some h;refine sD (λs=>s.t 2=vP 2 1 0/\s.t 5=vB x1/\s.t 6=vI 0/\s.t 25=vB bm/\s.h 2=(1,oX 308 (M.Instr.en p0))/\True) ?_ ?_;(replace h:=ak;clear ak;refine sq (rn ?_);refine an ?_;rcases dP (p0.aHb==6)with al | al;(replace h:=bG al h;refine ct (sk ?_);cases h;refine dV ⟨?_,?_,?_,?_,?_,trivial⟩<;>(try simp +decide only[F,reduceIte,Nat.reduceAdd,qB,qC,EN, *,-h]));replace h:=bF al h;refine cf (sq (rn ?_));refine an ?_;rcases dP (p0.aHb==7)with ao | ao;(replace h:=bG ao h;refine ct (sk ?_);cases h;refine dV ⟨?_,?_,?_,?_,?_,trivial⟩<;>(try simp +decide only[F,reduceIte,Nat.reduceAdd,qB,qC,EN, *,-h]));replace h:=bF ao h;refine cf (rn ?_);cases h;refine dV ⟨?_,?_,?_,?_,?_,trivial⟩<;>(try simp +decide only[F,reduceIte,Nat.reduceAdd,qB,qC,EN, *,-h]));clear ak;rintro cg f35;rcases Cw bm with aq | aq;(replace h:=bF aq h;refine cf (sk (ab ?_));cases h;refine dV ⟨?_,?_,?_,?_,trivial⟩<;>(try simp +decide only[F,reduceIte,Nat.reduceAdd,qB,qC,EN, *,-h]));replace h:=bG aq h;refine ct (rn ?_);refine ab ?_;cases h;refine dV ⟨?_,?_,?_,?_,trivial⟩<;>(try simp +decide only[F,reduceIte,Nat.reduceAdd,qB,qC,EN, *,-h])
 clear aa
 rintro cj f14
 refine sq ?_
 obtain⟨bn,ar,h⟩:=bind_some h
 refine sD (λs=>s.t 2=vP 2 1 0/\s.t 5=vB x1/\s.t 45=vB bn/\s.h 2=(1,oX 308 (M.Instr.en p0))/\True) ?_ ?_
 ·replace h:=ar;clear ar;obtain⟨bw,av,h⟩:=bind_some h;rcases dP (!bw)with aw | aw;(replace h:=bG aw h;refine rn1 (Tr.1 _ _ _ _ av) ?_;cases h;refine dV ⟨?_,?_,?_,?_,trivial⟩<;>(try simp +decide only[F,reduceIte,Nat.reduceAdd,qB,qC,EN, *,-h]));replace h:=bF aw h;obtain⟨bx,bo,h⟩:=bind_some h;rcases dP (!bx)with ax | ax;(replace h:=bG ax h;refine rn2 (Tr.1 _ _ _ _ av) (Tr.1 _ _ _ _ bo) ?_;cases h;refine dV ⟨?_,?_,?_,?_,trivial⟩<;>(try simp +decide only[F,reduceIte,Nat.reduceAdd,qB,qC,EN, *,-h]));replace h:=bF ax h;obtain⟨ck,bz,h⟩:=bind_some h;refine rn3 (Tr.1 _ _ _ _ av) (Tr.1 _ _ _ _ bo) (Tr.1 _ _ _ _ bz) ?_;cases h;refine dV ⟨?_,?_,?_,?_,trivial⟩<;>(try simp +decide only[F,reduceIte,Nat.reduceAdd,qB,qC,EN, *,-h])
 clear ar
 rintro cl f46
 rcases dP bn with ay | ay
 ·replace h:=bG ay h;refine ct (sq (rn ?_));refine an (rt ?_);cases h;simp[Ret,TB,EN, *]
 replace h:=bF ay h
 refine cf (sk (an (sq ?_)))
 obtain⟨bq,az,h⟩:=bind_some h
 refine sD (λs=>s.t 2=vP 2 1 0/\s.t 5=vB x1/\s.t 58=vB bq/\s.h 2=(1,oX 308 (M.Instr.en p0))/\True) ?_ ?_
 ·replace h:=az;clear az;rcases dP (p0.aHb==4)with ba | ba;(replace h:=bG ba h;refine rn ?_;cases h;refine dV ⟨?_,?_,?_,?_,trivial⟩<;>(try simp +decide only[F,reduceIte,Nat.reduceAdd,qB,qC,EN, *,-h]));replace h:=bF ba h;rcases dP (p0.aHb==9)with bd | bd;(replace h:=bG bd h;refine rn ?_;cases h;refine dV ⟨?_,?_,?_,?_,trivial⟩<;>(try simp +decide only[F,reduceIte,Nat.reduceAdd,qB,qC,EN, *,-h]));replace h:=bF bd h;refine rn ?_;cases h;refine dV ⟨?_,?_,?_,?_,trivial⟩<;>(try simp +decide only[F,reduceIte,Nat.reduceAdd,qB,qC,EN, *,-h])
 clear az
 rintro cn f62
 rcases dP bq with bf | bf
 ·replace h:=bG bf h;refine ct (sq (rn ?_));refine an (rt ?_);cases h;simp[Ret,TB,EN, *]
 replace h:=bF bf h
 refine cf (sk (an ?_))
 obtain⟨c9,bg,h⟩:=bind_some h
 refine sD (λs=>s.t 4=vB c9/\True) ?_ ?_
 ·replace h:=bg;clear bg;rcases Cw x1 with bh | bh;(replace h:=bF bh h;refine rn ?_;cases h;refine dV ⟨?_,trivial⟩<;>(try simp +decide only[F,reduceIte,Nat.reduceAdd,qB,qC,EN, *,-h]));replace h:=bG bh h;obtain⟨ca,br,h⟩:=bind_some h;rcases dP ca with bj | bj;(replace h:=bG bj h;refine rn1 (aAG.1 _ _ br) ?_;cases h;refine dV ⟨?_,trivial⟩<;>(try simp +decide only[F,reduceIte,Nat.reduceAdd,qB,qC,EN, *,-h]));replace h:=bF bj h;refine rn1 (aAG.1 _ _ br) ?_;cases h;refine dV ⟨?_,trivial⟩<;>(try simp +decide only[F,reduceIte,Nat.reduceAdd,qB,qC,EN, *,-h])
 clear bg
 rintro cp ⟨f72,_⟩
 refine rt ?_
 cases h
 simp[Ret,TB,EN, *]⟩
instance:bK 397 (∀p0 r (h:AY p0=some r),Sc 397 [aL M.Instr.en p0] [rB r]):=⟨λp0 r h=>by
 have i1:=inv λm s=>∃v3:Int,(s.t 0=vL M.Instr.en p0/\s.t 3=vI v3)/\oD p0 m v3=some r
 have e1:=@oD.eq_2
 unfold AY at h
 exact sgo 21 [.tmp 2] Tryz.func397⟩
instance:bK 290 (∀p0 p1 r (h:tZ p0 p1=some r),Sc 290 [aX (M.aHL.en p0),aI p1] [rB r]):=⟨λp0 p1 r h=>by unfold tZ at h;exact sgo 18 [.tmp 4] Tryz.func290⟩
instance aA2:bK 109 (∀p0 p1 p2 r (h:lG p0 p1 p2=some r),Sc 109 [aX (M.bC.en p0),aS p1,aX (M.aHH.en p2)] [(true,M.bC.rs r.1),rB r.2]):=⟨λp0 p1 p2 r h=>by unfold lG at h;exact sgo 43 [.cell 6 67,.tmp 7] Tryz.func109⟩
instance ZA:bK 544 (∀p0 r (h:nP p0=some r),Sc 544 [(false,[.ptr [.sl (List.map enB p0.b),.int .i64 p0.i,.int .i64 p0.h]])] [(false,[.edit (.lend 304 [.int .i64 r.1,.int .i64 r.2.1])]),rS r.2.2]):=⟨λp0 r h=>by
 unfold nP at h
 simp only[EN]
 refine sgB 6 [.tmp 2] Tryz.func544 λbase wd B0 u0 hw0=> ?_
 refine eE (J:=λs=>s.t 0=vP 7059000 1 0/\s.h 7059000=(1,oB 304 [.old B0 (.sl (List.map enB p0.b)) (some u0),cI p0.i,cI p0.h])/\True) ?_ ?_
 ·and_intros<;>(try simp only[LN,List.map_cons,List.map_nil])<;>rfl
 rintro s1 f2
 exact sgX⟩
instance:bK 510 (∀p0 r (h:vZ p0=some r),Sc 510 [aL enB p0] [(true,M.Key.rs r.1),rB r.2]):=⟨λp0 r h=>by
 have i1:=λ(x2:Int)=>inv λm s=>∃v6:Int,∃v7:Int,(s.t 0=vL enB p0/\s.t 2=vP 2 1 0/\s.t 4=vP 4 1 0/\s.t 6=vI v6/\s.t 7=vI v7/\s.h 2=(1,oB 136 [cI 0,cI 0,cS (⟨#[]⟩:ByteArray)])/\s.h 4=(1,oB 136 [cI (IntKind.i64.wrap x2),cI 0,cS (⟨#[]⟩:ByteArray)]))/\lX p0 x2 m v6 v7=some r
 have e1:=@lX.eq_2
 unfold vZ at h
 exact sgo 49 [.cell 2 136,.tmp 3] Tryz.func510⟩
instance aBJ:bK 551 (∀p0 r (h:xQ p0=some r),Sc 551 [(false,[.ptr [.sl (List.map enB p0.b),.int .i64 p0.i,.int .i64 p0.h]])] [(false,[.edit (.lend 304 [.int .i64 r.1,.int .i64 r.2.1])]),rS r.2.2]):=⟨λp0 r h=>by
 unfold xQ at h
 simp only[EN]
 refine sgB 6 [.tmp 2] Tryz.func551 λbase wd B0 u0 hw0=> ?_
 refine eE (J:=λs=>s.t 0=vP 7059000 1 0/\s.h 7059000=(1,oB 304 [.old B0 (.sl (List.map enB p0.b)) (some u0),cI p0.i,cI p0.h])/\True) ?_ ?_
 ·and_intros<;>(try simp only[LN,List.map_cons,List.map_nil])<;>rfl
 rintro s1 f2
 exact sgX⟩
theorem aGS(p0 p1 r)(h:E8 p0 p1=some r):Sc 652 [aX (M.aHB.en p0),aS p1] [(true,M.aHB.rs r)]:=by
 have i1:=ES [.b 5 2 7050000 117 3] λm s=>∃U:Int,∃j:List M.aC,∃C:Nat,(s.t 1=vS p1/\s.t 2=vP 2 1 0/\s.t 4=vP 4 1 0/\s.t 5=vP 5 1 0/\s.t 6=vI U/\s.h 2=(1,oX 112 (M.aHB.en p0))/\s.h 4=(1,DY)/\s.h 5=(1,oB 112 [cS p0.Name,cI p0.aHA,.row 7050000 C,.nil])/\s.h 7050000=(C,oW 117 3 M.aC.en j))/\Ah p0 p1 m U j=some r
 have e1:=@Ah.eq_2
 have i2:=λ(j:List M.aC) (C:Nat)=>ES [.b 5 3 7050100 471 2] λm s=>∃v7:Int,∃I:List M.aN,∃J:Nat,(s.t 1=vS p1/\s.t 2=vP 2 1 0/\s.t 4=vP 4 1 0/\s.t 5=vP 5 1 0/\s.t 7=vI v7/\s.h 2=(1,oX 112 (M.aHB.en p0))/\s.h 4=(1,DY)/\s.h 5=(1,oB 112 [cS p0.Name,cI p0.aHA,.row 7050000 C,.row 7050100 J])/\s.h 7050000=(C,oW 117 3 M.aC.en j)/\s.h 7050100=(J,oW 471 2 M.aN.en I))/\zV p0 p1 j m v7 I=some r
 have e2:=@zV.eq_2
 unfold E8 at h
 exact sgo 65 [.cell 4 112] Tryz.func652
