/-
  Helper text. No conditions.
-/
import Derived.Test.YtipmihbgjolaaaaGreatStorageTi
import Derived.Test.YtipmihbgjolaaaaGreatStorageWimpl2
import Derived.Test.YtipmihbgjolaaaaGreatStorageWimpl3
import Derived.Test.YtipmihbgjolaaaaGreatStorageWimpl5
import Derived.Test.YtipmihbgjolaaaaGreatStorageWmark
import Derived.Test.YtipmihbgjolaaaaGreatStorageWspec4
import Derived.Test.YtipmihbgjolaaaaGreatStorageWspec8
set_option linter.unusedVariables false
set_option linter.unusedSimpArgs false
namespace Go.Proofs.YtipmihbgjolaaaaGreat.gen
open Go Go.Sh
open Go.IntKind (i64)
set_option maxRecDepth 20000
set_option maxHeartbeats 4000000
theorem F9(p0 r)(h:tJ p0=some r):Sc 3 [aL enB p0] [rB r]:=by
 unfold tJ at h
 simp only[EN]
 refine sgn 223 [.tmp 2] Tryz.func3 λbase wd => ?_
 refine sq (rn ?_)
 refine an (sq (sq ?_))
 obtain⟨x1,h2,h⟩:=bind_some h
 refine rn1 (c7 _ _ h2) ?_
 refine an ?_
 rcases jR x1 with b3 | b3
 ·replace h:=bX b3 h;refine ct (sq (rn ?_));refine an (rt ?_);cases h;simp[Ret,TB,EN, *]
 replace h:=bW b3 h
 refine cf (sk (an (sq ?_)))
 obtain⟨j,h5,h⟩:=bind_some h
 refine rn1 (c8 _ _ h5) ?_
 refine an (sq ?_)
 obtain⟨J,h7,h⟩:=bind_some h
 refine rn1 (c9 _ _ _ h7) ?_
 refine an (sq (sq ?_))
 obtain⟨x8,h9,h⟩:=bind_some h
 refine rn1 (c10.1 _ _ _ h9) ?_
 refine an (sq (rn ?_))
 refine an ?_
 rcases jR (!(J.2==x8.2))with br | br
 ·replace h:=bX br h;refine ct (sq (rn ?_));refine an (rt ?_);cases h;simp[Ret,TB,EN, *]
 replace h:=bW br h
 refine cf (sk (an (sq ?_)))
 obtain⟨dh,bt,h⟩:=bind_some h
 refine nT (λs=>s.t 0=vL enB p0/\s.t 3=vP 3 1 0/\s.t 4=vP 4 1 0/\s.t 5=vP 5 1 0/\s.t 6=vB J.2/\s.t 48=vB dh/\s.h 3=(1,oB 26 [.row 100023 1])/\s.h 4=(1,oB 49 [cS j.2.Zh,cS j.2.Zw,cS j.2.YZ.Zh,cI j.2.YZ.Zm,cI j.2.YZ.Zs,cI j.2.YZ.Zv,.row 800023 1,cS j.2.bG.Zf.Name,cI j.2.bG.Zf.Y2,.row 1100023 1,.row 1200023 1,.row 1300023 1,cI j.2.bG.Zu,cS j.2.aD.Zf.Name,.row 1600023 1,cI j.2.aD.Zf.Zn,cI j.2.aD.Zx,cI j.2.aD.Ze.aF.Zg,cI j.2.aD.Ze.aF.Zr,.row 2100023 1,cI j.2.aD.Ze.Zt,cI j.2.aD.Ze.Zj,cI j.2.Zo,cB j.2.Zl])/\s.h 5=(1,oB 26 [.row 100029 1])/\s.h 100023=(1,oW 49 24 M.aK.en j.1.Y0)/\s.h 100029=(1,oW 49 24 M.aK.en J.1.Y0)/\s.h 800023=(1,oW 193 2 M.Y6.en j.2.Y1.Y1)/\s.h 1100023=(1,oW 40 3 M.aA.en j.2.bG.Zf.Y5)/\s.h 1200023=(1,oW 282 2 M.aM.en j.2.bG.Zf.Za)/\s.h 1300023=(1,oW 5 1 enB j.2.bG.ZD)/\s.h 1600023=(1,oW 284 4 M.Zd.en j.2.aD.Zf.Y3)/\s.h 2100023=(1,oW 211 7 M.aV.en j.2.aD.Ze.aF.Y9)/\True) ?_ ?_
 ·replace h:=bt;clear bt;rcases AU (!J.2)with bu | bu;(replace h:=bW bu h;refine rn ?_;cases h;refine fA ⟨?_,?_,?_,?_,?_,?_,?_,?_,?_,?_,?_,?_,?_,?_,?_,?_,?_,trivial⟩<;>(try simp +decide only[F,reduceIte,Nat.reduceAdd,qB,qC,EN, *,-h]));replace h:=bX bu h;obtain⟨g9,dn,h⟩:=bind_some h;refine rn1 (c11 _ _ _ dn) ?_;cases h;refine fA ⟨?_,?_,?_,?_,?_,?_,?_,?_,?_,?_,?_,?_,?_,?_,?_,?_,?_,trivial⟩<;>(try simp +decide only[F,reduceIte,Nat.reduceAdd,qB,qC,EN, *,-h])
 clear bt
 rintro dq f14
 rcases jR dh with bw | bw
 ·replace h:=bX bw h;refine ct (sq (rn ?_));refine an (rt ?_);cases h;simp[Ret,TB,EN, *]
 replace h:=bW bw h
 refine cf (sk (an (sq (sq (rn ?_)))))
 refine an (bk ?_)
 refine Dk (λm s=>∃v9:Int,s.h 4=dq.h 4/\s.t 0=vL enB p0/\s.t 3=vP 3 1 0/\s.t 4=vP 4 1 0/\s.t 5=vP 5 1 0/\s.t 6=vB J.2/\s.t 9=vI v9/\s.h 3=(1,oB 26 [.row 100023 1])/\s.h 5=(1,oB 26 [.row 100029 1])/\s.h 100023=(1,oW 49 24 M.aK.en j.1.Y0)/\s.h 100029=(1,oW 49 24 M.aK.en J.1.Y0)/\s.h 800023=(1,oW 193 2 M.Y6.en j.2.Y1.Y1)/\s.h 1100023=(1,oW 40 3 M.aA.en j.2.bG.Zf.Y5)/\s.h 1200023=(1,oW 282 2 M.aM.en j.2.bG.Zf.Za)/\s.h 1300023=(1,oW 5 1 enB j.2.bG.ZD)/\s.h 1600023=(1,oW 284 4 M.Zd.en j.2.aD.Zf.Y3)/\s.h 2100023=(1,oW 211 7 M.aV.en j.2.aD.Ze.aF.Y9)/\iL p0 j J m v9=some r) fuel ?_ ?_
 ·refine⟨0,?_,?_,?_,?_,?_,?_,?_,?_,?_,?_,?_,?_,?_,?_,?_,?_,?_,h⟩;all_goals simp +decide only[F,reduceIte,Nat.reduceAdd,qB,qC,EN, *,-h]
 rintro mL1 dr ⟨v9,f43,f36,f37,f38,f39,f40,f41,f42,f44,f45,f46,f47,f48,f49,f50,f51,f52,h⟩
 replace f43:=f43.trans f14.2.2.2.2.2.2.2.1
 rcases mL1 with _ | mL1
 ·exact absurd h (by simp[iL])
 simp only[iL]at h
 refine sq ?_
 obtain⟨di,bx,h⟩:=bind_some h
 refine nT (λs=>s.h 4=dr.h 4/\s.t 0=vL enB p0/\s.t 3=vP 3 1 0/\s.t 4=vP 4 1 0/\s.t 5=vP 5 1 0/\s.t 6=vB J.2/\s.t 9=vI v9/\s.t 56=vB di/\s.h 3=(1,oB 26 [.row 100023 1])/\s.h 5=(1,oB 26 [.row 100029 1])/\s.h 100023=(1,oW 49 24 M.aK.en j.1.Y0)/\s.h 100029=(1,oW 49 24 M.aK.en J.1.Y0)/\s.h 800023=(1,oW 193 2 M.Y6.en j.2.Y1.Y1)/\s.h 1100023=(1,oW 40 3 M.aA.en j.2.bG.Zf.Y5)/\s.h 1200023=(1,oW 282 2 M.aM.en j.2.bG.Zf.Za)/\s.h 1300023=(1,oW 5 1 enB j.2.bG.ZD)/\s.h 1600023=(1,oW 284 4 M.Zd.en j.2.aD.Zf.Y3)/\s.h 2100023=(1,oW 211 7 M.aV.en j.2.aD.Ze.aF.Y9)/\True) ?_ ?_
 ·replace h:=bx;clear bx;rcases jR (decide (v9<(List.length j.1.Y0:Int)))with bz | bz;(replace h:=bX bz h;refine rn ?_;cases h;refine fA ⟨?_,?_,?_,?_,?_,?_,?_,?_,?_,?_,?_,?_,?_,?_,?_,?_,?_,?_,trivial⟩<;>(try simp +decide only[F,reduceIte,Nat.reduceAdd,qB,qC,EN, *,-h]));replace h:=bW bz h;refine rn ?_;cases h;refine fA ⟨?_,?_,?_,?_,?_,?_,?_,?_,?_,?_,?_,?_,?_,?_,?_,?_,?_,?_,trivial⟩<;>(try simp +decide only[F,reduceIte,Nat.reduceAdd,qB,qC,EN, *,-h])
 clear bx
 rintro aa ⟨f64,f56⟩
 replace f64:=f64.trans f43
 rcases jR di with ca | ca
 ·replace h:=bX ca h;refine ct (sk (an (sq (bk (sq ?_)))));obtain⟨dj,du,h⟩:=bind_some h;obtain⟨ga,gb,gd⟩:=pZ du;refine rn ?_;refine an (sq ?_);obtain⟨dk,dw,h⟩:=bind_some h;refine rn1 (c12.1 _ _ _ _ dw) ?_;refine an ?_;obtain⟨dm,cc,h⟩:=bind_some h;refine nT (λs=>s.h 4=aa.h 4/\s.t 0=vL enB p0/\s.t 3=vP 3 1 0/\s.t 4=vP 4 1 0/\s.t 5=vP 5 1 0/\s.t 6=vB J.2/\s.t 9=vI v9/\s.t 102=vB dm/\s.h 3=(1,oB 26 [.row 100023 1])/\s.h 5=(1,oB 26 [.row 100029 1])/\s.h 100023=(1,oW 49 24 M.aK.en j.1.Y0)/\s.h 100029=(1,oW 49 24 M.aK.en J.1.Y0)/\s.h 800023=(1,oW 193 2 M.Y6.en j.2.Y1.Y1)/\s.h 1100023=(1,oW 40 3 M.aA.en j.2.bG.Zf.Y5)/\s.h 1200023=(1,oW 282 2 M.aM.en j.2.bG.Zf.Za)/\s.h 1300023=(1,oW 5 1 enB j.2.bG.ZD)/\s.h 1600023=(1,oW 284 4 M.Zd.en j.2.aD.Zf.Y3)/\s.h 2100023=(1,oW 211 7 M.aV.en j.2.aD.Ze.aF.Y9)/\True) ?_ ?_;(replace h:=cc;clear cc;rcases jR (decide (dk<0))with aj | aj;(replace h:=bX aj h;refine rd mixed ?_;cases h;refine fA ⟨?_,?_,?_,?_,?_,?_,?_,?_,?_,?_,?_,?_,?_,?_,?_,?_,?_,?_,trivial⟩<;>(try simp +decide only[F,reduceIte,Nat.reduceAdd,qB,qC,EN, *,-h]));replace h:=bW aj h;rcases jR (decide (dk>=(List.length J.1.Y0:Int)))with ak | ak;(replace h:=bX ak h;refine rd mixed ?_;cases h;refine fA ⟨?_,?_,?_,?_,?_,?_,?_,?_,?_,?_,?_,?_,?_,?_,?_,?_,?_,?_,trivial⟩<;>(try simp +decide only[F,reduceIte,Nat.reduceAdd,qB,qC,EN, *,-h]));replace h:=bW ak h;rcases jR (!(dj.Zh.toList==j.2.Zh.toList))with al | al;(replace h:=bX al h;obtain⟨dx,cd,h⟩:=bind_some h;obtain⟨dy,dz,ec⟩:=pZ cd;obtain⟨ef,cg,h⟩:=bind_some h;refine rd1 mixed (c13 _ _ _ cg) ?_;cases h;refine fA ⟨?_,?_,?_,?_,?_,?_,?_,?_,?_,?_,?_,?_,?_,?_,?_,?_,?_,?_,trivial⟩<;>(try simp +decide only[F,reduceIte,Nat.reduceAdd,qB,qC,EN, *,-h]));replace h:=bW al h;rcases AU (!(dj.Zw.toList==j.2.Zw.toList))with ao | ao;(replace h:=bW ao h;refine rd mixed ?_;cases h;refine fA ⟨?_,?_,?_,?_,?_,?_,?_,?_,?_,?_,?_,?_,?_,?_,?_,?_,?_,?_,trivial⟩<;>(try simp +decide only[F,reduceIte,Nat.reduceAdd,qB,qC,EN, *,-h]));replace h:=bX ao h;obtain⟨eg,cj,h⟩:=bind_some h;obtain⟨eh,et,eu⟩:=pZ cj;obtain⟨ez,ck,h⟩:=bind_some h;refine rd1 mixed (c13 _ _ _ ck) ?_;cases h;refine fA ⟨?_,?_,?_,?_,?_,?_,?_,?_,?_,?_,?_,?_,?_,?_,?_,?_,?_,?_,trivial⟩<;>(try simp +decide only[F,reduceIte,Nat.reduceAdd,qB,qC,EN, *,-h]));clear cc;rintro gh ⟨f94,f86⟩;replace f94:=f94.trans f64;rcases jR dm with aq | aq;(replace h:=bX aq h;refine ct (sq (rn ?_));refine an (rt ?_);cases h;simp[Ret,TB,EN, *]);replace h:=bW aq h;refine cf (sk (ab (an (rn ?_))));refine fA ⟨mL1,qc,i64.wrap (v9+1),?_,?_,?_,?_,?_,?_,?_,?_,?_,?_,?_,?_,?_,?_,?_,?_,?_,h⟩;all_goals simp +decide only[F,reduceIte,Nat.reduceAdd,qB,qC,EN, *,-h]
 replace h:=bW ca h
 refine cf (xt (Bl (Bb (EJ (an (sq ?_))))))
 obtain⟨C,cl,h⟩:=bind_some h
 refine rn1 (c14 _ _ cl) ?_
 refine an (sq ?_)
 obtain⟨I,cn,h⟩:=bind_some h
 refine rn1 (c15 _ _ _ _ cn) ?_
 refine an (sq ?_)
 obtain⟨bn,ar,h⟩:=bind_some h
 refine nT (λs=>s.t 12=vP 12 ((aa.h 12).1+1) 0/\s.t 13=vR 200105 ((aa.h 200105).1+1)/\s.t 14=vI C.2.2/\s.t 15=vP 15 ((aa.h 15).1+1) 0/\s.t 16=vR 200113 ((aa.h 200113).1+1)/\s.t 132=vB bn/\s.h 12=((aa.h 12).1+1,oB 26 [.row 100105 ((aa.h 100105).1+1)])/\s.h 15=((aa.h 15).1+1,oB 26 [.row 100113 ((aa.h 100113).1+1)])/\s.h 100105=((aa.h 100105).1+1,oW 49 24 M.aK.en C.1.Y0)/\s.h 100113=((aa.h 100113).1+1,oW 49 24 M.aK.en I.1.Y0)/\s.h 200105=((aa.h 200105).1+1,oW 96 11 M.fS.en C.2.1)/\s.h 200113=((aa.h 200113).1+1,oW 9 1 enS I.2)/\True) ?_ ?_
 ·replace h:=ar;clear ar;rcases jR ((i64.wrap ((List.length I.1.Y0:Int)+(List.length I.2:Int))) != (List.length C.1.Y0:Int))with av | av;(replace h:=bX av h;refine rd mixed ?_;cases h;refine fA ⟨?_,?_,?_,?_,?_,?_,?_,?_,?_,?_,?_,?_,trivial⟩<;>(try simp +decide only[F,reduceIte,Nat.reduceAdd,qB,qC,EN, *,-h]));replace h:=bW av h;obtain⟨fa,cp,h⟩:=bind_some h;obtain⟨fc,cq,h⟩:=bind_some h;refine rd2 mixed (c16 _ _ cp) (c16 _ _ cq) ?_;cases h;refine fA ⟨?_,?_,?_,?_,?_,?_,?_,?_,?_,?_,?_,?_,trivial⟩<;>(try simp +decide only[F,reduceIte,Nat.reduceAdd,qB,qC,EN, *,-h])
 clear ar
 rintro fe f130
 rcases jR bn with aw | aw
 ·replace h:=bX aw h;refine ct (sq (rn ?_));refine an (rt ?_);cases h;simp[Ret,TB,EN, *]
 replace h:=bW aw h
 refine cf (sk (an (sq (rn ?_))))
 refine an (sq (sq (rn ?_)))
 refine an (bk ?_)
 refine Dk (λm s=>∃U:Int,∃ai:Int,s.t 12=vP 12 ((aa.h 12).1+1) 0/\s.t 13=vR 200105 ((aa.h 200105).1+1)/\s.t 14=vI C.2.2/\s.t 15=vP 15 ((aa.h 15).1+1) 0/\s.t 16=vR 200113 ((aa.h 200113).1+1)/\s.t 17=vI U/\s.t 18=vI ai/\s.h 12=((aa.h 12).1+1,oB 26 [.row 100105 ((aa.h 100105).1+1)])/\s.h 15=((aa.h 15).1+1,oB 26 [.row 100113 ((aa.h 100113).1+1)])/\s.h 100105=((aa.h 100105).1+1,oW 49 24 M.aK.en C.1.Y0)/\s.h 100113=((aa.h 100113).1+1,oW 49 24 M.aK.en I.1.Y0)/\s.h 200105=((aa.h 200105).1+1,oW 96 11 M.fS.en C.2.1)/\s.h 200113=((aa.h 200113).1+1,oW 9 1 enS I.2)/\eN C I m U ai=some r) fuel ?_ ?_
 ·refine⟨0,0,?_,?_,?_,?_,?_,?_,?_,?_,?_,?_,?_,?_,?_,h⟩;all_goals simp +decide only[F,reduceIte,Nat.reduceAdd,qB,qC,EN, *,-h]
 rintro mL2 ff ⟨U,ai,f149,f150,f151,f152,f153,f154,f155,f156,f157,f158,f159,f160,f161,h⟩
 rcases mL2 with _ | mL2
 ·exact absurd h (by simp[eN])
 simp only[eN]at h
 refine sq (sq (rn ?_))
 refine an ?_
 rcases AU (decide (ai<(List.length C.1.Y0:Int)))with ax | ax
 ·replace h:=bW ax h;refine cf (xt (Bl (Bb (EJ (an (sq (rn ?_)))))));refine an (rt ?_);cases h;simp[Ret,TB,EN, *]
 replace h:=bX ax h
 refine ct (sk (an (sq (bk (sq ?_)))))
 obtain⟨ay,cr,h⟩:=bind_some h
 obtain⟨fg,fh,fj⟩:=pZ cr
 obtain⟨cw,cx,h⟩:=bind_some h
 refine rn1 (c17.1 _ _ _ _ cx) ?_
 refine an ?_
 rcases AU cw with az | az
 ·replace h:=bW az h;refine cf ?_;obtain⟨bo,ba,h⟩:=bind_some h;refine nT (λs=>s.t 12=vP 12 ((aa.h 12).1+1) 0/\s.t 13=vR 200105 ((aa.h 200105).1+1)/\s.t 14=vI C.2.2/\s.t 15=vP 15 ((aa.h 15).1+1) 0/\s.t 16=vR 200113 ((aa.h 200113).1+1)/\s.t 17=vI U/\s.t 18=vI ai/\s.t 218=vB bo/\s.h 12=((aa.h 12).1+1,oB 26 [.row 100105 ((aa.h 100105).1+1)])/\s.h 15=((aa.h 15).1+1,oB 26 [.row 100113 ((aa.h 100113).1+1)])/\s.h 100105=((aa.h 100105).1+1,oW 49 24 M.aK.en C.1.Y0)/\s.h 100113=((aa.h 100113).1+1,oW 49 24 M.aK.en I.1.Y0)/\s.h 200105=((aa.h 200105).1+1,oW 96 11 M.fS.en C.2.1)/\s.h 200113=((aa.h 200113).1+1,oW 9 1 enS I.2)/\True) ?_ ?_;(replace h:=ba;clear ba;rcases jR (decide ((i64.wrap (ai-U))>=(List.length I.1.Y0:Int)))with bd | bd;(replace h:=bX bd h;refine rd mixed ?_;cases h;refine fA ⟨?_,?_,?_,?_,?_,?_,?_,?_,?_,?_,?_,?_,?_,?_,trivial⟩<;>(try simp +decide only[F,reduceIte,Nat.reduceAdd,qB,qC,EN, *,-h]));replace h:=bW bd h;obtain⟨fk,cy,h⟩:=bind_some h;obtain⟨fm,fo,fq⟩:=pZ cy;obtain⟨ft,cz,h⟩:=bind_some h;refine rd1 mixed (c13 _ _ _ cz) ?_;cases h;refine fA ⟨?_,?_,?_,?_,?_,?_,?_,?_,?_,?_,?_,?_,?_,?_,trivial⟩<;>(try simp +decide only[F,reduceIte,Nat.reduceAdd,qB,qC,EN, *,-h]));clear ba;rintro fw f204;rcases jR bo with bf | bf;(replace h:=bX bf h;refine ct (sq (rn ?_));refine an (rt ?_);cases h;simp[Ret,TB,EN, *]);replace h:=bW bf h;refine cf (sk (ab (an (rn ?_))));refine fA ⟨mL2,qc,U,i64.wrap (ai+1),?_,?_,?_,?_,?_,?_,?_,?_,?_,?_,?_,?_,?_,h⟩;all_goals simp +decide only[F,reduceIte,Nat.reduceAdd,qB,qC,EN, *,-h]
 replace h:=bX az h
 refine ct (sq ?_)
 obtain⟨bq,bg,h⟩:=bind_some h
 refine nT (λs=>s.t 12=vP 12 ((aa.h 12).1+1) 0/\s.t 13=vR 200105 ((aa.h 200105).1+1)/\s.t 14=vI C.2.2/\s.t 15=vP 15 ((aa.h 15).1+1) 0/\s.t 16=vR 200113 ((aa.h 200113).1+1)/\s.t 17=vI U/\s.t 18=vI ai/\s.t 193=vB bq/\s.h 12=((aa.h 12).1+1,oB 26 [.row 100105 ((aa.h 100105).1+1)])/\s.h 15=((aa.h 15).1+1,oB 26 [.row 100113 ((aa.h 100113).1+1)])/\s.h 100105=((aa.h 100105).1+1,oW 49 24 M.aK.en C.1.Y0)/\s.h 100113=((aa.h 100113).1+1,oW 49 24 M.aK.en I.1.Y0)/\s.h 200105=((aa.h 200105).1+1,oW 96 11 M.fS.en C.2.1)/\s.h 200113=((aa.h 200113).1+1,oW 9 1 enS I.2)/\True) ?_ ?_
 ·replace h:=bg;clear bg;rcases jR (decide (U>=(List.length I.2:Int)))with bh | bh;(replace h:=bX bh h;refine rd mixed ?_;cases h;refine fA ⟨?_,?_,?_,?_,?_,?_,?_,?_,?_,?_,?_,?_,?_,?_,trivial⟩<;>(try simp +decide only[F,reduceIte,Nat.reduceAdd,qB,qC,EN, *,-h]));replace h:=bW bh h;obtain⟨da,db,h⟩:=bind_some h;obtain⟨fx,fy,fz⟩:=pZ db;obtain⟨g0,df,h⟩:=bind_some h;have h195_:=Iv df;obtain⟨g7,dg,h⟩:=bind_some h;have h197_:=Iv dg;rcases jR (!(da.toList==((ay.Zh++(⟨#[47]⟩:ByteArray))++ay.Zw).toList))with bj | bj;(replace h:=bX bj h;refine rd2 mixed h195_ h197_ ?_;cases h;refine fA ⟨?_,?_,?_,?_,?_,?_,?_,?_,?_,?_,?_,?_,?_,?_,trivial⟩<;>(try simp +decide only[F,reduceIte,Nat.reduceAdd,qB,qC,EN, *,-h]));replace h:=bW bj h;rcases jR ay.Zl with bl | bl;(replace h:=bX bl h;refine rd2 mixed h195_ h197_ ?_;cases h;refine fA ⟨?_,?_,?_,?_,?_,?_,?_,?_,?_,?_,?_,?_,?_,?_,trivial⟩<;>(try simp +decide only[F,reduceIte,Nat.reduceAdd,qB,qC,EN, *,-h]));replace h:=bW bl h;refine rd2 mixed h195_ h197_ ?_;cases h;refine fA ⟨?_,?_,?_,?_,?_,?_,?_,?_,?_,?_,?_,?_,?_,?_,trivial⟩<;>(try simp +decide only[F,reduceIte,Nat.reduceAdd,qB,qC,EN, *,-h])
 clear bg
 rintro g8 f174
 rcases jR bq with bm | bm
 ·replace h:=bX bm h;refine ct (sq (rn ?_));refine an (rt ?_);cases h;simp[Ret,TB,EN, *]
 replace h:=bW bm h
 refine cf (sk (an (rn ?_)))
 refine ab (an (rn ?_))
 refine fA ⟨mL2,qc,i64.wrap (U+1),i64.wrap (ai+1),?_,?_,?_,?_,?_,?_,?_,?_,?_,?_,?_,?_,?_,h⟩
 all_goals simp +decide only[F,reduceIte,Nat.reduceAdd,qB,qC,EN, *,-h]
end Go.Proofs.YtipmihbgjolaaaaGreat.gen
