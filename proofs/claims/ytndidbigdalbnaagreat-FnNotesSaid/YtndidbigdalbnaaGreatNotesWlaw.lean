/-
  Helper text. No conditions.
-/
import Derived.Test.YtndidbigdalbnaaGreatNotesWimpl7
import Derived.Test.YtndidbigdalbnaaGreatNotesWmark
import Derived.Test.YtndidbigdalbnaaGreatNotesWspec12
set_option linter.all false
namespace Go.Proofs.YtndidbigdalbnaaGreat.gen
open Go Go.Sh
set_option maxRecDepth 20000
set_option maxHeartbeats 4000000
theorem PU(p0 r)(h:Db p0=some r):Sc 3 [aL enB p0] [rB r]:=by
 unfold Db at h
 simp only[EN]
 refine sgn 123 [.tmp 2] Tryz.func3 λbase wd=> ?_
 refine sq (rn ?_)
 refine an (sq (sq ?_))
 obtain⟨x1,h2,h⟩:=aA h
 refine rn1 (c4 _ _ h2) ?_
 refine an ?_
 rcases gK x1 with b3|b3
 ·replace h:=bQ b3 h;refine ct (sq (rn ?_));exact an (rt zR)
 replace h:=bP b3 h
 refine cf (sk (an (sq ?_)))
 obtain⟨x4,h5,h⟩:=aA h
 refine rn1 (c5 _ _ h5) ?_
 refine an (sq ?_)
 obtain⟨x6,h7,h⟩:=aA h
 refine rn1 (c6 _ _ _ _ _ _ h7) ?_
 refine an (sq ?_)
 obtain⟨x8,h9,h⟩:=aA h
 refine rn1 (c7.1 _ _ _ _ _ _ h9) ?_
 refine an (sq ?_)
 obtain⟨ba,aa,h⟩:=aA h
 obtain⟨j,eV1⟩:=nmH ((1,oW 75 24 M.aKe.en x6.1.aC.aKf))
 obtain⟨C,eV2⟩:=nmH ((1,oW 116 3 M.Eb.en x6.1.aKp.aLJ))
 obtain⟨I,eV3⟩:=nmH ((1,oW 113 4 M.vE.en x6.1.aKu.aKu))
 obtain⟨J,eV4⟩:=nmH ((1,oW 125 5 M.aKt.en x6.1.aKr))
 obtain⟨U,eV5⟩:=nmH ((1,oW 120 4 M.aKl.en x6.1.aK0))
 obtain⟨V6,eV6⟩:=nmH ((1,oW 44 11 M.bK.en x6.1.aKq))
 obtain⟨V7,eV7⟩:=nmH ((1,oX 44 (M.bK.en x4.2.1)))
 obtain⟨V8,eV8⟩:=nmH ((1,oX 37 (M.aE.en x4.1)))
 refine yN (λs=>s.t 3=vP 3 1 0/\s.t 4=vP 4 1 0/\s.t 5=vI x4.2.2.1/\s.t 6=vS x4.2.2.2.1/\s.t 7=vI x4.2.2.2.2/\s.t 8=vP 8 1 0/\s.t 9=vB x6.2/\s.t 61=vB ba/\s.h 3=V8/\s.h 4=V7/\s.h 8=(1,oB 37 [cI x6.1.Now,cB x6.1.aK4,cI x6.1.aKk,.row 400031 1,.row 500031 1,cI x6.1.aKn,.row 700031 1,.row 800031 1,.row 900031 1,.row 1000031 1])/\s.h 400031=j/\s.h 500031=V6/\s.h 700031=I/\s.h 800031=C/\s.h 900031=U/\s.h 1000031=J/\True) ?_ ?_
 ·replace h:=aa;clear aa;rcases gK (!(x6.2==x8.2))with ae|ae;(replace h:=bQ ae h;refine rn ?_;cases h;exact fB zM);replace h:=bP ae h;obtain⟨bg,af,h⟩:=aA h;rcases gK (!bg)with ah|ah;(replace h:=bQ ah h;refine rn1 (c8 _ _ _ af) ?_;cases h;exact fB zM);replace h:=bP ah h;rcases CP (!x6.2)with ai|ai;(replace h:=bP ai h;refine rn1 (c8 _ _ _ af) ?_;cases h;exact fB zM);replace h:=bQ ai h;obtain⟨ca,bh,h⟩:=aA h;refine rn2 (c8 _ _ _ af) (c8 _ _ _ bh) ?_;cases h;exact fB zM
 clear aa
 rintro bj f13
 rcases gK ba with aj|aj
 ·replace h:=bQ aj h;refine ct (sq (rn ?_));exact an (rt zR)
 replace h:=bP aj h
 refine cf (sk (an (sq ?_)))
 obtain⟨bl,bm,h⟩:=aA h
 refine rn1 (c9.1 _ _ _ _ bm) ?_
 refine an ?_
 obtain⟨bd,ak,h⟩:=aA h
 refine yN (λs=>s.h 8=bj.h 8/\s.t 3=vP 3 1 0/\s.t 4=vP 4 1 0/\s.t 5=vI x4.2.2.1/\s.t 6=vS x4.2.2.2.1/\s.t 7=vI x4.2.2.2.2/\s.t 8=vP 8 1 0/\s.t 9=vB x6.2/\s.t 13=vB bd/\s.h 3=V8/\s.h 4=V7/\s.h 400031=j/\s.h 500031=V6/\s.h 700031=I/\s.h 800031=C/\s.h 900031=U/\s.h 1000031=J/\True) ?_ ?_
 ·replace h:=ak;clear ak;rcases gK (decide (bl<0))with al|al;(replace h:=bQ al h;refine rd mixed ?_;cases h;exact fB zM);replace h:=bP al h;obtain⟨cc,bn,h⟩:=aA h;obtain⟨cd,cg,cj⟩:=pK bn;obtain⟨ck,bo,h⟩:=aA h;obtain⟨cl,bq,h⟩:=aA h;refine rd2 mixed (c11 _ _ bo) (c10 _ _ _ bq) ?_;cases h;exact fB zM
 clear ak
 rintro br ⟨f53,f43⟩
 replace f53:=f53.trans f13.2.2.2.2.2.2.2.2.2.2.1
 refine sq ?_
 obtain⟨bf,ao,h⟩:=aA h
 refine yN (λs=>s.h 8=br.h 8/\s.t 3=vP 3 1 0/\s.t 4=vP 4 1 0/\s.t 5=vI x4.2.2.1/\s.t 6=vS x4.2.2.2.1/\s.t 8=vP 8 1 0/\s.t 104=vB bf/\s.h 3=V8/\s.h 4=V7/\s.h 400031=j/\s.h 500031=V6/\s.h 700031=I/\s.h 800031=C/\s.h 900031=U/\s.h 1000031=J/\True) ?_ ?_
 ·replace h:=ao;clear ao;rcases CP x6.2 with aq|aq;(replace h:=bP aq h;refine rn ?_;cases h;exact fB zM);replace h:=bQ aq h;rcases CP bd with ar|ar;(replace h:=bP ar h;refine rn ?_;cases h;exact fB zM);replace h:=bQ ar h;obtain⟨cn,bt,h⟩:=aA h;obtain⟨cp,bu,h⟩:=aA h;refine rn2 (c12 _ _ _ _ _ bt) (c13.1 _ _ _ bu) ?_;cases h;exact fB zM
 clear ao
 rintro cq ⟨f81,f73⟩
 replace f81:=f81.trans f53
 rcases gK bf with av|av
 ·replace h:=bQ av h;refine ct (sq (rn ?_));exact an (rt zR)
 replace h:=bP av h
 refine cf (sk (an (sq (rn ?_))))
 refine an (sq (rn ?_))
 refine an ?_
 obtain⟨bw,aw,h⟩:=aA h
 refine yN (λs=>s.t 2=vB bw/\True) ?_ ?_
 ·replace h:=aw;clear aw;rcases gK (x4.2.1.Top.toList==(⟨#[110,101,119,115]⟩:ByteArray).toList)with ax|ax;(replace h:=bQ ax h;refine rd mixed ?_;cases h;exact fB zM);replace h:=bP ax h;obtain⟨bx,ay,h⟩:=aA h;obtain⟨bz,az,h⟩:=aA h;refine rd2 mixed (c12 _ _ _ _ _ ay) (c14.1 _ _ _ _ _ az) ?_;cases h;exact fB zM
 clear aw
 rintro cr ⟨f98,_⟩
 exact rt zR
