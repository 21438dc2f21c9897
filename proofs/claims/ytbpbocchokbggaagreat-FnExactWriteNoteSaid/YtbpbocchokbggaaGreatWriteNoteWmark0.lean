/-
  Helper text. No conditions.
-/
import Derived.Test.YtbpbocchokbggaaGreatWriteNoteTi
set_option linter.all false
namespace Go.Proofs.YtbpbocchokbggaaGreat.gen
open Go Go.Sh
open Go.IntKind (i64)
set_option maxRecDepth 20000
set_option maxHeartbeats 4000000
instance Ga:aZ 217 (∀p0 r (h:aH p0=some r),Sc 217 [aI p0] [rS r]):=⟨λp0 r h=>by
 have i1:=inv λm s=>∃v0:Int,∃v3:ByteArray,(s.t 0=vI v0/\s.t 3=vS v3)/\mM m v0 v3=some r
 have e1:=@mM.eq_2
 unfold aH at h
 exact sgo 20 [.tmp 2] Tryz.func217⟩
theorem ER(J:List Int)(U:Int)(r:(List Int×Int))(h:pQ J U=some r):nM Tryz.prog 366 false ([.sl (List.map enB J)]) ([.sl (List.map enB r.1)]) U r.2:=by
 unfold pQ at h
 refine eZ (N:=20) (r:=4) Tryz.func366 rfl rfl rfl jH jG λcx=> ?_
 refine msq (mrn ?_)
 refine man (msq (msq (mrn ?_)))
 refine man (mbk ?_)
 refine mls enB h (λ_ _ _=>rfl) λmL1 s1 v1 C af f2 h=> ?_
 simp only[gG]at h
 refine msq (msq (mrn ?_))
 refine man ?_
 rcases Ep (decide (C<(List.length af:Int)))with b7|b7
 ·replace h:=bQ b7 h;refine mcf (mxt (uU (uT (BA (man (msq (mrn ?_)))))));refine man (mrt ?_);cases h;exact mfi
 replace h:=bR b7 h
 refine mct (msk (man (msq (mbk (msq ?_)))))
 obtain⟨x8,h9,h⟩:=bind_some h
 obtain⟨ah,ai,aj⟩:=aO h9
 refine mrn ?_
 obtain⟨I,j,h⟩:=bind_some h
 replace j:=(qc j).symm
 refine man ?_
 refine mcv v1 C enB I λak f16=> ?_
 clear j
 refine mrn ?_
 refine mab (man (mrn ?_))
 exact mbe (i64.wrap (v1+1)) (i64.wrap (C+1)) I h
theorem G8(p0:List M.aEW)(p1:Int)(r:(List M.aEW×Int))(h:xJ p0 p1=some r):nM Tryz.prog 465 false ([.sl (List.map M.aEW.en p0)]) ([.sl (List.map M.aEW.en r.1)]) p1 r.2:=by
 unfold xJ at h
 refine eZ (N:=71) (r:=4) Tryz.func465 rfl rfl rfl jH jG λcx=> ?_
 refine msq (mrn ?_)
 refine man (msq (msq (mrn ?_)))
 refine man (mbk ?_)
 refine mls M.aEW.en h (λ_ _ _=>rfl) λmL1 s1 C j aq f2 h=> ?_
 simp only[kB]at h
 refine msq (msq (mrn ?_))
 refine man ?_
 rcases Ep (decide (j<(List.length aq:Int)))with b7|b7
 ·replace h:=bQ b7 h;refine mcf (mxt (uU (uT (BA (man (msq (mrn ?_)))))));refine man (mrt ?_);cases h;exact mfi
 replace h:=bR b7 h
 refine mct (msk (man (msq (mbk (msq ?_)))))
 obtain⟨x8,h9,h⟩:=bind_some h
 obtain⟨bo,ar,h⟩:=bind_some h
 obtain⟨bq,br,bt⟩:=aO ar
 refine CT (Ga.1 _ _ h9) ?_
 obtain⟨av,I,h⟩:=bind_some h
 replace I:=(qc I).symm
 refine man (msq ?_)
 refine mcv C j M.aEW.en av λbu f18=> ?_
 clear I
 refine mrn ?_
 refine man (msq ?_)
 obtain⟨bw,aw,h⟩:=bind_some h
 obtain⟨bz,ax,h⟩:=bind_some h
 obtain⟨c5,ca,cc⟩:=aO ax
 refine CT (Ga.1 _ _ aw) ?_
 obtain⟨ay,J,h⟩:=bind_some h
 replace J:=(qc J).symm
 refine man (msq ?_)
 refine mcv (i64.wrap (C+1)) j M.aEW.en ay λcd f33=> ?_
 clear J
 refine mrn ?_
 refine man (msq ?_)
 obtain⟨cg,az,h⟩:=bind_some h
 obtain⟨cj,ck,cn⟩:=aO az
 refine mrn ?_
 obtain⟨ba,U,h⟩:=bind_some h
 replace U:=(qc U).symm
 refine man (msq ?_)
 refine mcv (i64.wrap ((i64.wrap (C+1))+1)) j M.aEW.en ba λcq f46=> ?_
 clear U
 refine mrn ?_
 refine man (msq ?_)
 obtain⟨cr,bd,h⟩:=bind_some h
 obtain⟨cw,cy,cz⟩:=aO bd
 refine mrn ?_
 obtain⟨bf,ah,h⟩:=bind_some h
 replace ah:=(qc ah).symm
 refine man (msq ?_)
 refine mcv (i64.wrap ((i64.wrap ((i64.wrap (C+1))+1))+1)) j M.aEW.en bf λda f59=> ?_
 clear ah
 refine mrn ?_
 refine man (msq ?_)
 obtain⟨db,bg,h⟩:=bind_some h
 obtain⟨df,dg,dh⟩:=aO bg
 refine mrn ?_
 obtain⟨bh,ai,h⟩:=bind_some h
 replace ai:=(qc ai).symm
 refine man (msq ?_)
 refine mcv (i64.wrap ((i64.wrap ((i64.wrap ((i64.wrap (C+1))+1))+1))+1)) j M.aEW.en bh λdi f72=> ?_
 clear ai
 refine mrn ?_
 refine man (msq ?_)
 obtain⟨dj,bj,h⟩:=bind_some h
 obtain⟨dm,dn,dq⟩:=aO bj
 obtain⟨aj,bl,h⟩:=bind_some h
 refine CT (ER _ _ _ bl) ?_
 obtain⟨bm,ak,h⟩:=bind_some h
 replace ak:=(qc ak).symm
 refine man (msq ?_)
 refine mcv aj.2 j M.aEW.en bm λdu f87=> ?_
 clear ak
 obtain⟨dw,bn,h⟩:=bind_some h
 obtain⟨dx,dy,dz⟩:=aO bn
 refine mrn ?_
 obtain⟨ao,al,h⟩:=bind_some h
 replace al:=(qc al).symm
 refine man ?_
 refine mcv aj.2 j M.aEW.en ao λec f100=> ?_
 clear al
 refine mrn ?_
 refine mab (man (mrn ?_))
 exact mbe (i64.wrap (aj.2+1)) (i64.wrap (j+1)) ao h
theorem Ip(p0:List M.aEZ)(p1:Int)(r:(List M.aEZ×Int))(h:zY p0 p1=some r):nM Tryz.prog 363 false ([.sl (List.map M.aEZ.en p0)]) ([.sl (List.map M.aEZ.en r.1)]) p1 r.2:=by
 unfold zY at h
 refine eZ (N:=27) (r:=4) Tryz.func363 rfl rfl rfl jH jG λcx=> ?_
 refine msq (mrn ?_)
 refine man (msq (msq (mrn ?_)))
 refine man (mbk ?_)
 refine mls M.aEZ.en h (λ_ _ _=>rfl) λmL1 s1 v1 j ai f2 h=> ?_
 simp only[kW]at h
 refine msq (msq (mrn ?_))
 refine man ?_
 rcases Ep (decide (j<(List.length ai:Int)))with b7|b7
 ·replace h:=bQ b7 h;refine mcf (mxt (uU (uT (BA (man (msq (mrn ?_)))))));refine man (mrt ?_);cases h;exact mfi
 replace h:=bR b7 h
 refine mct (msk (man (msq (mbk (msq ?_)))))
 obtain⟨x8,h9,h⟩:=bind_some h
 obtain⟨ao,aq,ar⟩:=aO h9
 refine mrn ?_
 obtain⟨aj,C,h⟩:=bind_some h
 replace C:=(qc C).symm
 refine man (msq ?_)
 refine mcv v1 j M.aEZ.en aj λav f16=> ?_
 clear C
 refine mrn ?_
 refine man ?_
 obtain⟨aw,ak,h⟩:=bind_some h
 obtain⟨ax,ay,az⟩:=aO ak
 obtain⟨J,al,h⟩:=bind_some h
 refine CT (G8 _ _ _ al) ?_
 obtain⟨U,I,h⟩:=bind_some h
 replace I:=(qc I).symm
 refine mab (man ?_)
 refine mcv J.2 j M.aEZ.en U λba f31=> ?_
 clear I
 refine mrn ?_
 exact mbe J.2 (i64.wrap (j+1)) U h
theorem Im(p0:List M.Field)(p1:Int)(r:(List M.Field×Int))(h:zV p0 p1=some r):nM Tryz.prog 367 false ([.sl (List.map M.Field.en p0)]) ([.sl (List.map M.Field.en r.1)]) p1 r.2:=by
 unfold zV at h
 refine eZ (N:=28) (r:=4) Tryz.func367 rfl rfl rfl jH jG λcx=> ?_
 refine msq (mrn ?_)
 refine man (msq (msq (mrn ?_)))
 refine man (mbk ?_)
 refine mls M.Field.en h (λ_ _ _=>rfl) λmL1 s1 J j ah f2 h=> ?_
 simp only[kR]at h
 refine msq (msq (mrn ?_))
 refine man ?_
 rcases Ep (decide (j<(List.length ah:Int)))with b7|b7
 ·replace h:=bQ b7 h;refine mcf (mxt (uU (uT (BA (man (msq (mrn ?_)))))));refine man (mrt ?_);cases h;exact mfi
 replace h:=bR b7 h
 refine mct (msk (man (msq (mbk (msq ?_)))))
 obtain⟨x8,h9,h⟩:=bind_some h
 obtain⟨al,ai,h⟩:=bind_some h
 obtain⟨ao,aq,ar⟩:=aO ai
 refine CT (Ga.1 _ _ h9) ?_
 obtain⟨aj,C,h⟩:=bind_some h
 replace C:=(qc C).symm
 refine man (msq ?_)
 refine mcv J j M.Field.en aj λav f18=> ?_
 clear C
 refine mrn ?_
 refine man (msq ?_)
 obtain⟨aw,ak,h⟩:=bind_some h
 obtain⟨ax,ay,az⟩:=aO ak
 refine mrn ?_
 obtain⟨U,I,h⟩:=bind_some h
 replace I:=(qc I).symm
 refine man ?_
 refine mcv (i64.wrap (J+1)) j M.Field.en U λba f31=> ?_
 clear I
 refine mrn ?_
 refine mab (man (mrn ?_))
 exact mbe (i64.wrap ((i64.wrap (J+1))+1)) (i64.wrap (j+1)) U h
theorem CW(p0:List M.aES)(p1:Int)(r:(List M.aES×Int))(h:pF p0 p1=some r):nM Tryz.prog 223 false ([.sl (List.map M.aES.en p0)]) ([.sl (List.map M.aES.en r.1)]) p1 r.2:=by
 unfold pF at h
 refine eZ (N:=46) (r:=4) Tryz.func223 rfl rfl rfl jH jG λcx=> ?_
 refine msq (mrn ?_)
 refine man (msq (msq (mrn ?_)))
 refine man (mbk ?_)
 refine mls M.aES.en h (λ_ _ _=>rfl) λmL1 s1 v1 j ak f2 h=> ?_
 simp only[lR]at h
 refine msq (msq (mrn ?_))
 refine man ?_
 rcases Ep (decide (j<(List.length ak:Int)))with b7|b7
 ·replace h:=bQ b7 h;refine mcf (mxt (uU (uT (BA (man (msq (mrn ?_)))))));refine man (mrt ?_);cases h;exact mfi
 replace h:=bR b7 h
 refine mct (msk (man (msq (mbk (msq ?_)))))
 obtain⟨x8,h9,h⟩:=bind_some h
 obtain⟨az,ba,bd⟩:=aO h9
 refine mrn ?_
 obtain⟨al,C,h⟩:=bind_some h
 replace C:=(qc C).symm
 refine man (msq ?_)
 refine mcv v1 j M.aES.en al λbf f16=> ?_
 clear C
 refine mrn ?_
 refine man (msq ?_)
 obtain⟨bg,ao,h⟩:=bind_some h
 obtain⟨bh,bj,bl⟩:=aO ao
 refine mrn ?_
 obtain⟨aq,I,h⟩:=bind_some h
 replace I:=(qc I).symm
 refine man (msq ?_)
 refine mcv (i64.wrap (v1+1)) j M.aES.en aq λbm f29=> ?_
 clear I
 refine mrn ?_
 refine man (msq ?_)
 obtain⟨bn,ar,h⟩:=bind_some h
 obtain⟨bo,av,h⟩:=bind_some h
 obtain⟨bq,br,bt⟩:=aO av
 refine CT (Ga.1 _ _ ar) ?_
 obtain⟨aw,J,h⟩:=bind_some h
 replace J:=(qc J).symm
 refine man (msq ?_)
 refine mcv (i64.wrap ((i64.wrap (v1+1))+1)) j M.aES.en aw λbu f44=> ?_
 clear J
 refine mrn ?_
 refine man ?_
 obtain⟨bw,ax,h⟩:=bind_some h
 obtain⟨bz,c5,ca⟩:=aO ax
 obtain⟨ai,ay,h⟩:=bind_some h
 refine CT (Im _ _ _ ay) ?_
 obtain⟨aj,U,h⟩:=bind_some h
 replace U:=(qc U).symm
 refine mab (man ?_)
 refine mcv ai.2 j M.aES.en aj λcc f59=> ?_
 clear U
 refine mrn ?_
 exact mbe ai.2 (i64.wrap (j+1)) aj h
theorem II(p0:List M.aC)(p1:Int)(r:(List M.aC×Int))(h:zH p0 p1=some r):nM Tryz.prog 364 false ([.sl (List.map M.aC.en p0)]) ([.sl (List.map M.aC.en r.1)]) p1 r.2:=by
 unfold zH at h
 refine eZ (N:=35) (r:=4) Tryz.func364 rfl rfl rfl jH jG λcx=> ?_
 refine msq (mrn ?_)
 refine man (msq (msq (mrn ?_)))
 refine man (mbk ?_)
 refine mls M.aC.en h (λ_ _ _=>rfl) λmL1 s1 v1 j aj f2 h=> ?_
 simp only[kV]at h
 refine msq (msq (mrn ?_))
 refine man ?_
 rcases Ep (decide (j<(List.length aj:Int)))with b7|b7
 ·replace h:=bQ b7 h;refine mcf (mxt (uU (uT (BA (man (msq (mrn ?_)))))));refine man (mrt ?_);cases h;exact mfi
 replace h:=bR b7 h
 refine mct (msk (man (msq (mbk (msq ?_)))))
 obtain⟨x8,h9,h⟩:=bind_some h
 obtain⟨aw,ak,h⟩:=bind_some h
 obtain⟨ax,ay,az⟩:=aO ak
 refine CT (Ga.1 _ _ h9) ?_
 obtain⟨al,C,h⟩:=bind_some h
 replace C:=(qc C).symm
 refine man (msq ?_)
 refine mcv v1 j M.aC.en al λba f18=> ?_
 clear C
 refine mrn ?_
 refine man (msq ?_)
 obtain⟨bd,ao,h⟩:=bind_some h
 obtain⟨bf,bg,bh⟩:=aO ao
 obtain⟨I,aq,h⟩:=bind_some h
 refine CT (CW _ _ _ aq) ?_
 obtain⟨ar,J,h⟩:=bind_some h
 replace J:=(qc J).symm
 refine man (msq ?_)
 refine mcv I.2 j M.aC.en ar λbj f33=> ?_
 clear J
 obtain⟨bl,av,h⟩:=bind_some h
 obtain⟨bm,bn,bo⟩:=aO av
 refine mrn ?_
 obtain⟨ai,U,h⟩:=bind_some h
 replace U:=(qc U).symm
 refine man ?_
 refine mcv I.2 j M.aC.en ai λbq f46=> ?_
 clear U
 refine mrn ?_
 refine mab (man (mrn ?_))
 exact mbe (i64.wrap (I.2+1)) (i64.wrap (j+1)) ai h
theorem F6(p0:List M.aG)(p1:Int)(r:(List M.aG×Int))(h:sE p0 p1=some r):nM Tryz.prog 365 false ([.sl (List.map M.aG.en p0)]) ([.sl (List.map M.aG.en r.1)]) p1 r.2:=by
 unfold sE at h
 refine eZ (N:=29) (r:=4) Tryz.func365 rfl rfl rfl jH jG λcx=> ?_
 refine msq (mrn ?_)
 refine man (msq (msq (mrn ?_)))
 refine man (mbk ?_)
 refine mls M.aG.en h (λ_ _ _=>rfl) λmL1 s1 J j ah f2 h=> ?_
 simp only[gO]at h
 refine msq (msq (mrn ?_))
 refine man ?_
 rcases Ep (decide (j<(List.length ah:Int)))with b7|b7
 ·replace h:=bQ b7 h;refine mcf (mxt (uU (uT (BA (man (msq (mrn ?_)))))));refine man (mrt ?_);cases h;exact mfi
 replace h:=bR b7 h
 refine mct (msk (man (msq (mbk (msq ?_)))))
 obtain⟨x8,h9,h⟩:=bind_some h
 obtain⟨ao,ai,h⟩:=bind_some h
 obtain⟨aq,ar,av⟩:=aO ai
 refine CT (Ga.1 _ _ h9) ?_
 obtain⟨aj,C,h⟩:=bind_some h
 replace C:=(qc C).symm
 refine man (msq ?_)
 refine mcv J j M.aG.en aj λaw f18=> ?_
 clear C
 refine mrn ?_
 refine man (msq ?_)
 obtain⟨ax,ak,h⟩:=bind_some h
 obtain⟨ay,al,h⟩:=bind_some h
 obtain⟨az,ba,bd⟩:=aO al
 refine CT (Ga.1 _ _ ak) ?_
 obtain⟨U,I,h⟩:=bind_some h
 replace I:=(qc I).symm
 refine man ?_
 refine mcv (i64.wrap (J+1)) j M.aG.en U λbf f33=> ?_
 clear I
 refine mrn ?_
 refine mab (man (mrn ?_))
 exact mbe (i64.wrap ((i64.wrap (J+1))+1)) (i64.wrap (j+1)) U h
theorem D6(p0:List M.bB)(p1:Int)(r:(List M.bB×Int))(h:sX p0 p1=some r):nM Tryz.prog 225 false ([.sl (List.map M.bB.en p0)]) ([.sl (List.map M.bB.en r.1)]) p1 r.2:=by
 unfold sX at h
 refine eZ (N:=67) (r:=4) Tryz.func225 rfl rfl rfl jH jG λcx=> ?_
 refine msq (mrn ?_)
 refine man (msq (msq (mrn ?_)))
 refine man (mbk ?_)
 refine mls M.bB.en h (λ_ _ _=>rfl) λmL1 s1 C j ao f2 h=> ?_
 simp only[kT]at h
 refine msq (msq (mrn ?_))
 refine man ?_
 rcases Ep (decide (j<(List.length ao:Int)))with b7|b7
 ·replace h:=bQ b7 h;refine mcf (mxt (uU (uT (BA (man (msq (mrn ?_)))))));refine man (mrt ?_);cases h;exact mfi
 replace h:=bR b7 h
 refine mct (msk (man (msq (mbk (msq ?_)))))
 obtain⟨x8,h9,h⟩:=bind_some h
 obtain⟨bm,bn,bo⟩:=aO h9
 refine mrn ?_
 obtain⟨aq,I,h⟩:=bind_some h
 replace I:=(qc I).symm
 refine man (msq ?_)
 refine mcv C j M.bB.en aq λbq f16=> ?_
 clear I
 refine mrn ?_
 refine man (msq ?_)
 obtain⟨br,ar,h⟩:=bind_some h
 obtain⟨bt,bu,bw⟩:=aO ar
 refine mrn ?_
 obtain⟨av,J,h⟩:=bind_some h
 replace J:=(qc J).symm
 refine man (msq ?_)
 refine mcv (i64.wrap (C+1)) j M.bB.en av λbz f29=> ?_
 clear J
 refine mrn ?_
 refine man (msq ?_)
 obtain⟨c5,aw,h⟩:=bind_some h
 obtain⟨ca,cc,cd⟩:=aO aw
 refine mrn ?_
 obtain⟨ax,U,h⟩:=bind_some h
 replace U:=(qc U).symm
 refine man (msq ?_)
 refine mcv (i64.wrap ((i64.wrap (C+1))+1)) j M.bB.en ax λcg f42=> ?_
 clear U
 refine mrn ?_
 refine man (msq ?_)
 obtain⟨cj,ay,h⟩:=bind_some h
 obtain⟨ck,cn,cq⟩:=aO ay
 refine mrn ?_
 obtain⟨az,ah,h⟩:=bind_some h
 replace ah:=(qc ah).symm
 refine man (msq ?_)
 refine mcv (i64.wrap ((i64.wrap ((i64.wrap (C+1))+1))+1)) j M.bB.en az λcr f55=> ?_
 clear ah
 refine mrn ?_
 refine man (msq ?_)
 obtain⟨cw,ba,h⟩:=bind_some h
 obtain⟨cy,bd,h⟩:=bind_some h
 obtain⟨cz,da,db⟩:=aO bd
 refine CT (Ga.1 _ _ ba) ?_
 obtain⟨bf,ai,h⟩:=bind_some h
 replace ai:=(qc ai).symm
 refine man (msq ?_)
 refine mcv (i64.wrap ((i64.wrap ((i64.wrap ((i64.wrap (C+1))+1))+1))+1)) j M.bB.en bf λdf f70=> ?_
 clear ai
 refine mrn ?_
 refine man (msq ?_)
 obtain⟨dg,bg,h⟩:=bind_some h
 obtain⟨dh,bh,h⟩:=bind_some h
 obtain⟨di,dj,dm⟩:=aO bh
 refine CT (Ga.1 _ _ bg) ?_
 obtain⟨bj,aj,h⟩:=bind_some h
 replace aj:=(qc aj).symm
 refine man (msq ?_)
 refine mcv (i64.wrap ((i64.wrap ((i64.wrap ((i64.wrap ((i64.wrap (C+1))+1))+1))+1))+1)) j M.bB.en bj λdn f85=> ?_
 clear aj
 refine mrn ?_
 refine man (msq ?_)
 obtain⟨dq,bl,h⟩:=bind_some h
 obtain⟨du,dw,dx⟩:=aO bl
 refine mrn ?_
 obtain⟨al,ak,h⟩:=bind_some h
 replace ak:=(qc ak).symm
 refine man ?_
 refine mcv (i64.wrap ((i64.wrap ((i64.wrap ((i64.wrap ((i64.wrap ((i64.wrap (C+1))+1))+1))+1))+1))+1)) j M.bB.en al λdy f98=> ?_
 clear ak
 refine mrn ?_
 refine mab (man (mrn ?_))
 exact mbe (i64.wrap ((i64.wrap ((i64.wrap ((i64.wrap ((i64.wrap ((i64.wrap ((i64.wrap (C+1))+1))+1))+1))+1))+1))+1)) (i64.wrap (j+1)) al h
