/-
  Helper text. No conditions.
-/
import Derived.Test.YtjlnkcoeghonfaaGreatRunPageTi
set_option linter.all false
namespace Go.Proofs.YtjlnkcoeghonfaaGreat.gen
open Go Go.Sh
open Go.IntKind (i64)
set_option maxRecDepth 20000
set_option maxHeartbeats 4000000
instance Js:aW 173 (∀p0 r (h:aN p0=some r),Sc 173 [aI p0] [rS r]):=⟨λp0 r h=>by
 have i1:=inv λm s=>∃v0:Int,∃v3:ByteArray,(s.t 0=vI v0/\s.t 3=vS v3)/\pS m v0 v3=some r
 have e1:=@pS.eq_2
 unfold aN at h
 exact sgo 20 [.tmp 2] Tryz.func173⟩
theorem HV(J:List Int)(U:Int)(r:(List Int×Int))(h:uM J U=some r):tE Tryz.prog 298 false ([.sl (List.map enB J)]) ([.sl (List.map enB r.1)]) U r.2:=by
 unfold uM at h
 refine iD (N:=20) (r:=4) Tryz.func298 rfl rfl rfl jH jG λcx=> ?_
 refine msq (mrn ?_)
 refine man (msq (msq (mrn ?_)))
 refine man (mbk ?_)
 refine mls enB h (λ_ _ _=>rfl) λmL1 s1 v1 C af f2 h=> ?_
 simp only[iB]at h
 refine msq (msq (mrn ?_))
 refine man ?_
 rcases GH (decide (C<(List.length af:Int)))with b7|b7
 ·replace h:=bJ b7 h;refine mcf (mxt (zE (zD (DH (man (msq (mrn ?_)))))));refine man (mrt ?_);cases h;exact mfi
 replace h:=bK b7 h
 refine mct (msk (man (msq (mbk (msq ?_)))))
 obtain⟨x8,h9,h⟩:=bind_some h
 obtain⟨ah,ai,aj⟩:=aU h9
 refine mrn ?_
 obtain⟨I,j,h⟩:=bind_some h
 replace j:=(qc j).symm
 refine man ?_
 refine mcv v1 C enB I λak f16=> ?_
 clear j
 refine mrn ?_
 refine mab (man (mrn ?_))
 exact mbe (i64.wrap (v1+1)) (i64.wrap (C+1)) I h
theorem Ke(p0:List M.aJx)(p1:Int)(r:(List M.aJx×Int))(h:AW p0 p1=some r):tE Tryz.prog 420 false ([.sl (List.map M.aJx.en p0)]) ([.sl (List.map M.aJx.en r.1)]) p1 r.2:=by
 unfold AW at h
 refine iD (N:=71) (r:=4) Tryz.func420 rfl rfl rfl jH jG λcx=> ?_
 refine msq (mrn ?_)
 refine man (msq (msq (mrn ?_)))
 refine man (mbk ?_)
 refine mls M.aJx.en h (λ_ _ _=>rfl) λmL1 s1 C j aq f2 h=> ?_
 simp only[mA]at h
 refine msq (msq (mrn ?_))
 refine man ?_
 rcases GH (decide (j<(List.length aq:Int)))with b7|b7
 ·replace h:=bJ b7 h;refine mcf (mxt (zE (zD (DH (man (msq (mrn ?_)))))));refine man (mrt ?_);cases h;exact mfi
 replace h:=bK b7 h
 refine mct (msk (man (msq (mbk (msq ?_)))))
 obtain⟨x8,h9,h⟩:=bind_some h
 obtain⟨bo,ar,h⟩:=bind_some h
 obtain⟨bq,br,bt⟩:=aU ar
 refine FK (Js.1 _ _ h9) ?_
 obtain⟨av,I,h⟩:=bind_some h
 replace I:=(qc I).symm
 refine man (msq ?_)
 refine mcv C j M.aJx.en av λbu f18=> ?_
 clear I
 refine mrn ?_
 refine man (msq ?_)
 obtain⟨bw,aw,h⟩:=bind_some h
 obtain⟨bz,ax,h⟩:=bind_some h
 obtain⟨c5,ca,cc⟩:=aU ax
 refine FK (Js.1 _ _ aw) ?_
 obtain⟨ay,J,h⟩:=bind_some h
 replace J:=(qc J).symm
 refine man (msq ?_)
 refine mcv (i64.wrap (C+1)) j M.aJx.en ay λcd f33=> ?_
 clear J
 refine mrn ?_
 refine man (msq ?_)
 obtain⟨cg,az,h⟩:=bind_some h
 obtain⟨cj,ck,cn⟩:=aU az
 refine mrn ?_
 obtain⟨ba,U,h⟩:=bind_some h
 replace U:=(qc U).symm
 refine man (msq ?_)
 refine mcv (i64.wrap ((i64.wrap (C+1))+1)) j M.aJx.en ba λcq f46=> ?_
 clear U
 refine mrn ?_
 refine man (msq ?_)
 obtain⟨cr,bd,h⟩:=bind_some h
 obtain⟨cw,cy,cz⟩:=aU bd
 refine mrn ?_
 obtain⟨bf,ah,h⟩:=bind_some h
 replace ah:=(qc ah).symm
 refine man (msq ?_)
 refine mcv (i64.wrap ((i64.wrap ((i64.wrap (C+1))+1))+1)) j M.aJx.en bf λda f59=> ?_
 clear ah
 refine mrn ?_
 refine man (msq ?_)
 obtain⟨db,bg,h⟩:=bind_some h
 obtain⟨df,dg,dh⟩:=aU bg
 refine mrn ?_
 obtain⟨bh,ai,h⟩:=bind_some h
 replace ai:=(qc ai).symm
 refine man (msq ?_)
 refine mcv (i64.wrap ((i64.wrap ((i64.wrap ((i64.wrap (C+1))+1))+1))+1)) j M.aJx.en bh λdi f72=> ?_
 clear ai
 refine mrn ?_
 refine man (msq ?_)
 obtain⟨dj,bj,h⟩:=bind_some h
 obtain⟨dm,dn,dq⟩:=aU bj
 obtain⟨aj,bl,h⟩:=bind_some h
 refine FK (HV _ _ _ bl) ?_
 obtain⟨bm,ak,h⟩:=bind_some h
 replace ak:=(qc ak).symm
 refine man (msq ?_)
 refine mcv aj.2 j M.aJx.en bm λdu f87=> ?_
 clear ak
 obtain⟨dw,bn,h⟩:=bind_some h
 obtain⟨dx,dy,dz⟩:=aU bn
 refine mrn ?_
 obtain⟨ao,al,h⟩:=bind_some h
 replace al:=(qc al).symm
 refine man ?_
 refine mcv aj.2 j M.aJx.en ao λec f100=> ?_
 clear al
 refine mrn ?_
 refine mab (man (mrn ?_))
 exact mbe (i64.wrap (aj.2+1)) (i64.wrap (j+1)) ao h
theorem Lw(p0:List M.aJ0)(p1:Int)(r:(List M.aJ0×Int))(h:Ci p0 p1=some r):tE Tryz.prog 295 false ([.sl (List.map M.aJ0.en p0)]) ([.sl (List.map M.aJ0.en r.1)]) p1 r.2:=by
 unfold Ci at h
 refine iD (N:=27) (r:=4) Tryz.func295 rfl rfl rfl jH jG λcx=> ?_
 refine msq (mrn ?_)
 refine man (msq (msq (mrn ?_)))
 refine man (mbk ?_)
 refine mls M.aJ0.en h (λ_ _ _=>rfl) λmL1 s1 v1 j ai f2 h=> ?_
 simp only[nE]at h
 refine msq (msq (mrn ?_))
 refine man ?_
 rcases GH (decide (j<(List.length ai:Int)))with b7|b7
 ·replace h:=bJ b7 h;refine mcf (mxt (zE (zD (DH (man (msq (mrn ?_)))))));refine man (mrt ?_);cases h;exact mfi
 replace h:=bK b7 h
 refine mct (msk (man (msq (mbk (msq ?_)))))
 obtain⟨x8,h9,h⟩:=bind_some h
 obtain⟨ao,aq,ar⟩:=aU h9
 refine mrn ?_
 obtain⟨aj,C,h⟩:=bind_some h
 replace C:=(qc C).symm
 refine man (msq ?_)
 refine mcv v1 j M.aJ0.en aj λav f16=> ?_
 clear C
 refine mrn ?_
 refine man ?_
 obtain⟨aw,ak,h⟩:=bind_some h
 obtain⟨ax,ay,az⟩:=aU ak
 obtain⟨J,al,h⟩:=bind_some h
 refine FK (Ke _ _ _ al) ?_
 obtain⟨U,I,h⟩:=bind_some h
 replace I:=(qc I).symm
 refine mab (man ?_)
 refine mcv J.2 j M.aJ0.en U λba f31=> ?_
 clear I
 refine mrn ?_
 exact mbe J.2 (i64.wrap (j+1)) U h
theorem Lu(p0:List M.Field)(p1:Int)(r:(List M.Field×Int))(h:Ce p0 p1=some r):tE Tryz.prog 299 false ([.sl (List.map M.Field.en p0)]) ([.sl (List.map M.Field.en r.1)]) p1 r.2:=by
 unfold Ce at h
 refine iD (N:=28) (r:=4) Tryz.func299 rfl rfl rfl jH jG λcx=> ?_
 refine msq (mrn ?_)
 refine man (msq (msq (mrn ?_)))
 refine man (mbk ?_)
 refine mls M.Field.en h (λ_ _ _=>rfl) λmL1 s1 J j ah f2 h=> ?_
 simp only[mW]at h
 refine msq (msq (mrn ?_))
 refine man ?_
 rcases GH (decide (j<(List.length ah:Int)))with b7|b7
 ·replace h:=bJ b7 h;refine mcf (mxt (zE (zD (DH (man (msq (mrn ?_)))))));refine man (mrt ?_);cases h;exact mfi
 replace h:=bK b7 h
 refine mct (msk (man (msq (mbk (msq ?_)))))
 obtain⟨x8,h9,h⟩:=bind_some h
 obtain⟨al,ai,h⟩:=bind_some h
 obtain⟨ao,aq,ar⟩:=aU ai
 refine FK (Js.1 _ _ h9) ?_
 obtain⟨aj,C,h⟩:=bind_some h
 replace C:=(qc C).symm
 refine man (msq ?_)
 refine mcv J j M.Field.en aj λav f18=> ?_
 clear C
 refine mrn ?_
 refine man (msq ?_)
 obtain⟨aw,ak,h⟩:=bind_some h
 obtain⟨ax,ay,az⟩:=aU ak
 refine mrn ?_
 obtain⟨U,I,h⟩:=bind_some h
 replace I:=(qc I).symm
 refine man ?_
 refine mcv (i64.wrap (J+1)) j M.Field.en U λba f31=> ?_
 clear I
 refine mrn ?_
 refine mab (man (mrn ?_))
 exact mbe (i64.wrap ((i64.wrap (J+1))+1)) (i64.wrap (j+1)) U h
theorem E6(p0:List M.aJt)(p1:Int)(r:(List M.aJt×Int))(h:tX p0 p1=some r):tE Tryz.prog 180 false ([.sl (List.map M.aJt.en p0)]) ([.sl (List.map M.aJt.en r.1)]) p1 r.2:=by
 unfold tX at h
 refine iD (N:=46) (r:=4) Tryz.func180 rfl rfl rfl jH jG λcx=> ?_
 refine msq (mrn ?_)
 refine man (msq (msq (mrn ?_)))
 refine man (mbk ?_)
 refine mls M.aJt.en h (λ_ _ _=>rfl) λmL1 s1 v1 j ak f2 h=> ?_
 simp only[oK]at h
 refine msq (msq (mrn ?_))
 refine man ?_
 rcases GH (decide (j<(List.length ak:Int)))with b7|b7
 ·replace h:=bJ b7 h;refine mcf (mxt (zE (zD (DH (man (msq (mrn ?_)))))));refine man (mrt ?_);cases h;exact mfi
 replace h:=bK b7 h
 refine mct (msk (man (msq (mbk (msq ?_)))))
 obtain⟨x8,h9,h⟩:=bind_some h
 obtain⟨az,ba,bd⟩:=aU h9
 refine mrn ?_
 obtain⟨al,C,h⟩:=bind_some h
 replace C:=(qc C).symm
 refine man (msq ?_)
 refine mcv v1 j M.aJt.en al λbf f16=> ?_
 clear C
 refine mrn ?_
 refine man (msq ?_)
 obtain⟨bg,ao,h⟩:=bind_some h
 obtain⟨bh,bj,bl⟩:=aU ao
 refine mrn ?_
 obtain⟨aq,I,h⟩:=bind_some h
 replace I:=(qc I).symm
 refine man (msq ?_)
 refine mcv (i64.wrap (v1+1)) j M.aJt.en aq λbm f29=> ?_
 clear I
 refine mrn ?_
 refine man (msq ?_)
 obtain⟨bn,ar,h⟩:=bind_some h
 obtain⟨bo,av,h⟩:=bind_some h
 obtain⟨bq,br,bt⟩:=aU av
 refine FK (Js.1 _ _ ar) ?_
 obtain⟨aw,J,h⟩:=bind_some h
 replace J:=(qc J).symm
 refine man (msq ?_)
 refine mcv (i64.wrap ((i64.wrap (v1+1))+1)) j M.aJt.en aw λbu f44=> ?_
 clear J
 refine mrn ?_
 refine man ?_
 obtain⟨bw,ax,h⟩:=bind_some h
 obtain⟨bz,c5,ca⟩:=aU ax
 obtain⟨ai,ay,h⟩:=bind_some h
 refine FK (Lu _ _ _ ay) ?_
 obtain⟨aj,U,h⟩:=bind_some h
 replace U:=(qc U).symm
 refine mab (man ?_)
 refine mcv ai.2 j M.aJt.en aj λcc f59=> ?_
 clear U
 refine mrn ?_
 exact mbe ai.2 (i64.wrap (j+1)) aj h
theorem LZ(p0:List M.aD)(p1:Int)(r:(List M.aD×Int))(h:BV p0 p1=some r):tE Tryz.prog 296 false ([.sl (List.map M.aD.en p0)]) ([.sl (List.map M.aD.en r.1)]) p1 r.2:=by
 unfold BV at h
 refine iD (N:=35) (r:=4) Tryz.func296 rfl rfl rfl jH jG λcx=> ?_
 refine msq (mrn ?_)
 refine man (msq (msq (mrn ?_)))
 refine man (mbk ?_)
 refine mls M.aD.en h (λ_ _ _=>rfl) λmL1 s1 v1 j aj f2 h=> ?_
 simp only[nB]at h
 refine msq (msq (mrn ?_))
 refine man ?_
 rcases GH (decide (j<(List.length aj:Int)))with b7|b7
 ·replace h:=bJ b7 h;refine mcf (mxt (zE (zD (DH (man (msq (mrn ?_)))))));refine man (mrt ?_);cases h;exact mfi
 replace h:=bK b7 h
 refine mct (msk (man (msq (mbk (msq ?_)))))
 obtain⟨x8,h9,h⟩:=bind_some h
 obtain⟨aw,ak,h⟩:=bind_some h
 obtain⟨ax,ay,az⟩:=aU ak
 refine FK (Js.1 _ _ h9) ?_
 obtain⟨al,C,h⟩:=bind_some h
 replace C:=(qc C).symm
 refine man (msq ?_)
 refine mcv v1 j M.aD.en al λba f18=> ?_
 clear C
 refine mrn ?_
 refine man (msq ?_)
 obtain⟨bd,ao,h⟩:=bind_some h
 obtain⟨bf,bg,bh⟩:=aU ao
 obtain⟨I,aq,h⟩:=bind_some h
 refine FK (E6 _ _ _ aq) ?_
 obtain⟨ar,J,h⟩:=bind_some h
 replace J:=(qc J).symm
 refine man (msq ?_)
 refine mcv I.2 j M.aD.en ar λbj f33=> ?_
 clear J
 obtain⟨bl,av,h⟩:=bind_some h
 obtain⟨bm,bn,bo⟩:=aU av
 refine mrn ?_
 obtain⟨ai,U,h⟩:=bind_some h
 replace U:=(qc U).symm
 refine man ?_
 refine mcv I.2 j M.aD.en ai λbq f46=> ?_
 clear U
 refine mrn ?_
 refine mab (man (mrn ?_))
 exact mbe (i64.wrap (I.2+1)) (i64.wrap (j+1)) ai h
theorem Jj(p0:List M.aG)(p1:Int)(r:(List M.aG×Int))(h:wL p0 p1=some r):tE Tryz.prog 297 false ([.sl (List.map M.aG.en p0)]) ([.sl (List.map M.aG.en r.1)]) p1 r.2:=by
 unfold wL at h
 refine iD (N:=29) (r:=4) Tryz.func297 rfl rfl rfl jH jG λcx=> ?_
 refine msq (mrn ?_)
 refine man (msq (msq (mrn ?_)))
 refine man (mbk ?_)
 refine mls M.aG.en h (λ_ _ _=>rfl) λmL1 s1 J j ah f2 h=> ?_
 simp only[iN]at h
 refine msq (msq (mrn ?_))
 refine man ?_
 rcases GH (decide (j<(List.length ah:Int)))with b7|b7
 ·replace h:=bJ b7 h;refine mcf (mxt (zE (zD (DH (man (msq (mrn ?_)))))));refine man (mrt ?_);cases h;exact mfi
 replace h:=bK b7 h
 refine mct (msk (man (msq (mbk (msq ?_)))))
 obtain⟨x8,h9,h⟩:=bind_some h
 obtain⟨ao,ai,h⟩:=bind_some h
 obtain⟨aq,ar,av⟩:=aU ai
 refine FK (Js.1 _ _ h9) ?_
 obtain⟨aj,C,h⟩:=bind_some h
 replace C:=(qc C).symm
 refine man (msq ?_)
 refine mcv J j M.aG.en aj λaw f18=> ?_
 clear C
 refine mrn ?_
 refine man (msq ?_)
 obtain⟨ax,ak,h⟩:=bind_some h
 obtain⟨ay,al,h⟩:=bind_some h
 obtain⟨az,ba,bd⟩:=aU al
 refine FK (Js.1 _ _ ak) ?_
 obtain⟨U,I,h⟩:=bind_some h
 replace I:=(qc I).symm
 refine man ?_
 refine mcv (i64.wrap (J+1)) j M.aG.en U λbf f33=> ?_
 clear I
 refine mrn ?_
 refine mab (man (mrn ?_))
 exact mbe (i64.wrap ((i64.wrap (J+1))+1)) (i64.wrap (j+1)) U h
theorem GZ(p0:List M.aY)(p1:Int)(r:(List M.aY×Int))(h:xF p0 p1=some r):tE Tryz.prog 182 false ([.sl (List.map M.aY.en p0)]) ([.sl (List.map M.aY.en r.1)]) p1 r.2:=by
 unfold xF at h
 refine iD (N:=67) (r:=4) Tryz.func182 rfl rfl rfl jH jG λcx=> ?_
 refine msq (mrn ?_)
 refine man (msq (msq (mrn ?_)))
 refine man (mbk ?_)
 refine mls M.aY.en h (λ_ _ _=>rfl) λmL1 s1 C j ao f2 h=> ?_
 simp only[mZ]at h
 refine msq (msq (mrn ?_))
 refine man ?_
 rcases GH (decide (j<(List.length ao:Int)))with b7|b7
 ·replace h:=bJ b7 h;refine mcf (mxt (zE (zD (DH (man (msq (mrn ?_)))))));refine man (mrt ?_);cases h;exact mfi
 replace h:=bK b7 h
 refine mct (msk (man (msq (mbk (msq ?_)))))
 obtain⟨x8,h9,h⟩:=bind_some h
 obtain⟨bm,bn,bo⟩:=aU h9
 refine mrn ?_
 obtain⟨aq,I,h⟩:=bind_some h
 replace I:=(qc I).symm
 refine man (msq ?_)
 refine mcv C j M.aY.en aq λbq f16=> ?_
 clear I
 refine mrn ?_
 refine man (msq ?_)
 obtain⟨br,ar,h⟩:=bind_some h
 obtain⟨bt,bu,bw⟩:=aU ar
 refine mrn ?_
 obtain⟨av,J,h⟩:=bind_some h
 replace J:=(qc J).symm
 refine man (msq ?_)
 refine mcv (i64.wrap (C+1)) j M.aY.en av λbz f29=> ?_
 clear J
 refine mrn ?_
 refine man (msq ?_)
 obtain⟨c5,aw,h⟩:=bind_some h
 obtain⟨ca,cc,cd⟩:=aU aw
 refine mrn ?_
 obtain⟨ax,U,h⟩:=bind_some h
 replace U:=(qc U).symm
 refine man (msq ?_)
 refine mcv (i64.wrap ((i64.wrap (C+1))+1)) j M.aY.en ax λcg f42=> ?_
 clear U
 refine mrn ?_
 refine man (msq ?_)
 obtain⟨cj,ay,h⟩:=bind_some h
 obtain⟨ck,cn,cq⟩:=aU ay
 refine mrn ?_
 obtain⟨az,ah,h⟩:=bind_some h
 replace ah:=(qc ah).symm
 refine man (msq ?_)
 refine mcv (i64.wrap ((i64.wrap ((i64.wrap (C+1))+1))+1)) j M.aY.en az λcr f55=> ?_
 clear ah
 refine mrn ?_
 refine man (msq ?_)
 obtain⟨cw,ba,h⟩:=bind_some h
 obtain⟨cy,bd,h⟩:=bind_some h
 obtain⟨cz,da,db⟩:=aU bd
 refine FK (Js.1 _ _ ba) ?_
 obtain⟨bf,ai,h⟩:=bind_some h
 replace ai:=(qc ai).symm
 refine man (msq ?_)
 refine mcv (i64.wrap ((i64.wrap ((i64.wrap ((i64.wrap (C+1))+1))+1))+1)) j M.aY.en bf λdf f70=> ?_
 clear ai
 refine mrn ?_
 refine man (msq ?_)
 obtain⟨dg,bg,h⟩:=bind_some h
 obtain⟨dh,bh,h⟩:=bind_some h
 obtain⟨di,dj,dm⟩:=aU bh
 refine FK (Js.1 _ _ bg) ?_
 obtain⟨bj,aj,h⟩:=bind_some h
 replace aj:=(qc aj).symm
 refine man (msq ?_)
 refine mcv (i64.wrap ((i64.wrap ((i64.wrap ((i64.wrap ((i64.wrap (C+1))+1))+1))+1))+1)) j M.aY.en bj λdn f85=> ?_
 clear aj
 refine mrn ?_
 refine man (msq ?_)
 obtain⟨dq,bl,h⟩:=bind_some h
 obtain⟨du,dw,dx⟩:=aU bl
 refine mrn ?_
 obtain⟨al,ak,h⟩:=bind_some h
 replace ak:=(qc ak).symm
 refine man ?_
 refine mcv (i64.wrap ((i64.wrap ((i64.wrap ((i64.wrap ((i64.wrap ((i64.wrap (C+1))+1))+1))+1))+1))+1)) j M.aY.en al λdy f98=> ?_
 clear ak
 refine mrn ?_
 refine mab (man (mrn ?_))
 exact mbe (i64.wrap ((i64.wrap ((i64.wrap ((i64.wrap ((i64.wrap ((i64.wrap ((i64.wrap (C+1))+1))+1))+1))+1))+1))+1)) (i64.wrap (j+1)) al h
