/-
  Helper text. No conditions.
-/
import Derived.Test.YtbpbocchokbggaaGreatWriteNoteWmark1
set_option linter.all false
namespace Go.Proofs.YtbpbocchokbggaaGreat.gen
open Go Go.Sh
open Go.IntKind (i64)
set_option maxRecDepth 20000
set_option maxHeartbeats 4000000
theorem Jo(p0:List M.eV)(p1:Int)(r:(List M.eV×Int))(h:AW p0 p1=some r):nM Tryz.prog 220 false ([.sl (List.map M.eV.en p0)]) ([.sl (List.map M.eV.en r.1)]) p1 r.2:=by
 unfold AW at h
 refine eZ (N:=46) (r:=4) Tryz.func220 rfl rfl rfl jH jG λcx=> ?_
 refine msq (mrn ?_)
 refine man (msq (msq (mrn ?_)))
 refine man (mbk ?_)
 refine mls M.eV.en h (λ_ _ _=>rfl) λmL1 s1 C j aj f2 h=> ?_
 simp only[lK]at h
 refine msq (msq (mrn ?_))
 refine man ?_
 rcases Ep (decide (j<(List.length aj:Int)))with b7|b7
 ·replace h:=bQ b7 h;refine mcf (mxt (uU (uT (BA (man (msq (mrn ?_)))))));refine man (mrt ?_);cases h;exact mfi
 replace h:=bR b7 h
 refine mct (msk (man (msq (mbk (msq ?_)))))
 obtain⟨x8,h9,h⟩:=bind_some h
 obtain⟨ax,ak,h⟩:=bind_some h
 obtain⟨ay,az,ba⟩:=aO ak
 refine CT (Ga.1 _ _ h9) ?_
 obtain⟨al,I,h⟩:=bind_some h
 replace I:=(qc I).symm
 refine man (msq ?_)
 refine mcv C j M.eV.en al λbd f18=> ?_
 clear I
 refine mrn ?_
 refine man (msq ?_)
 obtain⟨bf,ao,h⟩:=bind_some h
 obtain⟨bg,bh,bj⟩:=aO ao
 refine mrn ?_
 obtain⟨aq,J,h⟩:=bind_some h
 replace J:=(qc J).symm
 refine man (msq ?_)
 refine mcv (i64.wrap (C+1)) j M.eV.en aq λbl f31=> ?_
 clear J
 refine mrn ?_
 refine man (msq ?_)
 obtain⟨bm,ar,h⟩:=bind_some h
 obtain⟨bn,bo,bq⟩:=aO ar
 refine mrn ?_
 obtain⟨av,U,h⟩:=bind_some h
 replace U:=(qc U).symm
 refine man (msq ?_)
 refine mcv (i64.wrap ((i64.wrap (C+1))+1)) j M.eV.en av λbr f44=> ?_
 clear U
 refine mrn ?_
 refine man (msq ?_)
 obtain⟨bt,aw,h⟩:=bind_some h
 obtain⟨bu,bw,bz⟩:=aO aw
 refine mrn ?_
 obtain⟨ai,ah,h⟩:=bind_some h
 replace ah:=(qc ah).symm
 refine man ?_
 refine mcv (i64.wrap ((i64.wrap ((i64.wrap (C+1))+1))+1)) j M.eV.en ai λc5 f57=> ?_
 clear ah
 refine mrn ?_
 refine mab (man (mrn ?_))
 exact mbe (i64.wrap ((i64.wrap ((i64.wrap ((i64.wrap (C+1))+1))+1))+1)) (i64.wrap (j+1)) ai h
theorem F7(j:M.aR)(C:Int)(r:(List M.eV×Int))(h:sC j C=some r):nM Tryz.prog 77 true (M.aR.en j) ([.sl (List.map M.eV.en r.1)]) C r.2:=by
 unfold sC at h
 simp only[M.aR.en]
 refine eZ (N:=10) (r:=4) Tryz.func77 rfl rfl rfl jH jG λI=> ?_
 refine msq (mrn ?_)
 refine man (msq ?_)
 obtain⟨x1,h2,h⟩:=bind_some h
 refine CT (Jo _ _ _ h2) ?_
 refine man (msq (mrn ?_))
 refine man (mrt ?_)
 cases h
 exact mfi
theorem Jv(p0:List M.gT)(p1:Int)(r:(List M.gT×Int))(h:AX p0 p1=some r):nM Tryz.prog 221 false ([.sl (List.map M.gT.en p0)]) ([.sl (List.map M.gT.en r.1)]) p1 r.2:=by
 unfold AX at h
 refine eZ (N:=34) (r:=4) Tryz.func221 rfl rfl rfl jH jG λcx=> ?_
 refine msq (mrn ?_)
 refine man (msq (msq (mrn ?_)))
 refine man (mbk ?_)
 refine mls M.gT.en h (λ_ _ _=>rfl) λmL1 s1 C j ai f2 h=> ?_
 simp only[lG]at h
 refine msq (msq (mrn ?_))
 refine man ?_
 rcases Ep (decide (j<(List.length ai:Int)))with b7|b7
 ·replace h:=bQ b7 h;refine mcf (mxt (uU (uT (BA (man (msq (mrn ?_)))))));refine man (mrt ?_);cases h;exact mfi
 replace h:=bR b7 h
 refine mct (msk (man (msq (mbk (msq ?_)))))
 obtain⟨x8,h9,h⟩:=bind_some h
 obtain⟨aq,ar,av⟩:=aO h9
 refine mrn ?_
 obtain⟨aj,I,h⟩:=bind_some h
 replace I:=(qc I).symm
 refine man (msq ?_)
 refine mcv C j M.gT.en aj λaw f16=> ?_
 clear I
 refine mrn ?_
 refine man (msq ?_)
 obtain⟨ax,ak,h⟩:=bind_some h
 obtain⟨ay,az,ba⟩:=aO ak
 refine mrn ?_
 obtain⟨al,J,h⟩:=bind_some h
 replace J:=(qc J).symm
 refine man (msq ?_)
 refine mcv (i64.wrap (C+1)) j M.gT.en al λbd f29=> ?_
 clear J
 refine mrn ?_
 refine man (msq ?_)
 obtain⟨bf,ao,h⟩:=bind_some h
 obtain⟨bg,bh,bj⟩:=aO ao
 refine mrn ?_
 obtain⟨ah,U,h⟩:=bind_some h
 replace U:=(qc U).symm
 refine man ?_
 refine mcv (i64.wrap ((i64.wrap (C+1))+1)) j M.gT.en ah λbl f42=> ?_
 clear U
 refine mrn ?_
 refine mab (man (mrn ?_))
 exact mbe (i64.wrap ((i64.wrap ((i64.wrap (C+1))+1))+1)) (i64.wrap (j+1)) ah h
theorem HH(j:M.aEY)(C:Int)(r:(List M.gT×Int))(h:xP j C=some r):nM Tryz.prog 78 true (M.aEY.en j) ([.sl (List.map M.gT.en r.1)]) C r.2:=by
 unfold xP at h
 simp only[M.aEY.en]
 refine eZ (N:=10) (r:=4) Tryz.func78 rfl rfl rfl jH jG λI=> ?_
 refine msq (mrn ?_)
 refine man (msq ?_)
 obtain⟨x1,h2,h⟩:=bind_some h
 refine CT (Jv _ _ _ h2) ?_
 refine man (msq (mrn ?_))
 refine man (mrt ?_)
 cases h
 exact mfi
theorem G6(J:List ByteArray)(U:Int)(r:(List ByteArray×Int))(h:pU J U=some r):nM Tryz.prog 222 false ([.sl (List.map enS J)]) ([.sl (List.map enS r.1)]) U r.2:=by
 unfold pU at h
 refine eZ (N:=20) (r:=4) Tryz.func222 rfl rfl rfl jH jG λcx=> ?_
 refine msq (mrn ?_)
 refine man (msq (msq (mrn ?_)))
 refine man (mbk ?_)
 refine mls enS h (λ_ _ _=>rfl) λmL1 s1 v1 C af f2 h=> ?_
 simp only[eN]at h
 refine msq (msq (mrn ?_))
 refine man ?_
 rcases Ep (decide (C<(List.length af:Int)))with b7|b7
 ·replace h:=bQ b7 h;refine mcf (mxt (uU (uT (BA (man (msq (mrn ?_)))))));refine man (mrt ?_);cases h;exact mfi
 replace h:=bR b7 h
 refine mct (msk (man (msq (mbk (msq ?_)))))
 obtain⟨x8,h9,h⟩:=bind_some h
 obtain⟨ai,ah,h⟩:=bind_some h
 obtain⟨aj,ak,al⟩:=aO ah
 refine CT (Ga.1 _ _ h9) ?_
 obtain⟨I,j,h⟩:=bind_some h
 replace j:=(qc j).symm
 refine man ?_
 refine mcv v1 C enS I λao f18=> ?_
 clear j
 refine mrn ?_
 refine mab (man (mrn ?_))
 exact mbe (i64.wrap (v1+1)) (i64.wrap (C+1)) I h
theorem Ji(p0:List M.aET)(p1:Int)(r:(List M.aET×Int))(h:AQ p0 p1=some r):nM Tryz.prog 79 false ([.sl (List.map M.aET.en p0)]) ([.sl (List.map M.aET.en r.1)]) p1 r.2:=by
 unfold AQ at h
 refine eZ (N:=44) (r:=4) Tryz.func79 rfl rfl rfl jH jG λcx=> ?_
 refine msq (mrn ?_)
 refine man (msq (msq (mrn ?_)))
 refine man (mbk ?_)
 refine mls M.aET.en h (λ_ _ _=>rfl) λmL1 s1 v1 j ak f2 h=> ?_
 simp only[lS]at h
 refine msq (msq (mrn ?_))
 refine man ?_
 rcases Ep (decide (j<(List.length ak:Int)))with b7|b7
 ·replace h:=bQ b7 h;refine mcf (mxt (uU (uT (BA (man (msq (mrn ?_)))))));refine man (mrt ?_);cases h;exact mfi
 replace h:=bR b7 h
 refine mct (msk (man (msq (mbk (msq ?_)))))
 obtain⟨x8,h9,h⟩:=bind_some h
 obtain⟨az,al,h⟩:=bind_some h
 obtain⟨ba,bd,bf⟩:=aO al
 refine CT (Ga.1 _ _ h9) ?_
 obtain⟨ao,C,h⟩:=bind_some h
 replace C:=(qc C).symm
 refine man (msq ?_)
 refine mcv v1 j M.aET.en ao λbg f18=> ?_
 clear C
 refine mrn ?_
 refine man (msq ?_)
 obtain⟨bh,aq,h⟩:=bind_some h
 obtain⟨bj,bl,bm⟩:=aO aq
 refine mrn ?_
 obtain⟨ar,I,h⟩:=bind_some h
 replace I:=(qc I).symm
 refine man (msq ?_)
 refine mcv (i64.wrap (v1+1)) j M.aET.en ar λbn f31=> ?_
 clear I
 refine mrn ?_
 refine man (msq ?_)
 obtain⟨bo,av,h⟩:=bind_some h
 obtain⟨bq,br,bt⟩:=aO av
 obtain⟨J,aw,h⟩:=bind_some h
 refine CT (G6 _ _ _ aw) ?_
 obtain⟨ax,U,h⟩:=bind_some h
 replace U:=(qc U).symm
 refine man (msq ?_)
 refine mcv J.2 j M.aET.en ax λbu f46=> ?_
 clear U
 obtain⟨bw,ay,h⟩:=bind_some h
 obtain⟨bz,c5,ca⟩:=aO ay
 refine mrn ?_
 obtain⟨aj,ai,h⟩:=bind_some h
 replace ai:=(qc ai).symm
 refine man ?_
 refine mcv J.2 j M.aET.en aj λcc f59=> ?_
 clear ai
 refine mrn ?_
 refine mab (man (mrn ?_))
 exact mbe (i64.wrap (J.2+1)) (i64.wrap (j+1)) aj h
theorem Gr(p0:List M.aQ)(p1:Int)(r:(List M.aQ×Int))(h:uS p0 p1=some r):nM Tryz.prog 224 false ([.sl (List.map M.aQ.en p0)]) ([.sl (List.map M.aQ.en r.1)]) p1 r.2:=by
 unfold uS at h
 refine eZ (N:=27) (r:=4) Tryz.func224 rfl rfl rfl jH jG λcx=> ?_
 refine msq (mrn ?_)
 refine man (msq (msq (mrn ?_)))
 refine man (mbk ?_)
 refine mls M.aQ.en h (λ_ _ _=>rfl) λmL1 s1 J j ah f2 h=> ?_
 simp only[hY]at h
 refine msq (msq (mrn ?_))
 refine man ?_
 rcases Ep (decide (j<(List.length ah:Int)))with b7|b7
 ·replace h:=bQ b7 h;refine mcf (mxt (uU (uT (BA (man (msq (mrn ?_)))))));refine man (mrt ?_);cases h;exact mfi
 replace h:=bR b7 h
 refine mct (msk (man (msq (mbk (msq ?_)))))
 obtain⟨x8,h9,h⟩:=bind_some h
 obtain⟨ak,al,ao⟩:=aO h9
 refine mrn ?_
 obtain⟨ai,C,h⟩:=bind_some h
 replace C:=(qc C).symm
 refine man (msq ?_)
 refine mcv J j M.aQ.en ai λaq f16=> ?_
 clear C
 refine mrn ?_
 refine man (msq ?_)
 obtain⟨ar,aj,h⟩:=bind_some h
 obtain⟨av,aw,ax⟩:=aO aj
 refine mrn ?_
 obtain⟨U,I,h⟩:=bind_some h
 replace I:=(qc I).symm
 refine man ?_
 refine mcv (i64.wrap (J+1)) j M.aQ.en U λay f29=> ?_
 clear I
 refine mrn ?_
 refine mab (man (mrn ?_))
 exact mbe (i64.wrap ((i64.wrap (J+1))+1)) (i64.wrap (j+1)) U h
theorem HD(p0:List M.aEX)(p1:Int)(r:(List M.aEX×Int))(h:xQ p0 p1=some r):nM Tryz.prog 80 false ([.sl (List.map M.aEX.en p0)]) ([.sl (List.map M.aEX.en r.1)]) p1 r.2:=by
 unfold xQ at h
 refine eZ (N:=52) (r:=4) Tryz.func80 rfl rfl rfl jH jG λcx=> ?_
 refine msq (mrn ?_)
 refine man (msq (msq (mrn ?_)))
 refine man (mbk ?_)
 refine mls M.aEX.en h (λ_ _ _=>rfl) λmL1 s1 v1 j ao f2 h=> ?_
 simp only[iZ]at h
 refine msq (msq (mrn ?_))
 refine man ?_
 rcases Ep (decide (j<(List.length ao:Int)))with b7|b7
 ·replace h:=bQ b7 h;refine mcf (mxt (uU (uT (BA (man (msq (mrn ?_)))))));refine man (mrt ?_);cases h;exact mfi
 replace h:=bR b7 h
 refine mct (msk (man (msq (mbk (msq ?_)))))
 obtain⟨x8,h9,h⟩:=bind_some h
 obtain⟨bl,aq,h⟩:=bind_some h
 obtain⟨bm,bn,bo⟩:=aO aq
 refine CT (Ga.1 _ _ h9) ?_
 obtain⟨ar,C,h⟩:=bind_some h
 replace C:=(qc C).symm
 refine man (msq ?_)
 refine mcv v1 j M.aEX.en ar λbq f18=> ?_
 clear C
 refine mrn ?_
 refine man (msq ?_)
 obtain⟨br,av,h⟩:=bind_some h
 obtain⟨bt,bu,bw⟩:=aO av
 obtain⟨aj,aw,h⟩:=bind_some h
 refine CT (CW _ _ _ aw) ?_
 obtain⟨ax,I,h⟩:=bind_some h
 replace I:=(qc I).symm
 refine man (msq ?_)
 refine mcv aj.2 j M.aEX.en ax λbz f33=> ?_
 clear I
 obtain⟨c5,ay,h⟩:=bind_some h
 obtain⟨ca,cc,cd⟩:=aO ay
 refine mrn ?_
 obtain⟨az,J,h⟩:=bind_some h
 replace J:=(qc J).symm
 refine man (msq ?_)
 refine mcv aj.2 j M.aEX.en az λcg f46=> ?_
 clear J
 refine mrn ?_
 refine man (msq ?_)
 obtain⟨cj,ba,h⟩:=bind_some h
 obtain⟨ck,cn,cq⟩:=aO ba
 obtain⟨bd,bf,h⟩:=bind_some h
 refine CT (Gr _ _ _ bf) ?_
 obtain⟨bg,U,h⟩:=bind_some h
 replace U:=(qc U).symm
 refine man ?_
 refine mcv bd.2 j M.aEX.en bg λcr f61=> ?_
 clear U
 obtain⟨cw,bh,h⟩:=bind_some h
 obtain⟨cy,cz,da⟩:=aO bh
 obtain⟨ak,bj,h⟩:=bind_some h
 refine CT (D6 _ _ _ bj) ?_
 obtain⟨al,ai,h⟩:=bind_some h
 replace ai:=(qc ai).symm
 refine mab (man ?_)
 refine mcv ak.2 j M.aEX.en al λdb f76=> ?_
 clear ai
 refine mrn ?_
 exact mbe ak.2 (i64.wrap (j+1)) al h
theorem EO(j:M.World)(U:Int)(r:(List M.aEJ×List M.bS×List M.eV×List M.gT×List M.aET×List M.aEX×Int))(h:pI j U=some r):nM Tryz.prog 14 true (M.World.en j) ([.int .i64 j.Now,.bool j.aEs,.int .i64 j.aEd,.sl (List.map M.aEJ.en r.1),.sl (List.map M.bS.en r.2.1),.int .i64 j.aEl,.sl (List.map M.eV.en r.2.2.1),.sl (List.map M.gT.en r.2.2.2.1),.sl (List.map M.aET.en r.2.2.2.2.1),.sl (List.map M.aEX.en r.2.2.2.2.2.1)]) U r.2.2.2.2.2.2:=by
 unfold pI at h
 simp only[M.World.en]
 refine eZ (N:=30) (r:=4) Tryz.func14 rfl rfl rfl jH jG λcx=> ?_
 refine msq (mrn ?_)
 refine man (msq ?_)
 obtain⟨x1,h2,h⟩:=bind_some h
 refine CT (HJ _ _ _ h2) ?_
 refine man (msq ?_)
 refine mcu (λs=>s.t 1=.v false [.dat (.int .i64 x1.2)]/\s.t 2=.unk/\s.m 2=some (.bx 0)/\s.ds=[.int .i64 j.Now,.bool j.aEs,.int .i64 j.aEd,.sl (List.map M.aEJ.en x1.1),.sl (List.map M.bS.en j.aEq),.int .i64 j.aEl,.sl (List.map M.eV.en j.aEh.aEh),.sl (List.map M.gT.en j.aEY.aEv),.sl (List.map M.aET.en j.aEr),.sl (List.map M.aEX.en j.aEi)]/\True) ?_
 rintro s3 f4
 obtain⟨x8,h9,h⟩:=bind_some h
 refine CT (Jl _ _ _ h9) ?_
 refine man (msq ?_)
 refine mcu (λs=>s.t 1=.v false [.dat (.int .i64 x8.2)]/\s.t 2=.unk/\s.m 2=some (.bx 0)/\s.ds=[.int .i64 j.Now,.bool j.aEs,.int .i64 j.aEd,.sl (List.map M.aEJ.en x1.1),.sl (List.map M.bS.en x8.1),.int .i64 j.aEl,.sl (List.map M.eV.en j.aEh.aEh),.sl (List.map M.gT.en j.aEY.aEv),.sl (List.map M.aET.en j.aEr),.sl (List.map M.aEX.en j.aEi)]/\True) ?_
 rintro al f11
 obtain⟨C,ah,h⟩:=bind_some h
 refine CT (F7 _ _ _ ah) ?_
 refine man (msq ?_)
 refine mcu (λs=>s.t 1=.v false [.dat (.int .i64 C.2)]/\s.t 2=.unk/\s.m 2=some (.bx 0)/\s.ds=[.int .i64 j.Now,.bool j.aEs,.int .i64 j.aEd,.sl (List.map M.aEJ.en x1.1),.sl (List.map M.bS.en x8.1),.int .i64 j.aEl,.sl (List.map M.eV.en C.1),.sl (List.map M.gT.en j.aEY.aEv),.sl (List.map M.aET.en j.aEr),.sl (List.map M.aEX.en j.aEi)]/\True) ?_
 rintro ao f18
 obtain⟨I,ai,h⟩:=bind_some h
 refine CT (HH _ _ _ ai) ?_
 refine man (msq ?_)
 refine mcu (λs=>s.t 1=.v false [.dat (.int .i64 I.2)]/\s.t 2=.unk/\s.m 2=some (.bx 0)/\s.ds=[.int .i64 j.Now,.bool j.aEs,.int .i64 j.aEd,.sl (List.map M.aEJ.en x1.1),.sl (List.map M.bS.en x8.1),.int .i64 j.aEl,.sl (List.map M.eV.en C.1),.sl (List.map M.gT.en I.1),.sl (List.map M.aET.en j.aEr),.sl (List.map M.aEX.en j.aEi)]/\True) ?_
 rintro aq f25
 obtain⟨J,aj,h⟩:=bind_some h
 refine CT (Ji _ _ _ aj) ?_
 refine man (msq ?_)
 refine mcu (λs=>s.t 1=.v false [.dat (.int .i64 J.2)]/\s.t 2=.unk/\s.m 2=some (.bx 0)/\s.ds=[.int .i64 j.Now,.bool j.aEs,.int .i64 j.aEd,.sl (List.map M.aEJ.en x1.1),.sl (List.map M.bS.en x8.1),.int .i64 j.aEl,.sl (List.map M.eV.en C.1),.sl (List.map M.gT.en I.1),.sl (List.map M.aET.en J.1),.sl (List.map M.aEX.en j.aEi)]/\True) ?_
 rintro ar f32
 obtain⟨av,ak,h⟩:=bind_some h
 refine CT (HD _ _ _ ak) ?_
 refine man (msq (mrn ?_))
 refine man (mrt ?_)
 cases h
 exact mfi
theorem Hk(j:M.aEO)(C:Int)(r:(List M.Instr×List Int×Int))(h:xM j C=some r):nM Tryz.prog 82 true (M.aEO.en j) ([.sl (List.map M.Instr.en r.1),.int .i64 j.Pc,.sl (List.map enI r.2.1),.int .i64 j.aE2,.bool j.aFG,.bool j.aFH]) C r.2.2:=by
 unfold xM at h
 simp only[M.aEO.en]
 refine eZ (N:=14) (r:=4) Tryz.func82 rfl rfl rfl jH jG λI=> ?_
 refine msq (mrn ?_)
 refine man (msq ?_)
 obtain⟨x1,h2,h⟩:=bind_some h
 refine CT (D7 _ _ _ h2) ?_
 refine man (msq ?_)
 refine mcu (λs=>s.t 1=.v false [.dat (.int .i64 x1.2)]/\s.t 2=.unk/\s.m 2=some (.bx 0)/\s.ds=[.sl (List.map M.Instr.en x1.1),.int .i64 j.Pc,.sl (List.map enI j.aE3),.int .i64 j.aE2,.bool j.aFG,.bool j.aFH]/\True) ?_
 rintro s3 f4
 obtain⟨x8,h9,h⟩:=bind_some h
 refine CT (Ff _ _ _ h9) ?_
 refine man (msq (mrn ?_))
 refine man (mrt ?_)
 cases h
 exact mfi
theorem J3(j:M.bS)(C:Int)(r:(List M.aK×List M.Instr×List Int×Int))(h:yH j C=some r):nM Tryz.prog 15 true (M.bS.en j) ([.int .i64 j.Id,.str j.aET,.str j.Top,.int .i64 j.aER,.sl (List.map M.aK.en r.1),.sl (List.map M.Instr.en r.2.1),.int .i64 j.aEO.Pc,.sl (List.map enI r.2.2.1),.int .i64 j.aEO.aE2,.bool j.aEO.aFG,.bool j.aEO.aFH]) C r.2.2.2:=by
 unfold yH at h
 simp only[M.bS.en]
 refine eZ (N:=14) (r:=4) Tryz.func15 rfl rfl rfl jH jG λI=> ?_
 refine msq (mrn ?_)
 refine man (msq ?_)
 obtain⟨x1,h2,h⟩:=bind_some h
 refine CT (DU _ _ _ h2) ?_
 refine man (msq ?_)
 refine mcu (λs=>s.t 1=.v false [.dat (.int .i64 x1.2)]/\s.t 2=.unk/\s.m 2=some (.bx 0)/\s.ds=[.int .i64 j.Id,.str j.aET,.str j.Top,.int .i64 j.aER,.sl (List.map M.aK.en x1.1),.sl (List.map M.Instr.en j.aEO.aEp),.int .i64 j.aEO.Pc,.sl (List.map enI j.aEO.aE3),.int .i64 j.aEO.aE2,.bool j.aEO.aFG,.bool j.aEO.aFH]/\True) ?_
 rintro s3 f4
 obtain⟨x8,h9,h⟩:=bind_some h
 refine CT (Hk _ _ _ h9) ?_
 refine man (msq (mrn ?_))
 refine man (mrt ?_)
 cases h
 exact mfi
