/-
  Helper text. No conditions.
-/
import Derived.Test.YtjlnkcoeghonfaaGreatStepPageWmark1
set_option linter.all false
namespace Go.Proofs.YtjlnkcoeghonfaaGreat.gen
open Go Go.Sh
open Go.IntKind (i64)
set_option maxRecDepth 20000
set_option maxHeartbeats 4000000
theorem Mt(p0:List M.fE)(p1:Int)(r:(List M.fE×Int))(h:CZ p0 p1=some r):tD Tryz.prog 177 false ([.sl (List.map M.fE.en p0)]) ([.sl (List.map M.fE.en r.1)]) p1 r.2:=by
 unfold CZ at h
 refine iB (N:=46) (r:=4) Tryz.func177 rfl rfl rfl jH jG λcx=> ?_
 refine msq (mrn ?_)
 refine man (msq (msq (mrn ?_)))
 refine man (mbk ?_)
 refine mls M.fE.en h (λ_ _ _=>rfl) λmL1 s1 C j aj f2 h=> ?_
 simp only[nW]at h
 refine msq (msq (mrn ?_))
 refine man ?_
 rcases GB (decide (j<(List.length aj:Int)))with b7|b7
 ·replace h:=bI b7 h;refine mcf (mxt (zC (zB (DB (man (msq (mrn ?_)))))));refine man (mrt ?_);cases h;exact mfi
 replace h:=bJ b7 h
 refine mct (msk (man (msq (mbk (msq ?_)))))
 obtain⟨x8,h9,h⟩:=bind_some h
 obtain⟨ax,ak,h⟩:=bind_some h
 obtain⟨ay,az,ba⟩:=aU ak
 refine FE (Jl.1 _ _ h9) ?_
 obtain⟨al,I,h⟩:=bind_some h
 replace I:=(qc I).symm
 refine man (msq ?_)
 refine mcv C j M.fE.en al λbd f18=> ?_
 clear I
 refine mrn ?_
 refine man (msq ?_)
 obtain⟨bf,ao,h⟩:=bind_some h
 obtain⟨bg,bh,bj⟩:=aU ao
 refine mrn ?_
 obtain⟨aq,J,h⟩:=bind_some h
 replace J:=(qc J).symm
 refine man (msq ?_)
 refine mcv (i64.wrap (C+1)) j M.fE.en aq λbl f31=> ?_
 clear J
 refine mrn ?_
 refine man (msq ?_)
 obtain⟨bm,ar,h⟩:=bind_some h
 obtain⟨bn,bo,bq⟩:=aU ar
 refine mrn ?_
 obtain⟨av,U,h⟩:=bind_some h
 replace U:=(qc U).symm
 refine man (msq ?_)
 refine mcv (i64.wrap ((i64.wrap (C+1))+1)) j M.fE.en av λbr f44=> ?_
 clear U
 refine mrn ?_
 refine man (msq ?_)
 obtain⟨bt,aw,h⟩:=bind_some h
 obtain⟨bu,bw,bz⟩:=aU aw
 refine mrn ?_
 obtain⟨ai,ah,h⟩:=bind_some h
 replace ah:=(qc ah).symm
 refine man ?_
 refine mcv (i64.wrap ((i64.wrap ((i64.wrap (C+1))+1))+1)) j M.fE.en ai λc5 f57=> ?_
 clear ah
 refine mrn ?_
 refine mab (man (mrn ?_))
 exact mbe (i64.wrap ((i64.wrap ((i64.wrap ((i64.wrap (C+1))+1))+1))+1)) (i64.wrap (j+1)) ai h
theorem Jd(j:M.aQ)(C:Int)(r:(List M.fE×Int))(h:wG j C=some r):tD Tryz.prog 64 true (M.aQ.en j) ([.sl (List.map M.fE.en r.1)]) C r.2:=by
 unfold wG at h
 simp only[M.aQ.en]
 refine iB (N:=10) (r:=4) Tryz.func64 rfl rfl rfl jH jG λI=> ?_
 refine msq (mrn ?_)
 refine man (msq ?_)
 obtain⟨x1,h2,h⟩:=bind_some h
 refine FE (Mt _ _ _ h2) ?_
 refine man (msq (mrn ?_))
 refine man (mrt ?_)
 cases h
 exact mfi
theorem MD(p0:List M.kK)(p1:Int)(r:(List M.kK×Int))(h:C0 p0 p1=some r):tD Tryz.prog 178 false ([.sl (List.map M.kK.en p0)]) ([.sl (List.map M.kK.en r.1)]) p1 r.2:=by
 unfold C0 at h
 refine iB (N:=34) (r:=4) Tryz.func178 rfl rfl rfl jH jG λcx=> ?_
 refine msq (mrn ?_)
 refine man (msq (msq (mrn ?_)))
 refine man (mbk ?_)
 refine mls M.kK.en h (λ_ _ _=>rfl) λmL1 s1 C j ai f2 h=> ?_
 simp only[nQ]at h
 refine msq (msq (mrn ?_))
 refine man ?_
 rcases GB (decide (j<(List.length ai:Int)))with b7|b7
 ·replace h:=bI b7 h;refine mcf (mxt (zC (zB (DB (man (msq (mrn ?_)))))));refine man (mrt ?_);cases h;exact mfi
 replace h:=bJ b7 h
 refine mct (msk (man (msq (mbk (msq ?_)))))
 obtain⟨x8,h9,h⟩:=bind_some h
 obtain⟨aq,ar,av⟩:=aU h9
 refine mrn ?_
 obtain⟨aj,I,h⟩:=bind_some h
 replace I:=(qc I).symm
 refine man (msq ?_)
 refine mcv C j M.kK.en aj λaw f16=> ?_
 clear I
 refine mrn ?_
 refine man (msq ?_)
 obtain⟨ax,ak,h⟩:=bind_some h
 obtain⟨ay,az,ba⟩:=aU ak
 refine mrn ?_
 obtain⟨al,J,h⟩:=bind_some h
 replace J:=(qc J).symm
 refine man (msq ?_)
 refine mcv (i64.wrap (C+1)) j M.kK.en al λbd f29=> ?_
 clear J
 refine mrn ?_
 refine man (msq ?_)
 obtain⟨bf,ao,h⟩:=bind_some h
 obtain⟨bg,bh,bj⟩:=aU ao
 refine mrn ?_
 obtain⟨ah,U,h⟩:=bind_some h
 replace U:=(qc U).symm
 refine man ?_
 refine mcv (i64.wrap ((i64.wrap (C+1))+1)) j M.kK.en ah λbl f42=> ?_
 clear U
 refine mrn ?_
 refine mab (man (mrn ?_))
 exact mbe (i64.wrap ((i64.wrap ((i64.wrap (C+1))+1))+1)) (i64.wrap (j+1)) ah h
theorem KE(j:M.aJp)(C:Int)(r:(List M.kK×Int))(h:AY j C=some r):tD Tryz.prog 65 true (M.aJp.en j) ([.sl (List.map M.kK.en r.1)]) C r.2:=by
 unfold AY at h
 simp only[M.aJp.en]
 refine iB (N:=10) (r:=4) Tryz.func65 rfl rfl rfl jH jG λI=> ?_
 refine msq (mrn ?_)
 refine man (msq ?_)
 obtain⟨x1,h2,h⟩:=bind_some h
 refine FE (MD _ _ _ h2) ?_
 refine man (msq (mrn ?_))
 refine man (mrt ?_)
 cases h
 exact mfi
theorem J6(J:List ByteArray)(U:Int)(r:(List ByteArray×Int))(h:uQ J U=some r):tD Tryz.prog 179 false ([.sl (List.map enS J)]) ([.sl (List.map enS r.1)]) U r.2:=by
 unfold uQ at h
 refine iB (N:=20) (r:=4) Tryz.func179 rfl rfl rfl jH jG λcx=> ?_
 refine msq (mrn ?_)
 refine man (msq (msq (mrn ?_)))
 refine man (mbk ?_)
 refine mls enS h (λ_ _ _=>rfl) λmL1 s1 v1 C af f2 h=> ?_
 simp only[fR]at h
 refine msq (msq (mrn ?_))
 refine man ?_
 rcases GB (decide (C<(List.length af:Int)))with b7|b7
 ·replace h:=bI b7 h;refine mcf (mxt (zC (zB (DB (man (msq (mrn ?_)))))));refine man (mrt ?_);cases h;exact mfi
 replace h:=bJ b7 h
 refine mct (msk (man (msq (mbk (msq ?_)))))
 obtain⟨x8,h9,h⟩:=bind_some h
 obtain⟨ai,ah,h⟩:=bind_some h
 obtain⟨aj,ak,al⟩:=aU ah
 refine FE (Jl.1 _ _ h9) ?_
 obtain⟨I,j,h⟩:=bind_some h
 replace j:=(qc j).symm
 refine man ?_
 refine mcv v1 C enS I λao f18=> ?_
 clear j
 refine mrn ?_
 refine mab (man (mrn ?_))
 exact mbe (i64.wrap (v1+1)) (i64.wrap (C+1)) I h
theorem Mn(p0:List M.aJj)(p1:Int)(r:(List M.aJj×Int))(h:CV p0 p1=some r):tD Tryz.prog 66 false ([.sl (List.map M.aJj.en p0)]) ([.sl (List.map M.aJj.en r.1)]) p1 r.2:=by
 unfold CV at h
 refine iB (N:=44) (r:=4) Tryz.func66 rfl rfl rfl jH jG λcx=> ?_
 refine msq (mrn ?_)
 refine man (msq (msq (mrn ?_)))
 refine man (mbk ?_)
 refine mls M.aJj.en h (λ_ _ _=>rfl) λmL1 s1 v1 j ak f2 h=> ?_
 simp only[oH]at h
 refine msq (msq (mrn ?_))
 refine man ?_
 rcases GB (decide (j<(List.length ak:Int)))with b7|b7
 ·replace h:=bI b7 h;refine mcf (mxt (zC (zB (DB (man (msq (mrn ?_)))))));refine man (mrt ?_);cases h;exact mfi
 replace h:=bJ b7 h
 refine mct (msk (man (msq (mbk (msq ?_)))))
 obtain⟨x8,h9,h⟩:=bind_some h
 obtain⟨az,al,h⟩:=bind_some h
 obtain⟨ba,bd,bf⟩:=aU al
 refine FE (Jl.1 _ _ h9) ?_
 obtain⟨ao,C,h⟩:=bind_some h
 replace C:=(qc C).symm
 refine man (msq ?_)
 refine mcv v1 j M.aJj.en ao λbg f18=> ?_
 clear C
 refine mrn ?_
 refine man (msq ?_)
 obtain⟨bh,aq,h⟩:=bind_some h
 obtain⟨bj,bl,bm⟩:=aU aq
 refine mrn ?_
 obtain⟨ar,I,h⟩:=bind_some h
 replace I:=(qc I).symm
 refine man (msq ?_)
 refine mcv (i64.wrap (v1+1)) j M.aJj.en ar λbn f31=> ?_
 clear I
 refine mrn ?_
 refine man (msq ?_)
 obtain⟨bo,av,h⟩:=bind_some h
 obtain⟨bq,br,bt⟩:=aU av
 obtain⟨J,aw,h⟩:=bind_some h
 refine FE (J6 _ _ _ aw) ?_
 obtain⟨ax,U,h⟩:=bind_some h
 replace U:=(qc U).symm
 refine man (msq ?_)
 refine mcv J.2 j M.aJj.en ax λbu f46=> ?_
 clear U
 obtain⟨bw,ay,h⟩:=bind_some h
 obtain⟨bz,c5,ca⟩:=aU ay
 refine mrn ?_
 obtain⟨aj,ai,h⟩:=bind_some h
 replace ai:=(qc ai).symm
 refine man ?_
 refine mcv J.2 j M.aJj.en aj λcc f59=> ?_
 clear ai
 refine mrn ?_
 refine mab (man (mrn ?_))
 exact mbe (i64.wrap (J.2+1)) (i64.wrap (j+1)) aj h
theorem Jx(p0:List M.aK)(p1:Int)(r:(List M.aK×Int))(h:zA p0 p1=some r):tD Tryz.prog 181 false ([.sl (List.map M.aK.en p0)]) ([.sl (List.map M.aK.en r.1)]) p1 r.2:=by
 unfold zA at h
 refine iB (N:=27) (r:=4) Tryz.func181 rfl rfl rfl jH jG λcx=> ?_
 refine msq (mrn ?_)
 refine man (msq (msq (mrn ?_)))
 refine man (mbk ?_)
 refine mls M.aK.en h (λ_ _ _=>rfl) λmL1 s1 J j ah f2 h=> ?_
 simp only[kB]at h
 refine msq (msq (mrn ?_))
 refine man ?_
 rcases GB (decide (j<(List.length ah:Int)))with b7|b7
 ·replace h:=bI b7 h;refine mcf (mxt (zC (zB (DB (man (msq (mrn ?_)))))));refine man (mrt ?_);cases h;exact mfi
 replace h:=bJ b7 h
 refine mct (msk (man (msq (mbk (msq ?_)))))
 obtain⟨x8,h9,h⟩:=bind_some h
 obtain⟨ak,al,ao⟩:=aU h9
 refine mrn ?_
 obtain⟨ai,C,h⟩:=bind_some h
 replace C:=(qc C).symm
 refine man (msq ?_)
 refine mcv J j M.aK.en ai λaq f16=> ?_
 clear C
 refine mrn ?_
 refine man (msq ?_)
 obtain⟨ar,aj,h⟩:=bind_some h
 obtain⟨av,aw,ax⟩:=aU aj
 refine mrn ?_
 obtain⟨U,I,h⟩:=bind_some h
 replace I:=(qc I).symm
 refine man ?_
 refine mcv (i64.wrap (J+1)) j M.aK.en U λay f29=> ?_
 clear I
 refine mrn ?_
 refine mab (man (mrn ?_))
 exact mbe (i64.wrap ((i64.wrap (J+1))+1)) (i64.wrap (j+1)) U h
theorem KA(p0:List M.aJn)(p1:Int)(r:(List M.aJn×Int))(h:AZ p0 p1=some r):tD Tryz.prog 67 false ([.sl (List.map M.aJn.en p0)]) ([.sl (List.map M.aJn.en r.1)]) p1 r.2:=by
 unfold AZ at h
 refine iB (N:=52) (r:=4) Tryz.func67 rfl rfl rfl jH jG λcx=> ?_
 refine msq (mrn ?_)
 refine man (msq (msq (mrn ?_)))
 refine man (mbk ?_)
 refine mls M.aJn.en h (λ_ _ _=>rfl) λmL1 s1 v1 j ao f2 h=> ?_
 simp only[lI]at h
 refine msq (msq (mrn ?_))
 refine man ?_
 rcases GB (decide (j<(List.length ao:Int)))with b7|b7
 ·replace h:=bI b7 h;refine mcf (mxt (zC (zB (DB (man (msq (mrn ?_)))))));refine man (mrt ?_);cases h;exact mfi
 replace h:=bJ b7 h
 refine mct (msk (man (msq (mbk (msq ?_)))))
 obtain⟨x8,h9,h⟩:=bind_some h
 obtain⟨bl,aq,h⟩:=bind_some h
 obtain⟨bm,bn,bo⟩:=aU aq
 refine FE (Jl.1 _ _ h9) ?_
 obtain⟨ar,C,h⟩:=bind_some h
 replace C:=(qc C).symm
 refine man (msq ?_)
 refine mcv v1 j M.aJn.en ar λbq f18=> ?_
 clear C
 refine mrn ?_
 refine man (msq ?_)
 obtain⟨br,av,h⟩:=bind_some h
 obtain⟨bt,bu,bw⟩:=aU av
 obtain⟨aj,aw,h⟩:=bind_some h
 refine FE (EZ _ _ _ aw) ?_
 obtain⟨ax,I,h⟩:=bind_some h
 replace I:=(qc I).symm
 refine man (msq ?_)
 refine mcv aj.2 j M.aJn.en ax λbz f33=> ?_
 clear I
 obtain⟨c5,ay,h⟩:=bind_some h
 obtain⟨ca,cc,cd⟩:=aU ay
 refine mrn ?_
 obtain⟨az,J,h⟩:=bind_some h
 replace J:=(qc J).symm
 refine man (msq ?_)
 refine mcv aj.2 j M.aJn.en az λcg f46=> ?_
 clear J
 refine mrn ?_
 refine man (msq ?_)
 obtain⟨cj,ba,h⟩:=bind_some h
 obtain⟨ck,cn,cq⟩:=aU ba
 obtain⟨bd,bf,h⟩:=bind_some h
 refine FE (Jx _ _ _ bf) ?_
 obtain⟨bg,U,h⟩:=bind_some h
 replace U:=(qc U).symm
 refine man ?_
 refine mcv bd.2 j M.aJn.en bg λcr f61=> ?_
 clear U
 obtain⟨cw,bh,h⟩:=bind_some h
 obtain⟨cy,cz,da⟩:=aU bh
 obtain⟨ak,bj,h⟩:=bind_some h
 refine FE (GR _ _ _ bj) ?_
 obtain⟨al,ai,h⟩:=bind_some h
 replace ai:=(qc ai).symm
 refine mab (man ?_)
 refine mcv ak.2 j M.aJn.en al λdb f76=> ?_
 clear ai
 refine mrn ?_
 exact mbe ak.2 (i64.wrap (j+1)) al h
theorem HH(j:M.World)(U:Int)(r:(List M.aJa×List M.bD×List M.fE×List M.kK×List M.aJj×List M.aJn×Int))(h:tZ j U=some r):tD Tryz.prog 11 true (M.World.en j) ([.int .i64 j.Now,.bool j.aKB,.int .i64 j.aJq,.sl (List.map M.aJa.en r.1),.sl (List.map M.bD.en r.2.1),.int .i64 j.aJy,.sl (List.map M.fE.en r.2.2.1),.sl (List.map M.kK.en r.2.2.2.1),.sl (List.map M.aJj.en r.2.2.2.2.1),.sl (List.map M.aJn.en r.2.2.2.2.2.1)]) U r.2.2.2.2.2.2:=by
 unfold tZ at h
 simp only[M.World.en]
 refine iB (N:=30) (r:=4) Tryz.func11 rfl rfl rfl jH jG λcx=> ?_
 refine msq (mrn ?_)
 refine man (msq ?_)
 obtain⟨x1,h2,h⟩:=bind_some h
 refine FE (KG _ _ _ h2) ?_
 refine man (msq ?_)
 refine mcu (λs=>s.t 1=.v false [.dat (.int .i64 x1.2)]/\s.t 2=.unk/\s.m 2=some (.bx 0)/\s.ds=[.int .i64 j.Now,.bool j.aKB,.int .i64 j.aJq,.sl (List.map M.aJa.en x1.1),.sl (List.map M.bD.en j.aJu),.int .i64 j.aJy,.sl (List.map M.fE.en j.aJv.aJv),.sl (List.map M.kK.en j.aJp.aKI),.sl (List.map M.aJj.en j.aJ6),.sl (List.map M.aJn.en j.aJ0)]/\True) ?_
 rintro s3 f4
 obtain⟨x8,h9,h⟩:=bind_some h
 refine FE (Mq _ _ _ h9) ?_
 refine man (msq ?_)
 refine mcu (λs=>s.t 1=.v false [.dat (.int .i64 x8.2)]/\s.t 2=.unk/\s.m 2=some (.bx 0)/\s.ds=[.int .i64 j.Now,.bool j.aKB,.int .i64 j.aJq,.sl (List.map M.aJa.en x1.1),.sl (List.map M.bD.en x8.1),.int .i64 j.aJy,.sl (List.map M.fE.en j.aJv.aJv),.sl (List.map M.kK.en j.aJp.aKI),.sl (List.map M.aJj.en j.aJ6),.sl (List.map M.aJn.en j.aJ0)]/\True) ?_
 rintro al f11
 obtain⟨C,ah,h⟩:=bind_some h
 refine FE (Jd _ _ _ ah) ?_
 refine man (msq ?_)
 refine mcu (λs=>s.t 1=.v false [.dat (.int .i64 C.2)]/\s.t 2=.unk/\s.m 2=some (.bx 0)/\s.ds=[.int .i64 j.Now,.bool j.aKB,.int .i64 j.aJq,.sl (List.map M.aJa.en x1.1),.sl (List.map M.bD.en x8.1),.int .i64 j.aJy,.sl (List.map M.fE.en C.1),.sl (List.map M.kK.en j.aJp.aKI),.sl (List.map M.aJj.en j.aJ6),.sl (List.map M.aJn.en j.aJ0)]/\True) ?_
 rintro ao f18
 obtain⟨I,ai,h⟩:=bind_some h
 refine FE (KE _ _ _ ai) ?_
 refine man (msq ?_)
 refine mcu (λs=>s.t 1=.v false [.dat (.int .i64 I.2)]/\s.t 2=.unk/\s.m 2=some (.bx 0)/\s.ds=[.int .i64 j.Now,.bool j.aKB,.int .i64 j.aJq,.sl (List.map M.aJa.en x1.1),.sl (List.map M.bD.en x8.1),.int .i64 j.aJy,.sl (List.map M.fE.en C.1),.sl (List.map M.kK.en I.1),.sl (List.map M.aJj.en j.aJ6),.sl (List.map M.aJn.en j.aJ0)]/\True) ?_
 rintro aq f25
 obtain⟨J,aj,h⟩:=bind_some h
 refine FE (Mn _ _ _ aj) ?_
 refine man (msq ?_)
 refine mcu (λs=>s.t 1=.v false [.dat (.int .i64 J.2)]/\s.t 2=.unk/\s.m 2=some (.bx 0)/\s.ds=[.int .i64 j.Now,.bool j.aKB,.int .i64 j.aJq,.sl (List.map M.aJa.en x1.1),.sl (List.map M.bD.en x8.1),.int .i64 j.aJy,.sl (List.map M.fE.en C.1),.sl (List.map M.kK.en I.1),.sl (List.map M.aJj.en J.1),.sl (List.map M.aJn.en j.aJ0)]/\True) ?_
 rintro ar f32
 obtain⟨av,ak,h⟩:=bind_some h
 refine FE (KA _ _ _ ak) ?_
 refine man (msq (mrn ?_))
 refine man (mrt ?_)
 cases h
 exact mfi
