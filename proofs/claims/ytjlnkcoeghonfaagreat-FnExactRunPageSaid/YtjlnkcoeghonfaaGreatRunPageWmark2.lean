/-
  Helper text. No conditions.
-/
import Derived.Test.YtjlnkcoeghonfaaGreatRunPageWmark1
set_option linter.all false
namespace Go.Proofs.YtjlnkcoeghonfaaGreat.gen
open Go Go.Sh
open Go.IntKind (i64)
set_option maxRecDepth 20000
set_option maxHeartbeats 4000000
theorem MA(p0:List M.eO)(p1:Int)(r:(List M.eO×Int))(h:C5 p0 p1=some r):tE Tryz.prog 177 false ([.sl (List.map M.eO.en p0)]) ([.sl (List.map M.eO.en r.1)]) p1 r.2:=by
 unfold C5 at h
 refine iD (N:=46) (r:=4) Tryz.func177 rfl rfl rfl jH jG λcx=> ?_
 refine msq (mrn ?_)
 refine man (msq (msq (mrn ?_)))
 refine man (mbk ?_)
 refine mls M.eO.en h (λ_ _ _=>rfl) λmL1 s1 C j aj f2 h=> ?_
 simp only[nZ]at h
 refine msq (msq (mrn ?_))
 refine man ?_
 rcases GH (decide (j<(List.length aj:Int)))with b7|b7
 ·replace h:=bJ b7 h;refine mcf (mxt (zE (zD (DH (man (msq (mrn ?_)))))));refine man (mrt ?_);cases h;exact mfi
 replace h:=bK b7 h
 refine mct (msk (man (msq (mbk (msq ?_)))))
 obtain⟨x8,h9,h⟩:=bind_some h
 obtain⟨ax,ak,h⟩:=bind_some h
 obtain⟨ay,az,ba⟩:=aU ak
 refine FK (Js.1 _ _ h9) ?_
 obtain⟨al,I,h⟩:=bind_some h
 replace I:=(qc I).symm
 refine man (msq ?_)
 refine mcv C j M.eO.en al λbd f18=> ?_
 clear I
 refine mrn ?_
 refine man (msq ?_)
 obtain⟨bf,ao,h⟩:=bind_some h
 obtain⟨bg,bh,bj⟩:=aU ao
 refine mrn ?_
 obtain⟨aq,J,h⟩:=bind_some h
 replace J:=(qc J).symm
 refine man (msq ?_)
 refine mcv (i64.wrap (C+1)) j M.eO.en aq λbl f31=> ?_
 clear J
 refine mrn ?_
 refine man (msq ?_)
 obtain⟨bm,ar,h⟩:=bind_some h
 obtain⟨bn,bo,bq⟩:=aU ar
 refine mrn ?_
 obtain⟨av,U,h⟩:=bind_some h
 replace U:=(qc U).symm
 refine man (msq ?_)
 refine mcv (i64.wrap ((i64.wrap (C+1))+1)) j M.eO.en av λbr f44=> ?_
 clear U
 refine mrn ?_
 refine man (msq ?_)
 obtain⟨bt,aw,h⟩:=bind_some h
 obtain⟨bu,bw,bz⟩:=aU aw
 refine mrn ?_
 obtain⟨ai,ah,h⟩:=bind_some h
 replace ah:=(qc ah).symm
 refine man ?_
 refine mcv (i64.wrap ((i64.wrap ((i64.wrap (C+1))+1))+1)) j M.eO.en ai λc5 f57=> ?_
 clear ah
 refine mrn ?_
 refine mab (man (mrn ?_))
 exact mbe (i64.wrap ((i64.wrap ((i64.wrap ((i64.wrap (C+1))+1))+1))+1)) (i64.wrap (j+1)) ai h
theorem Jk(j:M.aP)(C:Int)(r:(List M.eO×Int))(h:wJ j C=some r):tE Tryz.prog 64 true (M.aP.en j) ([.sl (List.map M.eO.en r.1)]) C r.2:=by
 unfold wJ at h
 simp only[M.aP.en]
 refine iD (N:=10) (r:=4) Tryz.func64 rfl rfl rfl jH jG λI=> ?_
 refine msq (mrn ?_)
 refine man (msq ?_)
 obtain⟨x1,h2,h⟩:=bind_some h
 refine FK (MA _ _ _ h2) ?_
 refine man (msq (mrn ?_))
 refine man (mrt ?_)
 cases h
 exact mfi
theorem MN(p0:List M.iU)(p1:Int)(r:(List M.iU×Int))(h:C6 p0 p1=some r):tE Tryz.prog 178 false ([.sl (List.map M.iU.en p0)]) ([.sl (List.map M.iU.en r.1)]) p1 r.2:=by
 unfold C6 at h
 refine iD (N:=34) (r:=4) Tryz.func178 rfl rfl rfl jH jG λcx=> ?_
 refine msq (mrn ?_)
 refine man (msq (msq (mrn ?_)))
 refine man (mbk ?_)
 refine mls M.iU.en h (λ_ _ _=>rfl) λmL1 s1 C j ai f2 h=> ?_
 simp only[nT]at h
 refine msq (msq (mrn ?_))
 refine man ?_
 rcases GH (decide (j<(List.length ai:Int)))with b7|b7
 ·replace h:=bJ b7 h;refine mcf (mxt (zE (zD (DH (man (msq (mrn ?_)))))));refine man (mrt ?_);cases h;exact mfi
 replace h:=bK b7 h
 refine mct (msk (man (msq (mbk (msq ?_)))))
 obtain⟨x8,h9,h⟩:=bind_some h
 obtain⟨aq,ar,av⟩:=aU h9
 refine mrn ?_
 obtain⟨aj,I,h⟩:=bind_some h
 replace I:=(qc I).symm
 refine man (msq ?_)
 refine mcv C j M.iU.en aj λaw f16=> ?_
 clear I
 refine mrn ?_
 refine man (msq ?_)
 obtain⟨ax,ak,h⟩:=bind_some h
 obtain⟨ay,az,ba⟩:=aU ak
 refine mrn ?_
 obtain⟨al,J,h⟩:=bind_some h
 replace J:=(qc J).symm
 refine man (msq ?_)
 refine mcv (i64.wrap (C+1)) j M.iU.en al λbd f29=> ?_
 clear J
 refine mrn ?_
 refine man (msq ?_)
 obtain⟨bf,ao,h⟩:=bind_some h
 obtain⟨bg,bh,bj⟩:=aU ao
 refine mrn ?_
 obtain⟨ah,U,h⟩:=bind_some h
 replace U:=(qc U).symm
 refine man ?_
 refine mcv (i64.wrap ((i64.wrap (C+1))+1)) j M.iU.en ah λbl f42=> ?_
 clear U
 refine mrn ?_
 refine mab (man (mrn ?_))
 exact mbe (i64.wrap ((i64.wrap ((i64.wrap (C+1))+1))+1)) (i64.wrap (j+1)) ah h
theorem KK(j:M.aJu)(C:Int)(r:(List M.iU×Int))(h:A3 j C=some r):tE Tryz.prog 65 true (M.aJu.en j) ([.sl (List.map M.iU.en r.1)]) C r.2:=by
 unfold A3 at h
 simp only[M.aJu.en]
 refine iD (N:=10) (r:=4) Tryz.func65 rfl rfl rfl jH jG λI=> ?_
 refine msq (mrn ?_)
 refine man (msq ?_)
 obtain⟨x1,h2,h⟩:=bind_some h
 refine FK (MN _ _ _ h2) ?_
 refine man (msq (mrn ?_))
 refine man (mrt ?_)
 cases h
 exact mfi
theorem Kc(J:List ByteArray)(U:Int)(r:(List ByteArray×Int))(h:uS J U=some r):tE Tryz.prog 179 false ([.sl (List.map enS J)]) ([.sl (List.map enS r.1)]) U r.2:=by
 unfold uS at h
 refine iD (N:=20) (r:=4) Tryz.func179 rfl rfl rfl jH jG λcx=> ?_
 refine msq (mrn ?_)
 refine man (msq (msq (mrn ?_)))
 refine man (mbk ?_)
 refine mls enS h (λ_ _ _=>rfl) λmL1 s1 v1 C af f2 h=> ?_
 simp only[fR]at h
 refine msq (msq (mrn ?_))
 refine man ?_
 rcases GH (decide (C<(List.length af:Int)))with b7|b7
 ·replace h:=bJ b7 h;refine mcf (mxt (zE (zD (DH (man (msq (mrn ?_)))))));refine man (mrt ?_);cases h;exact mfi
 replace h:=bK b7 h
 refine mct (msk (man (msq (mbk (msq ?_)))))
 obtain⟨x8,h9,h⟩:=bind_some h
 obtain⟨ai,ah,h⟩:=bind_some h
 obtain⟨aj,ak,al⟩:=aU ah
 refine FK (Js.1 _ _ h9) ?_
 obtain⟨I,j,h⟩:=bind_some h
 replace j:=(qc j).symm
 refine man ?_
 refine mcv v1 C enS I λao f18=> ?_
 clear j
 refine mrn ?_
 refine mab (man (mrn ?_))
 exact mbe (i64.wrap (v1+1)) (i64.wrap (C+1)) I h
theorem Mu(p0:List M.aJr)(p1:Int)(r:(List M.aJr×Int))(h:C1 p0 p1=some r):tE Tryz.prog 66 false ([.sl (List.map M.aJr.en p0)]) ([.sl (List.map M.aJr.en r.1)]) p1 r.2:=by
 unfold C1 at h
 refine iD (N:=44) (r:=4) Tryz.func66 rfl rfl rfl jH jG λcx=> ?_
 refine msq (mrn ?_)
 refine man (msq (msq (mrn ?_)))
 refine man (mbk ?_)
 refine mls M.aJr.en h (λ_ _ _=>rfl) λmL1 s1 v1 j ak f2 h=> ?_
 simp only[oL]at h
 refine msq (msq (mrn ?_))
 refine man ?_
 rcases GH (decide (j<(List.length ak:Int)))with b7|b7
 ·replace h:=bJ b7 h;refine mcf (mxt (zE (zD (DH (man (msq (mrn ?_)))))));refine man (mrt ?_);cases h;exact mfi
 replace h:=bK b7 h
 refine mct (msk (man (msq (mbk (msq ?_)))))
 obtain⟨x8,h9,h⟩:=bind_some h
 obtain⟨az,al,h⟩:=bind_some h
 obtain⟨ba,bd,bf⟩:=aU al
 refine FK (Js.1 _ _ h9) ?_
 obtain⟨ao,C,h⟩:=bind_some h
 replace C:=(qc C).symm
 refine man (msq ?_)
 refine mcv v1 j M.aJr.en ao λbg f18=> ?_
 clear C
 refine mrn ?_
 refine man (msq ?_)
 obtain⟨bh,aq,h⟩:=bind_some h
 obtain⟨bj,bl,bm⟩:=aU aq
 refine mrn ?_
 obtain⟨ar,I,h⟩:=bind_some h
 replace I:=(qc I).symm
 refine man (msq ?_)
 refine mcv (i64.wrap (v1+1)) j M.aJr.en ar λbn f31=> ?_
 clear I
 refine mrn ?_
 refine man (msq ?_)
 obtain⟨bo,av,h⟩:=bind_some h
 obtain⟨bq,br,bt⟩:=aU av
 obtain⟨J,aw,h⟩:=bind_some h
 refine FK (Kc _ _ _ aw) ?_
 obtain⟨ax,U,h⟩:=bind_some h
 replace U:=(qc U).symm
 refine man (msq ?_)
 refine mcv J.2 j M.aJr.en ax λbu f46=> ?_
 clear U
 obtain⟨bw,ay,h⟩:=bind_some h
 obtain⟨bz,c5,ca⟩:=aU ay
 refine mrn ?_
 obtain⟨aj,ai,h⟩:=bind_some h
 replace ai:=(qc ai).symm
 refine man ?_
 refine mcv J.2 j M.aJr.en aj λcc f59=> ?_
 clear ai
 refine mrn ?_
 refine mab (man (mrn ?_))
 exact mbe (i64.wrap (J.2+1)) (i64.wrap (j+1)) aj h
theorem JD(p0:List M.aK)(p1:Int)(r:(List M.aK×Int))(h:zC p0 p1=some r):tE Tryz.prog 181 false ([.sl (List.map M.aK.en p0)]) ([.sl (List.map M.aK.en r.1)]) p1 r.2:=by
 unfold zC at h
 refine iD (N:=27) (r:=4) Tryz.func181 rfl rfl rfl jH jG λcx=> ?_
 refine msq (mrn ?_)
 refine man (msq (msq (mrn ?_)))
 refine man (mbk ?_)
 refine mls M.aK.en h (λ_ _ _=>rfl) λmL1 s1 J j ah f2 h=> ?_
 simp only[kE]at h
 refine msq (msq (mrn ?_))
 refine man ?_
 rcases GH (decide (j<(List.length ah:Int)))with b7|b7
 ·replace h:=bJ b7 h;refine mcf (mxt (zE (zD (DH (man (msq (mrn ?_)))))));refine man (mrt ?_);cases h;exact mfi
 replace h:=bK b7 h
 refine mct (msk (man (msq (mbk (msq ?_)))))
 obtain⟨x8,h9,h⟩:=bind_some h
 obtain⟨ak,al,ao⟩:=aU h9
 refine mrn ?_
 obtain⟨ai,C,h⟩:=bind_some h
 replace C:=(qc C).symm
 refine man (msq ?_)
 refine mcv J j M.aK.en ai λaq f16=> ?_
 clear C
 refine mrn ?_
 refine man (msq ?_)
 obtain⟨ar,aj,h⟩:=bind_some h
 obtain⟨av,aw,ax⟩:=aU aj
 refine mrn ?_
 obtain⟨U,I,h⟩:=bind_some h
 replace I:=(qc I).symm
 refine man ?_
 refine mcv (i64.wrap (J+1)) j M.aK.en U λay f29=> ?_
 clear I
 refine mrn ?_
 refine mab (man (mrn ?_))
 exact mbe (i64.wrap ((i64.wrap (J+1))+1)) (i64.wrap (j+1)) U h
theorem KH(p0:List M.aJv)(p1:Int)(r:(List M.aJv×Int))(h:A4 p0 p1=some r):tE Tryz.prog 67 false ([.sl (List.map M.aJv.en p0)]) ([.sl (List.map M.aJv.en r.1)]) p1 r.2:=by
 unfold A4 at h
 refine iD (N:=52) (r:=4) Tryz.func67 rfl rfl rfl jH jG λcx=> ?_
 refine msq (mrn ?_)
 refine man (msq (msq (mrn ?_)))
 refine man (mbk ?_)
 refine mls M.aJv.en h (λ_ _ _=>rfl) λmL1 s1 v1 j ao f2 h=> ?_
 simp only[lK]at h
 refine msq (msq (mrn ?_))
 refine man ?_
 rcases GH (decide (j<(List.length ao:Int)))with b7|b7
 ·replace h:=bJ b7 h;refine mcf (mxt (zE (zD (DH (man (msq (mrn ?_)))))));refine man (mrt ?_);cases h;exact mfi
 replace h:=bK b7 h
 refine mct (msk (man (msq (mbk (msq ?_)))))
 obtain⟨x8,h9,h⟩:=bind_some h
 obtain⟨bl,aq,h⟩:=bind_some h
 obtain⟨bm,bn,bo⟩:=aU aq
 refine FK (Js.1 _ _ h9) ?_
 obtain⟨ar,C,h⟩:=bind_some h
 replace C:=(qc C).symm
 refine man (msq ?_)
 refine mcv v1 j M.aJv.en ar λbq f18=> ?_
 clear C
 refine mrn ?_
 refine man (msq ?_)
 obtain⟨br,av,h⟩:=bind_some h
 obtain⟨bt,bu,bw⟩:=aU av
 obtain⟨aj,aw,h⟩:=bind_some h
 refine FK (E6 _ _ _ aw) ?_
 obtain⟨ax,I,h⟩:=bind_some h
 replace I:=(qc I).symm
 refine man (msq ?_)
 refine mcv aj.2 j M.aJv.en ax λbz f33=> ?_
 clear I
 obtain⟨c5,ay,h⟩:=bind_some h
 obtain⟨ca,cc,cd⟩:=aU ay
 refine mrn ?_
 obtain⟨az,J,h⟩:=bind_some h
 replace J:=(qc J).symm
 refine man (msq ?_)
 refine mcv aj.2 j M.aJv.en az λcg f46=> ?_
 clear J
 refine mrn ?_
 refine man (msq ?_)
 obtain⟨cj,ba,h⟩:=bind_some h
 obtain⟨ck,cn,cq⟩:=aU ba
 obtain⟨bd,bf,h⟩:=bind_some h
 refine FK (JD _ _ _ bf) ?_
 obtain⟨bg,U,h⟩:=bind_some h
 replace U:=(qc U).symm
 refine man ?_
 refine mcv bd.2 j M.aJv.en bg λcr f61=> ?_
 clear U
 obtain⟨cw,bh,h⟩:=bind_some h
 obtain⟨cy,cz,da⟩:=aU bh
 obtain⟨ak,bj,h⟩:=bind_some h
 refine FK (GZ _ _ _ bj) ?_
 obtain⟨al,ai,h⟩:=bind_some h
 replace ai:=(qc ai).symm
 refine mab (man ?_)
 refine mcv ak.2 j M.aJv.en al λdb f76=> ?_
 clear ai
 refine mrn ?_
 exact mbe ak.2 (i64.wrap (j+1)) al h
theorem HO(j:M.World)(U:Int)(r:(List M.aJi×List M.bD×List M.eO×List M.iU×List M.aJr×List M.aJv×Int))(h:uA j U=some r):tE Tryz.prog 11 true (M.World.en j) ([.int .i64 j.Now,.bool j.aKF,.int .i64 j.aJy,.sl (List.map M.aJi.en r.1),.sl (List.map M.bD.en r.2.1),.int .i64 j.aJ4,.sl (List.map M.eO.en r.2.2.1),.sl (List.map M.iU.en r.2.2.2.1),.sl (List.map M.aJr.en r.2.2.2.2.1),.sl (List.map M.aJv.en r.2.2.2.2.2.1)]) U r.2.2.2.2.2.2:=by
 unfold uA at h
 simp only[M.World.en]
 refine iD (N:=30) (r:=4) Tryz.func11 rfl rfl rfl jH jG λcx=> ?_
 refine msq (mrn ?_)
 refine man (msq ?_)
 obtain⟨x1,h2,h⟩:=bind_some h
 refine FK (KM _ _ _ h2) ?_
 refine man (msq ?_)
 refine mcu (λs=>s.t 1=.v false [.dat (.int .i64 x1.2)]/\s.t 2=.unk/\s.m 2=some (.bx 0)/\s.ds=[.int .i64 j.Now,.bool j.aKF,.int .i64 j.aJy,.sl (List.map M.aJi.en x1.1),.sl (List.map M.bD.en j.aJ2),.int .i64 j.aJ4,.sl (List.map M.eO.en j.aJ3.aJ3),.sl (List.map M.iU.en j.aJu.aKM),.sl (List.map M.aJr.en j.aKE),.sl (List.map M.aJv.en j.aJ6)]/\True) ?_
 rintro s3 f4
 obtain⟨x8,h9,h⟩:=bind_some h
 refine FK (Mx _ _ _ h9) ?_
 refine man (msq ?_)
 refine mcu (λs=>s.t 1=.v false [.dat (.int .i64 x8.2)]/\s.t 2=.unk/\s.m 2=some (.bx 0)/\s.ds=[.int .i64 j.Now,.bool j.aKF,.int .i64 j.aJy,.sl (List.map M.aJi.en x1.1),.sl (List.map M.bD.en x8.1),.int .i64 j.aJ4,.sl (List.map M.eO.en j.aJ3.aJ3),.sl (List.map M.iU.en j.aJu.aKM),.sl (List.map M.aJr.en j.aKE),.sl (List.map M.aJv.en j.aJ6)]/\True) ?_
 rintro al f11
 obtain⟨C,ah,h⟩:=bind_some h
 refine FK (Jk _ _ _ ah) ?_
 refine man (msq ?_)
 refine mcu (λs=>s.t 1=.v false [.dat (.int .i64 C.2)]/\s.t 2=.unk/\s.m 2=some (.bx 0)/\s.ds=[.int .i64 j.Now,.bool j.aKF,.int .i64 j.aJy,.sl (List.map M.aJi.en x1.1),.sl (List.map M.bD.en x8.1),.int .i64 j.aJ4,.sl (List.map M.eO.en C.1),.sl (List.map M.iU.en j.aJu.aKM),.sl (List.map M.aJr.en j.aKE),.sl (List.map M.aJv.en j.aJ6)]/\True) ?_
 rintro ao f18
 obtain⟨I,ai,h⟩:=bind_some h
 refine FK (KK _ _ _ ai) ?_
 refine man (msq ?_)
 refine mcu (λs=>s.t 1=.v false [.dat (.int .i64 I.2)]/\s.t 2=.unk/\s.m 2=some (.bx 0)/\s.ds=[.int .i64 j.Now,.bool j.aKF,.int .i64 j.aJy,.sl (List.map M.aJi.en x1.1),.sl (List.map M.bD.en x8.1),.int .i64 j.aJ4,.sl (List.map M.eO.en C.1),.sl (List.map M.iU.en I.1),.sl (List.map M.aJr.en j.aKE),.sl (List.map M.aJv.en j.aJ6)]/\True) ?_
 rintro aq f25
 obtain⟨J,aj,h⟩:=bind_some h
 refine FK (Mu _ _ _ aj) ?_
 refine man (msq ?_)
 refine mcu (λs=>s.t 1=.v false [.dat (.int .i64 J.2)]/\s.t 2=.unk/\s.m 2=some (.bx 0)/\s.ds=[.int .i64 j.Now,.bool j.aKF,.int .i64 j.aJy,.sl (List.map M.aJi.en x1.1),.sl (List.map M.bD.en x8.1),.int .i64 j.aJ4,.sl (List.map M.eO.en C.1),.sl (List.map M.iU.en I.1),.sl (List.map M.aJr.en J.1),.sl (List.map M.aJv.en j.aJ6)]/\True) ?_
 rintro ar f32
 obtain⟨av,ak,h⟩:=bind_some h
 refine FK (KH _ _ _ ak) ?_
 refine man (msq (mrn ?_))
 refine man (mrt ?_)
 cases h
 exact mfi
