/-
  Helper text. No conditions.
-/
import Derived.Test.YtjlnkcoeghonfaaGreatRunPageWmark0
set_option linter.all false
namespace Go.Proofs.YtjlnkcoeghonfaaGreat.gen
open Go Go.Sh
open Go.IntKind (i64)
set_option maxRecDepth 20000
set_option maxHeartbeats 4000000
theorem KW(p0:List M.aJi)(p1:Int)(r:(List M.aJi×Int))(h:Ba p0 p1=some r):tE Tryz.prog 172 false ([.sl (List.map M.aJi.en p0)]) ([.sl (List.map M.aJi.en r.1)]) p1 r.2:=by
 unfold Ba at h
 refine iD (N:=223) (r:=4) Tryz.func172 rfl rfl rfl jH jG λcx=> ?_
 refine msq (mrn ?_)
 refine man (msq (msq (mrn ?_)))
 refine man (mbk ?_)
 refine mls M.aJi.en h (λ_ _ _=>rfl) λmL1 s1 I j fe f2 h=> ?_
 simp only[mE]at h
 refine msq (msq (mrn ?_))
 refine man ?_
 rcases GH (decide (j<(List.length fe:Int)))with b7|b7
 ·replace h:=bJ b7 h;refine mcf (mxt (zE (zD (DH (man (msq (mrn ?_)))))));refine man (mrt ?_);cases h;exact mfi
 replace h:=bK b7 h
 refine mct (msk (man (msq (mbk (msq ?_)))))
 obtain⟨x8,h9,h⟩:=bind_some h
 obtain⟨lh,ff,h⟩:=bind_some h
 obtain⟨lj,lk,ll⟩:=aU ff
 refine FK (Js.1 _ _ h9) ?_
 obtain⟨fg,bl,h⟩:=bind_some h
 replace bl:=(qc bl).symm
 refine man (msq ?_)
 refine mcv I j M.aJi.en fg λlp f18=> ?_
 clear bl
 refine mrn ?_
 refine man (msq ?_)
 obtain⟨lq,fh,h⟩:=bind_some h
 obtain⟨lr,fj,h⟩:=bind_some h
 obtain⟨lu,lx,ly⟩:=aU fj
 refine FK (Js.1 _ _ fh) ?_
 obtain⟨fk,bm,h⟩:=bind_some h
 replace bm:=(qc bm).symm
 refine man (msq ?_)
 refine mcv (i64.wrap (I+1)) j M.aJi.en fk λlz f33=> ?_
 clear bm
 refine mrn ?_
 refine man (msq ?_)
 obtain⟨ma,fm,h⟩:=bind_some h
 obtain⟨mb,fo,h⟩:=bind_some h
 obtain⟨mc,me,mf⟩:=aU fo
 refine FK (Js.1 _ _ fm) ?_
 obtain⟨fq,bn,h⟩:=bind_some h
 replace bn:=(qc bn).symm
 refine man (msq ?_)
 refine mcv (i64.wrap ((i64.wrap (I+1))+1)) j M.aJi.en fq λmg f48=> ?_
 clear bn
 refine mrn ?_
 refine man (msq ?_)
 obtain⟨mh,ft,h⟩:=bind_some h
 obtain⟨mi,mj,ml⟩:=aU ft
 refine mrn ?_
 obtain⟨fw,bo,h⟩:=bind_some h
 replace bo:=(qc bo).symm
 refine man (msq ?_)
 refine mcv (i64.wrap ((i64.wrap ((i64.wrap (I+1))+1))+1)) j M.aJi.en fw λmn f61=> ?_
 clear bo
 refine mrn ?_
 refine man (msq ?_)
 obtain⟨mo,fy,h⟩:=bind_some h
 obtain⟨mq,mr,mu⟩:=aU fy
 refine mrn ?_
 obtain⟨fz,bq,h⟩:=bind_some h
 replace bq:=(qc bq).symm
 refine man (msq ?_)
 refine mcv (i64.wrap ((i64.wrap ((i64.wrap ((i64.wrap (I+1))+1))+1))+1)) j M.aJi.en fz λmw f74=> ?_
 clear bq
 refine mrn ?_
 refine man (msq ?_)
 obtain⟨mx,ga,h⟩:=bind_some h
 obtain⟨my,mz,n7⟩:=aU ga
 refine mrn ?_
 obtain⟨gb,br,h⟩:=bind_some h
 replace br:=(qc br).symm
 refine man (msq ?_)
 refine mcv (i64.wrap ((i64.wrap ((i64.wrap ((i64.wrap ((i64.wrap (I+1))+1))+1))+1))+1)) j M.aJi.en gb λn9 f87=> ?_
 clear br
 refine mrn ?_
 refine man (msq ?_)
 obtain⟨na,gd,h⟩:=bind_some h
 obtain⟨nb,nc,nd⟩:=aU gd
 obtain⟨bt,gh,h⟩:=bind_some h
 refine FK (Lw _ _ _ gh) ?_
 obtain⟨gi,U,h⟩:=bind_some h
 replace U:=(qc U).symm
 refine man (msq ?_)
 refine mcv bt.2 j M.aJi.en gi λgj f102=> ?_
 clear U
 obtain⟨gk,bu,h⟩:=bind_some h
 obtain⟨gm,bw,h⟩:=bind_some h
 obtain⟨gn,gp,gq⟩:=aU bw
 refine FK (Js.1 _ _ bu) ?_
 obtain⟨bz,ah,h⟩:=bind_some h
 replace ah:=(qc ah).symm
 refine man (msq ?_)
 refine mcv bt.2 j M.aJi.en bz λgr f117=> ?_
 clear ah
 refine mrn ?_
 refine man (msq ?_)
 obtain⟨gu,c5,h⟩:=bind_some h
 obtain⟨gv,gw,gx⟩:=aU c5
 refine mrn ?_
 obtain⟨ca,ai,h⟩:=bind_some h
 replace ai:=(qc ai).symm
 refine man (msq ?_)
 refine mcv (i64.wrap (bt.2+1)) j M.aJi.en ca λgy f130=> ?_
 clear ai
 refine mrn ?_
 refine man (msq ?_)
 obtain⟨i0,cc,h⟩:=bind_some h
 obtain⟨i7,i9,ia⟩:=aU cc
 obtain⟨cd,cg,h⟩:=bind_some h
 refine FK (LZ _ _ _ cg) ?_
 obtain⟨cj,aj,h⟩:=bind_some h
 replace aj:=(qc aj).symm
 refine man (msq ?_)
 refine mcv cd.2 j M.aJi.en cj λib f145=> ?_
 clear aj
 obtain⟨ic,ck,h⟩:=bind_some h
 obtain⟨ig,ik,il⟩:=aU ck
 obtain⟨cn,cq,h⟩:=bind_some h
 refine FK (Jj _ _ _ cq) ?_
 obtain⟨cr,ak,h⟩:=bind_some h
 replace ak:=(qc ak).symm
 refine man (msq ?_)
 refine mcv cn.2 j M.aJi.en cr λim f160=> ?_
 clear ak
 obtain⟨iq,cw,h⟩:=bind_some h
 obtain⟨ir,iu,iv⟩:=aU cw
 obtain⟨al,cy,h⟩:=bind_some h
 refine FK (HV _ _ _ cy) ?_
 obtain⟨cz,ao,h⟩:=bind_some h
 replace ao:=(qc ao).symm
 refine man (msq ?_)
 refine mcv al.2 j M.aJi.en cz λiw f175=> ?_
 clear ao
 obtain⟨iy,da,h⟩:=bind_some h
 obtain⟨iz,j0,j3⟩:=aU da
 refine mrn ?_
 obtain⟨db,aq,h⟩:=bind_some h
 replace aq:=(qc aq).symm
 refine man (msq ?_)
 refine mcv al.2 j M.aJi.en db λj4 f188=> ?_
 clear aq
 refine mrn ?_
 refine man (msq ?_)
 obtain⟨j5,df,h⟩:=bind_some h
 obtain⟨j6,dg,h⟩:=bind_some h
 obtain⟨j7,j8,j9⟩:=aU dg
 refine FK (Js.1 _ _ df) ?_
 obtain⟨dh,ar,h⟩:=bind_some h
 replace ar:=(qc ar).symm
 refine man (msq ?_)
 refine mcv (i64.wrap (al.2+1)) j M.aJi.en dh λja f203=> ?_
 clear ar
 refine mrn ?_
 refine man (msq ?_)
 obtain⟨jb,di,h⟩:=bind_some h
 obtain⟨jc,jd,je⟩:=aU di
 obtain⟨J,dj,h⟩:=bind_some h
 refine FK (E6 _ _ _ dj) ?_
 obtain⟨dm,av,h⟩:=bind_some h
 replace av:=(qc av).symm
 refine man (msq ?_)
 refine mcv J.2 j M.aJi.en dm λjf f218=> ?_
 clear av
 obtain⟨jg,dn,h⟩:=bind_some h
 obtain⟨jh,ji,jk⟩:=aU dn
 refine mrn ?_
 obtain⟨dq,aw,h⟩:=bind_some h
 replace aw:=(qc aw).symm
 refine man (msq ?_)
 refine mcv J.2 j M.aJi.en dq λjl f231=> ?_
 clear aw
 refine mrn ?_
 refine man (msq ?_)
 obtain⟨jm,du,h⟩:=bind_some h
 obtain⟨jn,jo,jq⟩:=aU du
 refine mrn ?_
 obtain⟨dw,ax,h⟩:=bind_some h
 replace ax:=(qc ax).symm
 refine man (msq ?_)
 refine mcv (i64.wrap (J.2+1)) j M.aJi.en dw λjr f244=> ?_
 clear ax
 refine mrn ?_
 refine man (msq ?_)
 obtain⟨js,dx,h⟩:=bind_some h
 obtain⟨jt,ju,jv⟩:=aU dx
 refine mrn ?_
 obtain⟨dy,ay,h⟩:=bind_some h
 replace ay:=(qc ay).symm
 refine man (msq ?_)
 refine mcv (i64.wrap ((i64.wrap (J.2+1))+1)) j M.aJi.en dy λjw f257=> ?_
 clear ay
 refine mrn ?_
 refine man (msq ?_)
 obtain⟨jx,dz,h⟩:=bind_some h
 obtain⟨jy,jz,ka⟩:=aU dz
 refine mrn ?_
 obtain⟨ec,az,h⟩:=bind_some h
 replace az:=(qc az).symm
 refine man (msq ?_)
 refine mcv (i64.wrap ((i64.wrap ((i64.wrap (J.2+1))+1))+1)) j M.aJi.en ec λkb f270=> ?_
 clear az
 refine mrn ?_
 refine man (msq ?_)
 obtain⟨ke,ef,h⟩:=bind_some h
 obtain⟨kg,ki,kj⟩:=aU ef
 obtain⟨C,eo,h⟩:=bind_some h
 refine FK (GZ _ _ _ eo) ?_
 obtain⟨ep,ba,h⟩:=bind_some h
 replace ba:=(qc ba).symm
 refine man (msq ?_)
 refine mcv C.2 j M.aJi.en ep λkm f285=> ?_
 clear ba
 obtain⟨ko,er,h⟩:=bind_some h
 obtain⟨kp,kq,kr⟩:=aU er
 refine mrn ?_
 obtain⟨eu,bd,h⟩:=bind_some h
 replace bd:=(qc bd).symm
 refine man (msq ?_)
 refine mcv C.2 j M.aJi.en eu λks f298=> ?_
 clear bd
 refine mrn ?_
 refine man (msq ?_)
 obtain⟨ku,ev,h⟩:=bind_some h
 obtain⟨kv,kx,ky⟩:=aU ev
 refine mrn ?_
 obtain⟨ey,bf,h⟩:=bind_some h
 replace bf:=(qc bf).symm
 refine man (msq ?_)
 refine mcv (i64.wrap (C.2+1)) j M.aJi.en ey λkz f311=> ?_
 clear bf
 refine mrn ?_
 refine man (msq ?_)
 obtain⟨l0,ez,h⟩:=bind_some h
 obtain⟨l5,l6,l7⟩:=aU ez
 refine mrn ?_
 obtain⟨fa,bg,h⟩:=bind_some h
 replace bg:=(qc bg).symm
 refine man (msq ?_)
 refine mcv (i64.wrap ((i64.wrap (C.2+1))+1)) j M.aJi.en fa λl8 f324=> ?_
 clear bg
 refine mrn ?_
 refine man (msq ?_)
 obtain⟨l9,fc,h⟩:=bind_some h
 obtain⟨la,ld,lf⟩:=aU fc
 refine mrn ?_
 obtain⟨bj,bh,h⟩:=bind_some h
 replace bh:=(qc bh).symm
 refine man ?_
 refine mcv (i64.wrap ((i64.wrap ((i64.wrap (C.2+1))+1))+1)) j M.aJi.en bj λlg f337=> ?_
 clear bh
 refine mrn ?_
 refine mab (man (mrn ?_))
 exact mbe (i64.wrap ((i64.wrap ((i64.wrap ((i64.wrap (C.2+1))+1))+1))+1)) (i64.wrap (j+1)) bj h
theorem KM(j:M.aA)(C:Int)(r:(List M.aJi×Int))(h:A8 j C=some r):tE Tryz.prog 62 true (M.aA.en j) ([.sl (List.map M.aJi.en r.1)]) C r.2:=by
 unfold A8 at h
 simp only[M.aA.en]
 refine iD (N:=10) (r:=4) Tryz.func62 rfl rfl rfl jH jG λI=> ?_
 refine msq (mrn ?_)
 refine man (msq ?_)
 obtain⟨x1,h2,h⟩:=bind_some h
 refine FK (KW _ _ _ h2) ?_
 refine man (msq (mrn ?_))
 refine man (mrt ?_)
 cases h
 exact mfi
theorem KP(p0:List M.aJ)(p1:Int)(r:(List M.aJ×Int))(h:A9 p0 p1=some r):tE Tryz.prog 174 false ([.sl (List.map M.aJ.en p0)]) ([.sl (List.map M.aJ.en r.1)]) p1 r.2:=by
 unfold A9 at h
 refine iD (N:=28) (r:=4) Tryz.func174 rfl rfl rfl jH jG λcx=> ?_
 refine msq (mrn ?_)
 refine man (msq (msq (mrn ?_)))
 refine man (mbk ?_)
 refine mls M.aJ.en h (λ_ _ _=>rfl) λmL1 s1 J j ah f2 h=> ?_
 simp only[lW]at h
 refine msq (msq (mrn ?_))
 refine man ?_
 rcases GH (decide (j<(List.length ah:Int)))with b7|b7
 ·replace h:=bJ b7 h;refine mcf (mxt (zE (zD (DH (man (msq (mrn ?_)))))));refine man (mrt ?_);cases h;exact mfi
 replace h:=bK b7 h
 refine mct (msk (man (msq (mbk (msq ?_)))))
 obtain⟨x8,h9,h⟩:=bind_some h
 obtain⟨al,ai,h⟩:=bind_some h
 obtain⟨ao,aq,ar⟩:=aU ai
 refine FK (Js.1 _ _ h9) ?_
 obtain⟨aj,C,h⟩:=bind_some h
 replace C:=(qc C).symm
 refine man (msq ?_)
 refine mcv J j M.aJ.en aj λav f18=> ?_
 clear C
 refine mrn ?_
 refine man (msq ?_)
 obtain⟨aw,ak,h⟩:=bind_some h
 obtain⟨ax,ay,az⟩:=aU ak
 refine mrn ?_
 obtain⟨U,I,h⟩:=bind_some h
 replace I:=(qc I).symm
 refine man ?_
 refine mcv (i64.wrap (J+1)) j M.aJ.en U λba f31=> ?_
 clear I
 refine mrn ?_
 refine mab (man (mrn ?_))
 exact mbe (i64.wrap ((i64.wrap (J+1))+1)) (i64.wrap (j+1)) U h
theorem Lr(p0:List M.Instr)(p1:Int)(r:(List M.Instr×Int))(h:Cd p0 p1=some r):tE Tryz.prog 175 false ([.sl (List.map M.Instr.en p0)]) ([.sl (List.map M.Instr.en r.1)]) p1 r.2:=by
 unfold Cd at h
 refine iD (N:=42) (r:=4) Tryz.func175 rfl rfl rfl jH jG λcx=> ?_
 refine msq (mrn ?_)
 refine man (msq (msq (mrn ?_)))
 refine man (mbk ?_)
 refine mls M.Instr.en h (λ_ _ _=>rfl) λmL1 s1 C j aj f2 h=> ?_
 simp only[mV]at h
 refine msq (msq (mrn ?_))
 refine man ?_
 rcases GH (decide (j<(List.length aj:Int)))with b7|b7
 ·replace h:=bJ b7 h;refine mcf (mxt (zE (zD (DH (man (msq (mrn ?_)))))));refine man (mrt ?_);cases h;exact mfi
 replace h:=bK b7 h
 refine mct (msk (man (msq (mbk (msq ?_)))))
 obtain⟨x8,h9,h⟩:=bind_some h
 obtain⟨ax,ay,az⟩:=aU h9
 refine mrn ?_
 obtain⟨ak,I,h⟩:=bind_some h
 replace I:=(qc I).symm
 refine man (msq ?_)
 refine mcv C j M.Instr.en ak λba f16=> ?_
 clear I
 refine mrn ?_
 refine man (msq ?_)
 obtain⟨bd,al,h⟩:=bind_some h
 obtain⟨bf,bg,bh⟩:=aU al
 refine mrn ?_
 obtain⟨ao,J,h⟩:=bind_some h
 replace J:=(qc J).symm
 refine man (msq ?_)
 refine mcv (i64.wrap (C+1)) j M.Instr.en ao λbj f29=> ?_
 clear J
 refine mrn ?_
 refine man (msq ?_)
 obtain⟨bl,aq,h⟩:=bind_some h
 obtain⟨bm,bn,bo⟩:=aU aq
 refine mrn ?_
 obtain⟨ar,U,h⟩:=bind_some h
 replace U:=(qc U).symm
 refine man (msq ?_)
 refine mcv (i64.wrap ((i64.wrap (C+1))+1)) j M.Instr.en ar λbq f42=> ?_
 clear U
 refine mrn ?_
 refine man (msq ?_)
 obtain⟨br,av,h⟩:=bind_some h
 obtain⟨bt,aw,h⟩:=bind_some h
 obtain⟨bu,bw,bz⟩:=aU aw
 refine FK (Js.1 _ _ av) ?_
 obtain⟨ai,ah,h⟩:=bind_some h
 replace ah:=(qc ah).symm
 refine man ?_
 refine mcv (i64.wrap ((i64.wrap ((i64.wrap (C+1))+1))+1)) j M.Instr.en ai λc5 f57=> ?_
 clear ah
 refine mrn ?_
 refine mab (man (mrn ?_))
 exact mbe (i64.wrap ((i64.wrap ((i64.wrap ((i64.wrap (C+1))+1))+1))+1)) (i64.wrap (j+1)) ai h
theorem Np(J:List Int)(U:Int)(r:(List Int×Int))(h:Bq J U=some r):tE Tryz.prog 176 false ([.sl (List.map enI J)]) ([.sl (List.map enI r.1)]) U r.2:=by
 unfold Bq at h
 refine iD (N:=19) (r:=4) Tryz.func176 rfl rfl rfl jH jG λcx=> ?_
 refine msq (mrn ?_)
 refine man (msq (msq (mrn ?_)))
 refine man (mbk ?_)
 refine mls enI h (λ_ _ _=>rfl) λmL1 s1 v1 C af f2 h=> ?_
 simp only[kA]at h
 refine msq (msq (mrn ?_))
 refine man ?_
 rcases GH (decide (C<(List.length af:Int)))with b7|b7
 ·replace h:=bJ b7 h;refine mcf (mxt (zE (zD (DH (man (msq (mrn ?_)))))));refine man (mrt ?_);cases h;exact mfi
 replace h:=bK b7 h
 refine mct (msk (man (msq (mbk (msq ?_)))))
 obtain⟨x8,h9,h⟩:=bind_some h
 obtain⟨ah,ai,aj⟩:=aU h9
 refine mrn ?_
 obtain⟨I,j,h⟩:=bind_some h
 replace j:=(qc j).symm
 refine man ?_
 refine mcv v1 C enI I λak f16=> ?_
 clear j
 refine mrn ?_
 refine mab (man (mrn ?_))
 exact mbe (i64.wrap (v1+1)) (i64.wrap (C+1)) I h
theorem Mx(p0:List M.bD)(p1:Int)(r:(List M.bD×Int))(h:CU p0 p1=some r):tE Tryz.prog 63 false ([.sl (List.map M.bD.en p0)]) ([.sl (List.map M.bD.en r.1)]) p1 r.2:=by
 unfold CU at h
 refine iD (N:=102) (r:=4) Tryz.func63 rfl rfl rfl jH jG λcx=> ?_
 refine msq (mrn ?_)
 refine man (msq (msq (mrn ?_)))
 refine man (mbk ?_)
 refine mls M.bD.en h (λ_ _ _=>rfl) λmL1 s1 I j bl f2 h=> ?_
 simp only[oE]at h
 refine msq (msq (mrn ?_))
 refine man ?_
 rcases GH (decide (j<(List.length bl:Int)))with b7|b7
 ·replace h:=bJ b7 h;refine mcf (mxt (zE (zD (DH (man (msq (mrn ?_)))))));refine man (mrt ?_);cases h;exact mfi
 replace h:=bK b7 h
 refine mct (msk (man (msq (mbk (msq ?_)))))
 obtain⟨x8,h9,h⟩:=bind_some h
 obtain⟨eo,ep,er⟩:=aU h9
 refine mrn ?_
 obtain⟨bm,al,h⟩:=bind_some h
 replace al:=(qc al).symm
 refine man (msq ?_)
 refine mcv I j M.bD.en bm λeu f16=> ?_
 clear al
 refine mrn ?_
 refine man (msq ?_)
 obtain⟨ev,bn,h⟩:=bind_some h
 obtain⟨ey,bo,h⟩:=bind_some h
 obtain⟨ez,fa,fc⟩:=aU bo
 refine FK (Js.1 _ _ bn) ?_
 obtain⟨bq,ao,h⟩:=bind_some h
 replace ao:=(qc ao).symm
 refine man (msq ?_)
 refine mcv (i64.wrap (I+1)) j M.bD.en bq λfe f31=> ?_
 clear ao
 refine mrn ?_
 refine man (msq ?_)
 obtain⟨ff,br,h⟩:=bind_some h
 obtain⟨fg,bt,h⟩:=bind_some h
 obtain⟨fh,fj,fk⟩:=aU bt
 refine FK (Js.1 _ _ br) ?_
 obtain⟨bu,aq,h⟩:=bind_some h
 replace aq:=(qc aq).symm
 refine man (msq ?_)
 refine mcv (i64.wrap ((i64.wrap (I+1))+1)) j M.bD.en bu λfm f46=> ?_
 clear aq
 refine mrn ?_
 refine man (msq ?_)
 obtain⟨fo,bw,h⟩:=bind_some h
 obtain⟨fq,ft,fw⟩:=aU bw
 refine mrn ?_
 obtain⟨bz,ar,h⟩:=bind_some h
 replace ar:=(qc ar).symm
 refine man (msq ?_)
 refine mcv (i64.wrap ((i64.wrap ((i64.wrap (I+1))+1))+1)) j M.bD.en bz λfy f59=> ?_
 clear ar
 refine mrn ?_
 refine man (msq ?_)
 obtain⟨fz,c5,h⟩:=bind_some h
 obtain⟨ga,gb,gd⟩:=aU c5
 obtain⟨ca,cc,h⟩:=bind_some h
 refine FK (KP _ _ _ cc) ?_
 obtain⟨cd,av,h⟩:=bind_some h
 replace av:=(qc av).symm
 refine man (msq ?_)
 refine mcv ca.2 j M.bD.en cd λgh f74=> ?_
 clear av
 obtain⟨gi,cg,h⟩:=bind_some h
 obtain⟨gj,gk,gm⟩:=aU cg
 obtain⟨bj,cj,h⟩:=bind_some h
 refine FK (Lr _ _ _ cj) ?_
 obtain⟨ck,aw,h⟩:=bind_some h
 replace aw:=(qc aw).symm
 refine man (msq ?_)
 refine mcv bj.2 j M.bD.en ck λgn f89=> ?_
 clear aw
 obtain⟨gp,cn,h⟩:=bind_some h
 obtain⟨gq,gr,gu⟩:=aU cn
 refine mrn ?_
 obtain⟨cq,J,h⟩:=bind_some h
 replace J:=(qc J).symm
 refine man (msq ?_)
 refine mcv bj.2 j M.bD.en cq λcr f102=> ?_
 clear J
 refine mrn ?_
 refine man (msq ?_)
 obtain⟨cw,ax,h⟩:=bind_some h
 obtain⟨cy,cz,da⟩:=aU ax
 obtain⟨C,ay,h⟩:=bind_some h
 refine FK (Np _ _ _ ay) ?_
 obtain⟨az,U,h⟩:=bind_some h
 replace U:=(qc U).symm
 refine man (msq ?_)
 refine mcv C.2 j M.bD.en az λdb f117=> ?_
 clear U
 obtain⟨df,ba,h⟩:=bind_some h
 obtain⟨dg,dh,di⟩:=aU ba
 refine mrn ?_
 obtain⟨bd,ah,h⟩:=bind_some h
 replace ah:=(qc ah).symm
 refine man (msq ?_)
 refine mcv C.2 j M.bD.en bd λdj f130=> ?_
 clear ah
 refine mrn ?_
 refine man (msq ?_)
 obtain⟨dm,bf,h⟩:=bind_some h
 obtain⟨dn,dq,du⟩:=aU bf
 refine mrn ?_
 obtain⟨bg,ai,h⟩:=bind_some h
 replace ai:=(qc ai).symm
 refine man (msq ?_)
 refine mcv (i64.wrap (C.2+1)) j M.bD.en bg λdw f143=> ?_
 clear ai
 refine mrn ?_
 refine man (msq ?_)
 obtain⟨dx,bh,h⟩:=bind_some h
 obtain⟨dy,dz,ec⟩:=aU bh
 refine mrn ?_
 obtain⟨ak,aj,h⟩:=bind_some h
 replace aj:=(qc aj).symm
 refine man ?_
 refine mcv (i64.wrap ((i64.wrap (C.2+1))+1)) j M.bD.en ak λef f156=> ?_
 clear aj
 refine mrn ?_
 refine mab (man (mrn ?_))
 exact mbe (i64.wrap ((i64.wrap ((i64.wrap (C.2+1))+1))+1)) (i64.wrap (j+1)) ak h
