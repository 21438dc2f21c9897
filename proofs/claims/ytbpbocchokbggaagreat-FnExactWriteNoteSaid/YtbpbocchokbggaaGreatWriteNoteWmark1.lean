/-
  Helper text. No conditions.
-/
import Derived.Test.YtbpbocchokbggaaGreatWriteNoteWmark0
set_option linter.all false
namespace Go.Proofs.YtbpbocchokbggaaGreat.gen
open Go Go.Sh
open Go.IntKind (i64)
set_option maxRecDepth 20000
set_option maxHeartbeats 4000000
theorem HR(p0:List M.aEJ)(p1:Int)(r:(List M.aEJ×Int))(h:xV p0 p1=some r):nM Tryz.prog 216 false ([.sl (List.map M.aEJ.en p0)]) ([.sl (List.map M.aEJ.en r.1)]) p1 r.2:=by
 unfold xV at h
 refine eZ (N:=223) (r:=4) Tryz.func216 rfl rfl rfl jH jG λcx=> ?_
 refine msq (mrn ?_)
 refine man (msq (msq (mrn ?_)))
 refine man (mbk ?_)
 refine mls M.aEJ.en h (λ_ _ _=>rfl) λmL1 s1 I j fc f2 h=> ?_
 simp only[kD]at h
 refine msq (msq (mrn ?_))
 refine man ?_
 rcases Ep (decide (j<(List.length fc:Int)))with b7|b7
 ·replace h:=bQ b7 h;refine mcf (mxt (uU (uT (BA (man (msq (mrn ?_)))))));refine man (mrt ?_);cases h;exact mfi
 replace h:=bR b7 h
 refine mct (msk (man (msq (mbk (msq ?_)))))
 obtain⟨x8,h9,h⟩:=bind_some h
 obtain⟨l9,fe,h⟩:=bind_some h
 obtain⟨la,ld,lf⟩:=aO fe
 refine CT (Ga.1 _ _ h9) ?_
 obtain⟨ff,bl,h⟩:=bind_some h
 replace bl:=(qc bl).symm
 refine man (msq ?_)
 refine mcv I j M.aEJ.en ff λlg f18=> ?_
 clear bl
 refine mrn ?_
 refine man (msq ?_)
 obtain⟨lh,fg,h⟩:=bind_some h
 obtain⟨lj,fh,h⟩:=bind_some h
 obtain⟨lk,ll,lp⟩:=aO fh
 refine CT (Ga.1 _ _ fg) ?_
 obtain⟨fj,bm,h⟩:=bind_some h
 replace bm:=(qc bm).symm
 refine man (msq ?_)
 refine mcv (i64.wrap (I+1)) j M.aEJ.en fj λlq f33=> ?_
 clear bm
 refine mrn ?_
 refine man (msq ?_)
 obtain⟨lr,fk,h⟩:=bind_some h
 obtain⟨lu,fm,h⟩:=bind_some h
 obtain⟨lx,ly,lz⟩:=aO fm
 refine CT (Ga.1 _ _ fk) ?_
 obtain⟨fo,bn,h⟩:=bind_some h
 replace bn:=(qc bn).symm
 refine man (msq ?_)
 refine mcv (i64.wrap ((i64.wrap (I+1))+1)) j M.aEJ.en fo λma f48=> ?_
 clear bn
 refine mrn ?_
 refine man (msq ?_)
 obtain⟨mb,fq,h⟩:=bind_some h
 obtain⟨mc,me,mf⟩:=aO fq
 refine mrn ?_
 obtain⟨ft,bo,h⟩:=bind_some h
 replace bo:=(qc bo).symm
 refine man (msq ?_)
 refine mcv (i64.wrap ((i64.wrap ((i64.wrap (I+1))+1))+1)) j M.aEJ.en ft λmg f61=> ?_
 clear bo
 refine mrn ?_
 refine man (msq ?_)
 obtain⟨mh,fw,h⟩:=bind_some h
 obtain⟨mi,mj,ml⟩:=aO fw
 refine mrn ?_
 obtain⟨fx,bq,h⟩:=bind_some h
 replace bq:=(qc bq).symm
 refine man (msq ?_)
 refine mcv (i64.wrap ((i64.wrap ((i64.wrap ((i64.wrap (I+1))+1))+1))+1)) j M.aEJ.en fx λmn f74=> ?_
 clear bq
 refine mrn ?_
 refine man (msq ?_)
 obtain⟨mo,fy,h⟩:=bind_some h
 obtain⟨mq,mr,mu⟩:=aO fy
 refine mrn ?_
 obtain⟨fz,br,h⟩:=bind_some h
 replace br:=(qc br).symm
 refine man (msq ?_)
 refine mcv (i64.wrap ((i64.wrap ((i64.wrap ((i64.wrap ((i64.wrap (I+1))+1))+1))+1))+1)) j M.aEJ.en fz λmw f87=> ?_
 clear br
 refine mrn ?_
 refine man (msq ?_)
 obtain⟨mx,g9,h⟩:=bind_some h
 obtain⟨my,mz,n7⟩:=aO g9
 obtain⟨bt,ga,h⟩:=bind_some h
 refine CT (Ip _ _ _ ga) ?_
 obtain⟨gb,U,h⟩:=bind_some h
 replace U:=(qc U).symm
 refine man (msq ?_)
 refine mcv bt.2 j M.aEJ.en gb λgd f102=> ?_
 clear U
 obtain⟨gh,bu,h⟩:=bind_some h
 obtain⟨gi,bw,h⟩:=bind_some h
 obtain⟨gj,gk,gm⟩:=aO bw
 refine CT (Ga.1 _ _ bu) ?_
 obtain⟨bz,ah,h⟩:=bind_some h
 replace ah:=(qc ah).symm
 refine man (msq ?_)
 refine mcv bt.2 j M.aEJ.en bz λgn f117=> ?_
 clear ah
 refine mrn ?_
 refine man (msq ?_)
 obtain⟨gp,c5,h⟩:=bind_some h
 obtain⟨gq,gr,gu⟩:=aO c5
 refine mrn ?_
 obtain⟨ca,ai,h⟩:=bind_some h
 replace ai:=(qc ai).symm
 refine man (msq ?_)
 refine mcv (i64.wrap (bt.2+1)) j M.aEJ.en ca λgv f130=> ?_
 clear ai
 refine mrn ?_
 refine man (msq ?_)
 obtain⟨gw,cc,h⟩:=bind_some h
 obtain⟨gx,gy,i0⟩:=aO cc
 obtain⟨cd,cg,h⟩:=bind_some h
 refine CT (II _ _ _ cg) ?_
 obtain⟨cj,aj,h⟩:=bind_some h
 replace aj:=(qc aj).symm
 refine man (msq ?_)
 refine mcv cd.2 j M.aEJ.en cj λi7 f145=> ?_
 clear aj
 obtain⟨i9,ck,h⟩:=bind_some h
 obtain⟨ia,ib,ic⟩:=aO ck
 obtain⟨cn,cq,h⟩:=bind_some h
 refine CT (F6 _ _ _ cq) ?_
 obtain⟨cr,ak,h⟩:=bind_some h
 replace ak:=(qc ak).symm
 refine man (msq ?_)
 refine mcv cn.2 j M.aEJ.en cr λig f160=> ?_
 clear ak
 obtain⟨ij,cw,h⟩:=bind_some h
 obtain⟨ik,il,im⟩:=aO cw
 obtain⟨al,cy,h⟩:=bind_some h
 refine CT (ER _ _ _ cy) ?_
 obtain⟨cz,ao,h⟩:=bind_some h
 replace ao:=(qc ao).symm
 refine man (msq ?_)
 refine mcv al.2 j M.aEJ.en cz λiq f175=> ?_
 clear ao
 obtain⟨ir,da,h⟩:=bind_some h
 obtain⟨iu,iv,iw⟩:=aO da
 refine mrn ?_
 obtain⟨db,aq,h⟩:=bind_some h
 replace aq:=(qc aq).symm
 refine man (msq ?_)
 refine mcv al.2 j M.aEJ.en db λiy f188=> ?_
 clear aq
 refine mrn ?_
 refine man (msq ?_)
 obtain⟨iz,df,h⟩:=bind_some h
 obtain⟨j0,dg,h⟩:=bind_some h
 obtain⟨j3,j4,j5⟩:=aO dg
 refine CT (Ga.1 _ _ df) ?_
 obtain⟨dh,ar,h⟩:=bind_some h
 replace ar:=(qc ar).symm
 refine man (msq ?_)
 refine mcv (i64.wrap (al.2+1)) j M.aEJ.en dh λj6 f203=> ?_
 clear ar
 refine mrn ?_
 refine man (msq ?_)
 obtain⟨j7,di,h⟩:=bind_some h
 obtain⟨j8,j9,ja⟩:=aO di
 obtain⟨J,dj,h⟩:=bind_some h
 refine CT (CW _ _ _ dj) ?_
 obtain⟨dm,av,h⟩:=bind_some h
 replace av:=(qc av).symm
 refine man (msq ?_)
 refine mcv J.2 j M.aEJ.en dm λjb f218=> ?_
 clear av
 obtain⟨jc,dn,h⟩:=bind_some h
 obtain⟨jd,je,jf⟩:=aO dn
 refine mrn ?_
 obtain⟨dq,aw,h⟩:=bind_some h
 replace aw:=(qc aw).symm
 refine man (msq ?_)
 refine mcv J.2 j M.aEJ.en dq λjg f231=> ?_
 clear aw
 refine mrn ?_
 refine man (msq ?_)
 obtain⟨jh,du,h⟩:=bind_some h
 obtain⟨ji,jk,jl⟩:=aO du
 refine mrn ?_
 obtain⟨dw,ax,h⟩:=bind_some h
 replace ax:=(qc ax).symm
 refine man (msq ?_)
 refine mcv (i64.wrap (J.2+1)) j M.aEJ.en dw λjm f244=> ?_
 clear ax
 refine mrn ?_
 refine man (msq ?_)
 obtain⟨jn,dx,h⟩:=bind_some h
 obtain⟨jo,jq,jr⟩:=aO dx
 refine mrn ?_
 obtain⟨dy,ay,h⟩:=bind_some h
 replace ay:=(qc ay).symm
 refine man (msq ?_)
 refine mcv (i64.wrap ((i64.wrap (J.2+1))+1)) j M.aEJ.en dy λjs f257=> ?_
 clear ay
 refine mrn ?_
 refine man (msq ?_)
 obtain⟨jt,dz,h⟩:=bind_some h
 obtain⟨ju,jv,jw⟩:=aO dz
 refine mrn ?_
 obtain⟨ec,az,h⟩:=bind_some h
 replace az:=(qc az).symm
 refine man (msq ?_)
 refine mcv (i64.wrap ((i64.wrap ((i64.wrap (J.2+1))+1))+1)) j M.aEJ.en ec λjx f270=> ?_
 clear az
 refine mrn ?_
 refine man (msq ?_)
 obtain⟨jy,ef,h⟩:=bind_some h
 obtain⟨jz,ka,kb⟩:=aO ef
 obtain⟨C,ek,h⟩:=bind_some h
 refine CT (D6 _ _ _ ek) ?_
 obtain⟨eo,ba,h⟩:=bind_some h
 replace ba:=(qc ba).symm
 refine man (msq ?_)
 refine mcv C.2 j M.aEJ.en eo λkd f285=> ?_
 clear ba
 obtain⟨ke,ep,h⟩:=bind_some h
 obtain⟨kg,ki,kj⟩:=aO ep
 refine mrn ?_
 obtain⟨er,bd,h⟩:=bind_some h
 replace bd:=(qc bd).symm
 refine man (msq ?_)
 refine mcv C.2 j M.aEJ.en er λkm f298=> ?_
 clear bd
 refine mrn ?_
 refine man (msq ?_)
 obtain⟨ko,eu,h⟩:=bind_some h
 obtain⟨kp,kq,kr⟩:=aO eu
 refine mrn ?_
 obtain⟨ev,bf,h⟩:=bind_some h
 replace bf:=(qc bf).symm
 refine man (msq ?_)
 refine mcv (i64.wrap (C.2+1)) j M.aEJ.en ev λks f311=> ?_
 clear bf
 refine mrn ?_
 refine man (msq ?_)
 obtain⟨ku,ey,h⟩:=bind_some h
 obtain⟨kv,kx,ky⟩:=aO ey
 refine mrn ?_
 obtain⟨ez,bg,h⟩:=bind_some h
 replace bg:=(qc bg).symm
 refine man (msq ?_)
 refine mcv (i64.wrap ((i64.wrap (C.2+1))+1)) j M.aEJ.en ez λkz f324=> ?_
 clear bg
 refine mrn ?_
 refine man (msq ?_)
 obtain⟨l0,fa,h⟩:=bind_some h
 obtain⟨l5,l6,l7⟩:=aO fa
 refine mrn ?_
 obtain⟨bj,bh,h⟩:=bind_some h
 replace bh:=(qc bh).symm
 refine man ?_
 refine mcv (i64.wrap ((i64.wrap ((i64.wrap (C.2+1))+1))+1)) j M.aEJ.en bj λl8 f337=> ?_
 clear bh
 refine mrn ?_
 refine mab (man (mrn ?_))
 exact mbe (i64.wrap ((i64.wrap ((i64.wrap ((i64.wrap (C.2+1))+1))+1))+1)) (i64.wrap (j+1)) bj h
theorem HJ(j:M.aD)(C:Int)(r:(List M.aEJ×Int))(h:xU j C=some r):nM Tryz.prog 75 true (M.aD.en j) ([.sl (List.map M.aEJ.en r.1)]) C r.2:=by
 unfold xU at h
 simp only[M.aD.en]
 refine eZ (N:=10) (r:=4) Tryz.func75 rfl rfl rfl jH jG λI=> ?_
 refine msq (mrn ?_)
 refine man (msq ?_)
 obtain⟨x1,h2,h⟩:=bind_some h
 refine CT (HR _ _ _ h2) ?_
 refine man (msq (mrn ?_))
 refine man (mrt ?_)
 cases h
 exact mfi
theorem DU(p0:List M.aK)(p1:Int)(r:(List M.aK×Int))(h:rO p0 p1=some r):nM Tryz.prog 81 false ([.sl (List.map M.aK.en p0)]) ([.sl (List.map M.aK.en r.1)]) p1 r.2:=by
 unfold rO at h
 refine eZ (N:=28) (r:=4) Tryz.func81 rfl rfl rfl jH jG λcx=> ?_
 refine msq (mrn ?_)
 refine man (msq (msq (mrn ?_)))
 refine man (mbk ?_)
 refine mls M.aK.en h (λ_ _ _=>rfl) λmL1 s1 J j ah f2 h=> ?_
 simp only[jX]at h
 refine msq (msq (mrn ?_))
 refine man ?_
 rcases Ep (decide (j<(List.length ah:Int)))with b7|b7
 ·replace h:=bQ b7 h;refine mcf (mxt (uU (uT (BA (man (msq (mrn ?_)))))));refine man (mrt ?_);cases h;exact mfi
 replace h:=bR b7 h
 refine mct (msk (man (msq (mbk (msq ?_)))))
 obtain⟨x8,h9,h⟩:=bind_some h
 obtain⟨al,ai,h⟩:=bind_some h
 obtain⟨ao,aq,ar⟩:=aO ai
 refine CT (Ga.1 _ _ h9) ?_
 obtain⟨aj,C,h⟩:=bind_some h
 replace C:=(qc C).symm
 refine man (msq ?_)
 refine mcv J j M.aK.en aj λav f18=> ?_
 clear C
 refine mrn ?_
 refine man (msq ?_)
 obtain⟨aw,ak,h⟩:=bind_some h
 obtain⟨ax,ay,az⟩:=aO ak
 refine mrn ?_
 obtain⟨U,I,h⟩:=bind_some h
 replace I:=(qc I).symm
 refine man ?_
 refine mcv (i64.wrap (J+1)) j M.aK.en U λba f31=> ?_
 clear I
 refine mrn ?_
 refine mab (man (mrn ?_))
 exact mbe (i64.wrap ((i64.wrap (J+1))+1)) (i64.wrap (j+1)) U h
theorem D7(p0:List M.Instr)(p1:Int)(r:(List M.Instr×Int))(h:tZ p0 p1=some r):nM Tryz.prog 218 false ([.sl (List.map M.Instr.en p0)]) ([.sl (List.map M.Instr.en r.1)]) p1 r.2:=by
 unfold tZ at h
 refine eZ (N:=42) (r:=4) Tryz.func218 rfl rfl rfl jH jG λcx=> ?_
 refine msq (mrn ?_)
 refine man (msq (msq (mrn ?_)))
 refine man (mbk ?_)
 refine mls M.Instr.en h (λ_ _ _=>rfl) λmL1 s1 C j aj f2 h=> ?_
 simp only[kQ]at h
 refine msq (msq (mrn ?_))
 refine man ?_
 rcases Ep (decide (j<(List.length aj:Int)))with b7|b7
 ·replace h:=bQ b7 h;refine mcf (mxt (uU (uT (BA (man (msq (mrn ?_)))))));refine man (mrt ?_);cases h;exact mfi
 replace h:=bR b7 h
 refine mct (msk (man (msq (mbk (msq ?_)))))
 obtain⟨x8,h9,h⟩:=bind_some h
 obtain⟨ax,ay,az⟩:=aO h9
 refine mrn ?_
 obtain⟨ak,I,h⟩:=bind_some h
 replace I:=(qc I).symm
 refine man (msq ?_)
 refine mcv C j M.Instr.en ak λba f16=> ?_
 clear I
 refine mrn ?_
 refine man (msq ?_)
 obtain⟨bd,al,h⟩:=bind_some h
 obtain⟨bf,bg,bh⟩:=aO al
 refine mrn ?_
 obtain⟨ao,J,h⟩:=bind_some h
 replace J:=(qc J).symm
 refine man (msq ?_)
 refine mcv (i64.wrap (C+1)) j M.Instr.en ao λbj f29=> ?_
 clear J
 refine mrn ?_
 refine man (msq ?_)
 obtain⟨bl,aq,h⟩:=bind_some h
 obtain⟨bm,bn,bo⟩:=aO aq
 refine mrn ?_
 obtain⟨ar,U,h⟩:=bind_some h
 replace U:=(qc U).symm
 refine man (msq ?_)
 refine mcv (i64.wrap ((i64.wrap (C+1))+1)) j M.Instr.en ar λbq f42=> ?_
 clear U
 refine mrn ?_
 refine man (msq ?_)
 obtain⟨br,av,h⟩:=bind_some h
 obtain⟨bt,aw,h⟩:=bind_some h
 obtain⟨bu,bw,bz⟩:=aO aw
 refine CT (Ga.1 _ _ av) ?_
 obtain⟨ai,ah,h⟩:=bind_some h
 replace ah:=(qc ah).symm
 refine man ?_
 refine mcv (i64.wrap ((i64.wrap ((i64.wrap (C+1))+1))+1)) j M.Instr.en ai λc5 f57=> ?_
 clear ah
 refine mrn ?_
 refine mab (man (mrn ?_))
 exact mbe (i64.wrap ((i64.wrap ((i64.wrap ((i64.wrap (C+1))+1))+1))+1)) (i64.wrap (j+1)) ai h
theorem Ff(J:List Int)(U:Int)(r:(List Int×Int))(h:tN J U=some r):nM Tryz.prog 219 false ([.sl (List.map enI J)]) ([.sl (List.map enI r.1)]) U r.2:=by
 unfold tN at h
 refine eZ (N:=19) (r:=4) Tryz.func219 rfl rfl rfl jH jG λcx=> ?_
 refine msq (mrn ?_)
 refine man (msq (msq (mrn ?_)))
 refine man (mbk ?_)
 refine mls enI h (λ_ _ _=>rfl) λmL1 s1 v1 C af f2 h=> ?_
 simp only[hP]at h
 refine msq (msq (mrn ?_))
 refine man ?_
 rcases Ep (decide (C<(List.length af:Int)))with b7|b7
 ·replace h:=bQ b7 h;refine mcf (mxt (uU (uT (BA (man (msq (mrn ?_)))))));refine man (mrt ?_);cases h;exact mfi
 replace h:=bR b7 h
 refine mct (msk (man (msq (mbk (msq ?_)))))
 obtain⟨x8,h9,h⟩:=bind_some h
 obtain⟨ah,ai,aj⟩:=aO h9
 refine mrn ?_
 obtain⟨I,j,h⟩:=bind_some h
 replace j:=(qc j).symm
 refine man ?_
 refine mcv v1 C enI I λak f16=> ?_
 clear j
 refine mrn ?_
 refine mab (man (mrn ?_))
 exact mbe (i64.wrap (v1+1)) (i64.wrap (C+1)) I h
theorem Jl(p0:List M.bS)(p1:Int)(r:(List M.bS×Int))(h:AJ p0 p1=some r):nM Tryz.prog 76 false ([.sl (List.map M.bS.en p0)]) ([.sl (List.map M.bS.en r.1)]) p1 r.2:=by
 unfold AJ at h
 refine eZ (N:=102) (r:=4) Tryz.func76 rfl rfl rfl jH jG λcx=> ?_
 refine msq (mrn ?_)
 refine man (msq (msq (mrn ?_)))
 refine man (mbk ?_)
 refine mls M.bS.en h (λ_ _ _=>rfl) λmL1 s1 I j bl f2 h=> ?_
 simp only[lN]at h
 refine msq (msq (mrn ?_))
 refine man ?_
 rcases Ep (decide (j<(List.length bl:Int)))with b7|b7
 ·replace h:=bQ b7 h;refine mcf (mxt (uU (uT (BA (man (msq (mrn ?_)))))));refine man (mrt ?_);cases h;exact mfi
 replace h:=bR b7 h
 refine mct (msk (man (msq (mbk (msq ?_)))))
 obtain⟨x8,h9,h⟩:=bind_some h
 obtain⟨ek,eo,ep⟩:=aO h9
 refine mrn ?_
 obtain⟨bm,al,h⟩:=bind_some h
 replace al:=(qc al).symm
 refine man (msq ?_)
 refine mcv I j M.bS.en bm λer f16=> ?_
 clear al
 refine mrn ?_
 refine man (msq ?_)
 obtain⟨eu,bn,h⟩:=bind_some h
 obtain⟨ev,bo,h⟩:=bind_some h
 obtain⟨ey,ez,fa⟩:=aO bo
 refine CT (Ga.1 _ _ bn) ?_
 obtain⟨bq,ao,h⟩:=bind_some h
 replace ao:=(qc ao).symm
 refine man (msq ?_)
 refine mcv (i64.wrap (I+1)) j M.bS.en bq λfc f31=> ?_
 clear ao
 refine mrn ?_
 refine man (msq ?_)
 obtain⟨fe,br,h⟩:=bind_some h
 obtain⟨ff,bt,h⟩:=bind_some h
 obtain⟨fg,fh,fj⟩:=aO bt
 refine CT (Ga.1 _ _ br) ?_
 obtain⟨bu,aq,h⟩:=bind_some h
 replace aq:=(qc aq).symm
 refine man (msq ?_)
 refine mcv (i64.wrap ((i64.wrap (I+1))+1)) j M.bS.en bu λfk f46=> ?_
 clear aq
 refine mrn ?_
 refine man (msq ?_)
 obtain⟨fm,bw,h⟩:=bind_some h
 obtain⟨fo,fq,ft⟩:=aO bw
 refine mrn ?_
 obtain⟨bz,ar,h⟩:=bind_some h
 replace ar:=(qc ar).symm
 refine man (msq ?_)
 refine mcv (i64.wrap ((i64.wrap ((i64.wrap (I+1))+1))+1)) j M.bS.en bz λfw f59=> ?_
 clear ar
 refine mrn ?_
 refine man (msq ?_)
 obtain⟨fx,c5,h⟩:=bind_some h
 obtain⟨fy,fz,g9⟩:=aO c5
 obtain⟨ca,cc,h⟩:=bind_some h
 refine CT (DU _ _ _ cc) ?_
 obtain⟨cd,av,h⟩:=bind_some h
 replace av:=(qc av).symm
 refine man (msq ?_)
 refine mcv ca.2 j M.bS.en cd λga f74=> ?_
 clear av
 obtain⟨gb,cg,h⟩:=bind_some h
 obtain⟨gd,gh,gi⟩:=aO cg
 obtain⟨bj,cj,h⟩:=bind_some h
 refine CT (D7 _ _ _ cj) ?_
 obtain⟨ck,aw,h⟩:=bind_some h
 replace aw:=(qc aw).symm
 refine man (msq ?_)
 refine mcv bj.2 j M.bS.en ck λgj f89=> ?_
 clear aw
 obtain⟨gk,cn,h⟩:=bind_some h
 obtain⟨gm,gn,gp⟩:=aO cn
 refine mrn ?_
 obtain⟨cq,J,h⟩:=bind_some h
 replace J:=(qc J).symm
 refine man (msq ?_)
 refine mcv bj.2 j M.bS.en cq λcr f102=> ?_
 clear J
 refine mrn ?_
 refine man (msq ?_)
 obtain⟨cw,ax,h⟩:=bind_some h
 obtain⟨cy,cz,da⟩:=aO ax
 obtain⟨C,ay,h⟩:=bind_some h
 refine CT (Ff _ _ _ ay) ?_
 obtain⟨az,U,h⟩:=bind_some h
 replace U:=(qc U).symm
 refine man (msq ?_)
 refine mcv C.2 j M.bS.en az λdb f117=> ?_
 clear U
 obtain⟨df,ba,h⟩:=bind_some h
 obtain⟨dg,dh,di⟩:=aO ba
 refine mrn ?_
 obtain⟨bd,ah,h⟩:=bind_some h
 replace ah:=(qc ah).symm
 refine man (msq ?_)
 refine mcv C.2 j M.bS.en bd λdj f130=> ?_
 clear ah
 refine mrn ?_
 refine man (msq ?_)
 obtain⟨dm,bf,h⟩:=bind_some h
 obtain⟨dn,dq,du⟩:=aO bf
 refine mrn ?_
 obtain⟨bg,ai,h⟩:=bind_some h
 replace ai:=(qc ai).symm
 refine man (msq ?_)
 refine mcv (i64.wrap (C.2+1)) j M.bS.en bg λdw f143=> ?_
 clear ai
 refine mrn ?_
 refine man (msq ?_)
 obtain⟨dx,bh,h⟩:=bind_some h
 obtain⟨dy,dz,ec⟩:=aO bh
 refine mrn ?_
 obtain⟨ak,aj,h⟩:=bind_some h
 replace aj:=(qc aj).symm
 refine man ?_
 refine mcv (i64.wrap ((i64.wrap (C.2+1))+1)) j M.bS.en ak λef f156=> ?_
 clear aj
 refine mrn ?_
 refine mab (man (mrn ?_))
 exact mbe (i64.wrap ((i64.wrap ((i64.wrap (C.2+1))+1))+1)) (i64.wrap (j+1)) ak h
