/-
  Helper text. No conditions.
-/
import Derived.Test.YtidhkhdnjonjfaaGreatUpdateWorkerTi
import Derived.Test.YtidhkhdnjonjfaaGreatUpdateWorkerWmark0
set_option linter.unusedVariables false
set_option linter.unusedSimpArgs false
namespace Go.Proofs.YtidhkhdnjonjfaaGreat.gen
open Go Go.Sh
open Go.IntKind (i64)
set_option maxRecDepth 20000
set_option maxHeartbeats 4000000
set_option maxHeartbeats 4000000 in
theorem aGi (p0:List M.Bucket) (p1:Int) (r:(List M.Bucket×Int)) (h:rX p0 p1=some r):oT Tryz.prog 240 false ([.sl (List.map M.Bucket.en p0)]) ([.sl (List.map M.Bucket.en r.1)]) p1 r.2:=by
 unfold rX at h
 refine gU (N:=223) (r:=4) Tryz.func240 rfl rfl rfl (by decide +kernel) (by decide) fun cx => ?_
 refine msq (mrn ?_)
 refine man (msq (msq (mrn ?_)))
 refine man (mbk ?_)
 refine vH (fun m s=>∃v1:Int,∃v5:Int,∃r99:List M.Bucket,s.t 0 = .unk∧s.m 0=some (.top 0)∧s.t 1 = .v false [.dat (.int .i64 v1)]∧s.t 5 = .v false [.dat (.int .i64 v5)]∧s.ds=[.sl (List.map M.Bucket.en r99)]∧cY m v1 v5 r99=some r) fuel ?_ ?_
 ·refine ⟨p1,0,p0,?_,?_,?_,?_,?_,h⟩
  all_goals simp +decide only [MF,F,reduceIte,Nat.reduceAdd,qB,qC,EN, *,-h]
 rintro mL1 s1 ⟨v1,v5,r99,f2,f3,f4,f5,f6,h⟩
 rcases mL1 with _ | mL1
 ·exact absurd h (by simp [cY])
 simp only [cY] at h
 refine msq (msq (mrn ?_))
 refine man ?_
 rcases aEL (decide (v5<(List.length r99:Int))) with b7 | b7
 ·replace h:=bR b7 h
  refine mcf (mxt (vE (vD (aBk (man (msq (mrn ?_)))))))
  refine man (mrt ?_)
  cases h
  refine ⟨?_,?_⟩<;>(try simp +decide only [MF,F,ME,reduceIte,Nat.reduceAdd,EN, *])
 replace h:=bT b7 h
 refine mct (msk (man (msq (mbk (msq ?_)))))
 obtain ⟨x8,h9,h⟩:=bind_some h
 obtain ⟨x10,h11,h⟩:=bind_some h
 obtain ⟨q12,q13,q14⟩:=aT h11
 refine aC6 (aFW _ _ h9) ?_
 obtain ⟨y15,e16,h⟩:=bind_some h
 replace e16:=(Option.some.inj e16).symm
 refine man (msq ?_)
 refine mcu (fun s=>s.t 0 = .unk∧s.m 0=some (.top 0)∧s.t 1 = .v false [.dat (.int .i64 v1)]∧s.t 5 = .v false [.dat (.int .i64 v5)]∧s.ds=[.sl (List.map M.Bucket.en y15)]∧True) ?_
 rintro s17 ⟨f18,f19,f20,f21,f22,_⟩
 clear e16
 refine mrn ?_
 refine man (msq ?_)
 obtain ⟨x23,h24,h⟩:=bind_some h
 obtain ⟨x25,h26,h⟩:=bind_some h
 obtain ⟨q27,q28,q29⟩:=aT h26
 refine aC6 (aFW _ _ h24) ?_
 obtain ⟨y30,e31,h⟩:=bind_some h
 replace e31:=(Option.some.inj e31).symm
 refine man (msq ?_)
 refine mcu (fun s=>s.t 0 = .unk∧s.m 0=some (.top 0)∧s.t 1 = .v false [.dat (.int .i64 (i64.wrap (v1+1)))]∧s.t 5 = .v false [.dat (.int .i64 v5)]∧s.ds=[.sl (List.map M.Bucket.en y30)]∧True) ?_
 rintro s32 ⟨f33,f34,f35,f36,f37,_⟩
 clear e31
 refine mrn ?_
 refine man (msq ?_)
 obtain ⟨x38,h39,h⟩:=bind_some h
 obtain ⟨x40,h41,h⟩:=bind_some h
 obtain ⟨q42,q43,q44⟩:=aT h41
 refine aC6 (aFW _ _ h39) ?_
 obtain ⟨y45,e46,h⟩:=bind_some h
 replace e46:=(Option.some.inj e46).symm
 refine man (msq ?_)
 refine mcu (fun s=>s.t 0 = .unk∧s.m 0=some (.top 0)∧s.t 1 = .v false [.dat (.int .i64 (i64.wrap ((i64.wrap (v1+1))+1)))]∧s.t 5 = .v false [.dat (.int .i64 v5)]∧s.ds=[.sl (List.map M.Bucket.en y45)]∧True) ?_
 rintro s47 ⟨f48,f49,f50,f51,f52,_⟩
 clear e46
 refine mrn ?_
 refine man (msq ?_)
 obtain ⟨x53,h54,h⟩:=bind_some h
 obtain ⟨q55,q56,q57⟩:=aT h54
 refine mrn ?_
 obtain ⟨y58,e59,h⟩:=bind_some h
 replace e59:=(Option.some.inj e59).symm
 refine man (msq ?_)
 refine mcu (fun s=>s.t 0 = .unk∧s.m 0=some (.top 0)∧s.t 1 = .v false [.dat (.int .i64 (i64.wrap ((i64.wrap ((i64.wrap (v1+1))+1))+1)))]∧s.t 5 = .v false [.dat (.int .i64 v5)]∧s.ds=[.sl (List.map M.Bucket.en y58)]∧True) ?_
 rintro s60 ⟨f61,f62,f63,f64,f65,_⟩
 clear e59
 refine mrn ?_
 refine man (msq ?_)
 obtain ⟨x66,h67,h⟩:=bind_some h
 obtain ⟨q68,q69,q70⟩:=aT h67
 refine mrn ?_
 obtain ⟨y71,e72,h⟩:=bind_some h
 replace e72:=(Option.some.inj e72).symm
 refine man (msq ?_)
 refine mcu (fun s=>s.t 0 = .unk∧s.m 0=some (.top 0)∧s.t 1 = .v false [.dat (.int .i64 (i64.wrap ((i64.wrap ((i64.wrap ((i64.wrap (v1+1))+1))+1))+1)))]∧s.t 5 = .v false [.dat (.int .i64 v5)]∧s.ds=[.sl (List.map M.Bucket.en y71)]∧True) ?_
 rintro s73 ⟨f74,f75,f76,f77,f78,_⟩
 clear e72
 refine mrn ?_
 refine man (msq ?_)
 obtain ⟨x79,h80,h⟩:=bind_some h
 obtain ⟨q81,q82,q83⟩:=aT h80
 refine mrn ?_
 obtain ⟨y84,e85,h⟩:=bind_some h
 replace e85:=(Option.some.inj e85).symm
 refine man (msq ?_)
 refine mcu (fun s=>s.t 0 = .unk∧s.m 0=some (.top 0)∧s.t 1 = .v false [.dat (.int .i64 (i64.wrap ((i64.wrap ((i64.wrap ((i64.wrap ((i64.wrap (v1+1))+1))+1))+1))+1)))]∧s.t 5 = .v false [.dat (.int .i64 v5)]∧s.ds=[.sl (List.map M.Bucket.en y84)]∧True) ?_
 rintro s86 ⟨f87,f88,f89,f90,f91,_⟩
 clear e85
 refine mrn ?_
 refine man (msq ?_)
 obtain ⟨x92,h93,h⟩:=bind_some h
 obtain ⟨q94,q95,q96⟩:=aT h93
 obtain ⟨x97,h98,h⟩:=bind_some h
 refine aC6 (aHE _ _ _ h98) ?_
 obtain ⟨y99,e100,h⟩:=bind_some h
 replace e100:=(Option.some.inj e100).symm
 refine man (msq ?_)
 refine mcu (fun s=>s.t 0 = .unk∧s.m 0=some (.top 0)∧s.t 1 = .v false [.dat (.int .i64 x97.2)]∧s.t 5 = .v false [.dat (.int .i64 v5)]∧s.ds=[.sl (List.map M.Bucket.en y99)]∧True) ?_
 rintro s101 ⟨f102,f103,f104,f105,f106,_⟩
 clear e100
 obtain ⟨x107,h108,h⟩:=bind_some h
 obtain ⟨x109,h110,h⟩:=bind_some h
 obtain ⟨q111,q112,q113⟩:=aT h110
 refine aC6 (aFW _ _ h108) ?_
 obtain ⟨y114,e115,h⟩:=bind_some h
 replace e115:=(Option.some.inj e115).symm
 refine man (msq ?_)
 refine mcu (fun s=>s.t 0 = .unk∧s.m 0=some (.top 0)∧s.t 1 = .v false [.dat (.int .i64 x97.2)]∧s.t 5 = .v false [.dat (.int .i64 v5)]∧s.ds=[.sl (List.map M.Bucket.en y114)]∧True) ?_
 rintro s116 ⟨f117,f118,f119,f120,f121,_⟩
 clear e115
 refine mrn ?_
 refine man (msq ?_)
 obtain ⟨x122,h123,h⟩:=bind_some h
 obtain ⟨q124,q125,q126⟩:=aT h123
 refine mrn ?_
 obtain ⟨y127,e128,h⟩:=bind_some h
 replace e128:=(Option.some.inj e128).symm
 refine man (msq ?_)
 refine mcu (fun s=>s.t 0 = .unk∧s.m 0=some (.top 0)∧s.t 1 = .v false [.dat (.int .i64 (i64.wrap (x97.2+1)))]∧s.t 5 = .v false [.dat (.int .i64 v5)]∧s.ds=[.sl (List.map M.Bucket.en y127)]∧True) ?_
 rintro s129 ⟨f130,f131,f132,f133,f134,_⟩
 clear e128
 refine mrn ?_
 refine man (msq ?_)
 obtain ⟨x135,h136,h⟩:=bind_some h
 obtain ⟨q137,q138,q139⟩:=aT h136
 obtain ⟨x140,h141,h⟩:=bind_some h
 refine aC6 (aHX _ _ _ h141) ?_
 obtain ⟨y142,e143,h⟩:=bind_some h
 replace e143:=(Option.some.inj e143).symm
 refine man (msq ?_)
 refine mcu (fun s=>s.t 0 = .unk∧s.m 0=some (.top 0)∧s.t 1 = .v false [.dat (.int .i64 x140.2)]∧s.t 5 = .v false [.dat (.int .i64 v5)]∧s.ds=[.sl (List.map M.Bucket.en y142)]∧True) ?_
 rintro s144 ⟨f145,f146,f147,f148,f149,_⟩
 clear e143
 obtain ⟨x150,h151,h⟩:=bind_some h
 obtain ⟨q152,q153,q154⟩:=aT h151
 obtain ⟨x155,h156,h⟩:=bind_some h
 refine aC6 (aFI _ _ _ h156) ?_
 obtain ⟨y157,e158,h⟩:=bind_some h
 replace e158:=(Option.some.inj e158).symm
 refine man (msq ?_)
 refine mcu (fun s=>s.t 0 = .unk∧s.m 0=some (.top 0)∧s.t 1 = .v false [.dat (.int .i64 x155.2)]∧s.t 5 = .v false [.dat (.int .i64 v5)]∧s.ds=[.sl (List.map M.Bucket.en y157)]∧True) ?_
 rintro s159 ⟨f160,f161,f162,f163,f164,_⟩
 clear e158
 obtain ⟨x165,h166,h⟩:=bind_some h
 obtain ⟨q167,q168,q169⟩:=aT h166
 obtain ⟨x170,h171,h⟩:=bind_some h
 refine aC6 (aEQ _ _ _ h171) ?_
 obtain ⟨y172,e173,h⟩:=bind_some h
 replace e173:=(Option.some.inj e173).symm
 refine man (msq ?_)
 refine mcu (fun s=>s.t 0 = .unk∧s.m 0=some (.top 0)∧s.t 1 = .v false [.dat (.int .i64 x170.2)]∧s.t 5 = .v false [.dat (.int .i64 v5)]∧s.ds=[.sl (List.map M.Bucket.en y172)]∧True) ?_
 rintro s174 ⟨f175,f176,f177,f178,f179,_⟩
 clear e173
 obtain ⟨x180,h181,h⟩:=bind_some h
 obtain ⟨q182,q183,q184⟩:=aT h181
 refine mrn ?_
 obtain ⟨y185,e186,h⟩:=bind_some h
 replace e186:=(Option.some.inj e186).symm
 refine man (msq ?_)
 refine mcu (fun s=>s.t 0 = .unk∧s.m 0=some (.top 0)∧s.t 1 = .v false [.dat (.int .i64 x170.2)]∧s.t 5 = .v false [.dat (.int .i64 v5)]∧s.ds=[.sl (List.map M.Bucket.en y185)]∧True) ?_
 rintro s187 ⟨f188,f189,f190,f191,f192,_⟩
 clear e186
 refine mrn ?_
 refine man (msq ?_)
 obtain ⟨x193,h194,h⟩:=bind_some h
 obtain ⟨x195,h196,h⟩:=bind_some h
 obtain ⟨q197,q198,q199⟩:=aT h196
 refine aC6 (aFW _ _ h194) ?_
 obtain ⟨y200,e201,h⟩:=bind_some h
 replace e201:=(Option.some.inj e201).symm
 refine man (msq ?_)
 refine mcu (fun s=>s.t 0 = .unk∧s.m 0=some (.top 0)∧s.t 1 = .v false [.dat (.int .i64 (i64.wrap (x170.2+1)))]∧s.t 5 = .v false [.dat (.int .i64 v5)]∧s.ds=[.sl (List.map M.Bucket.en y200)]∧True) ?_
 rintro s202 ⟨f203,f204,f205,f206,f207,_⟩
 clear e201
 refine mrn ?_
 refine man (msq ?_)
 obtain ⟨x208,h209,h⟩:=bind_some h
 obtain ⟨q210,q211,q212⟩:=aT h209
 obtain ⟨x213,h214,h⟩:=bind_some h
 refine aC6 (aCn _ _ _ h214) ?_
 obtain ⟨y215,e216,h⟩:=bind_some h
 replace e216:=(Option.some.inj e216).symm
 refine man (msq ?_)
 refine mcu (fun s=>s.t 0 = .unk∧s.m 0=some (.top 0)∧s.t 1 = .v false [.dat (.int .i64 x213.2)]∧s.t 5 = .v false [.dat (.int .i64 v5)]∧s.ds=[.sl (List.map M.Bucket.en y215)]∧True) ?_
 rintro s217 ⟨f218,f219,f220,f221,f222,_⟩
 clear e216
 obtain ⟨x223,h224,h⟩:=bind_some h
 obtain ⟨q225,q226,q227⟩:=aT h224
 refine mrn ?_
 obtain ⟨y228,e229,h⟩:=bind_some h
 replace e229:=(Option.some.inj e229).symm
 refine man (msq ?_)
 refine mcu (fun s=>s.t 0 = .unk∧s.m 0=some (.top 0)∧s.t 1 = .v false [.dat (.int .i64 x213.2)]∧s.t 5 = .v false [.dat (.int .i64 v5)]∧s.ds=[.sl (List.map M.Bucket.en y228)]∧True) ?_
 rintro s230 ⟨f231,f232,f233,f234,f235,_⟩
 clear e229
 refine mrn ?_
 refine man (msq ?_)
 obtain ⟨x236,h237,h⟩:=bind_some h
 obtain ⟨q238,q239,q240⟩:=aT h237
 refine mrn ?_
 obtain ⟨y241,e242,h⟩:=bind_some h
 replace e242:=(Option.some.inj e242).symm
 refine man (msq ?_)
 refine mcu (fun s=>s.t 0 = .unk∧s.m 0=some (.top 0)∧s.t 1 = .v false [.dat (.int .i64 (i64.wrap (x213.2+1)))]∧s.t 5 = .v false [.dat (.int .i64 v5)]∧s.ds=[.sl (List.map M.Bucket.en y241)]∧True) ?_
 rintro s243 ⟨f244,f245,f246,f247,f248,_⟩
 clear e242
 refine mrn ?_
 refine man (msq ?_)
 obtain ⟨x249,h250,h⟩:=bind_some h
 obtain ⟨q251,q252,q253⟩:=aT h250
 refine mrn ?_
 obtain ⟨y254,e255,h⟩:=bind_some h
 replace e255:=(Option.some.inj e255).symm
 refine man (msq ?_)
 refine mcu (fun s=>s.t 0 = .unk∧s.m 0=some (.top 0)∧s.t 1 = .v false [.dat (.int .i64 (i64.wrap ((i64.wrap (x213.2+1))+1)))]∧s.t 5 = .v false [.dat (.int .i64 v5)]∧s.ds=[.sl (List.map M.Bucket.en y254)]∧True) ?_
 rintro s256 ⟨f257,f258,f259,f260,f261,_⟩
 clear e255
 refine mrn ?_
 refine man (msq ?_)
 obtain ⟨x262,h263,h⟩:=bind_some h
 obtain ⟨q264,q265,q266⟩:=aT h263
 refine mrn ?_
 obtain ⟨y267,e268,h⟩:=bind_some h
 replace e268:=(Option.some.inj e268).symm
 refine man (msq ?_)
 refine mcu (fun s=>s.t 0 = .unk∧s.m 0=some (.top 0)∧s.t 1 = .v false [.dat (.int .i64 (i64.wrap ((i64.wrap ((i64.wrap (x213.2+1))+1))+1)))]∧s.t 5 = .v false [.dat (.int .i64 v5)]∧s.ds=[.sl (List.map M.Bucket.en y267)]∧True) ?_
 rintro s269 ⟨f270,f271,f272,f273,f274,_⟩
 clear e268
 refine mrn ?_
 refine man (msq ?_)
 obtain ⟨x275,h276,h⟩:=bind_some h
 obtain ⟨q277,q278,q279⟩:=aT h276
 obtain ⟨x280,h281,h⟩:=bind_some h
 refine aC6 (aDn _ _ _ h281) ?_
 obtain ⟨y282,e283,h⟩:=bind_some h
 replace e283:=(Option.some.inj e283).symm
 refine man (msq ?_)
 refine mcu (fun s=>s.t 0 = .unk∧s.m 0=some (.top 0)∧s.t 1 = .v false [.dat (.int .i64 x280.2)]∧s.t 5 = .v false [.dat (.int .i64 v5)]∧s.ds=[.sl (List.map M.Bucket.en y282)]∧True) ?_
 rintro s284 ⟨f285,f286,f287,f288,f289,_⟩
 clear e283
 obtain ⟨x290,h291,h⟩:=bind_some h
 obtain ⟨q292,q293,q294⟩:=aT h291
 refine mrn ?_
 obtain ⟨y295,e296,h⟩:=bind_some h
 replace e296:=(Option.some.inj e296).symm
 refine man (msq ?_)
 refine mcu (fun s=>s.t 0 = .unk∧s.m 0=some (.top 0)∧s.t 1 = .v false [.dat (.int .i64 x280.2)]∧s.t 5 = .v false [.dat (.int .i64 v5)]∧s.ds=[.sl (List.map M.Bucket.en y295)]∧True) ?_
 rintro s297 ⟨f298,f299,f300,f301,f302,_⟩
 clear e296
 refine mrn ?_
 refine man (msq ?_)
 obtain ⟨x303,h304,h⟩:=bind_some h
 obtain ⟨q305,q306,q307⟩:=aT h304
 refine mrn ?_
 obtain ⟨y308,e309,h⟩:=bind_some h
 replace e309:=(Option.some.inj e309).symm
 refine man (msq ?_)
 refine mcu (fun s=>s.t 0 = .unk∧s.m 0=some (.top 0)∧s.t 1 = .v false [.dat (.int .i64 (i64.wrap (x280.2+1)))]∧s.t 5 = .v false [.dat (.int .i64 v5)]∧s.ds=[.sl (List.map M.Bucket.en y308)]∧True) ?_
 rintro s310 ⟨f311,f312,f313,f314,f315,_⟩
 clear e309
 refine mrn ?_
 refine man (msq ?_)
 obtain ⟨x316,h317,h⟩:=bind_some h
 obtain ⟨q318,q319,q320⟩:=aT h317
 refine mrn ?_
 obtain ⟨y321,e322,h⟩:=bind_some h
 replace e322:=(Option.some.inj e322).symm
 refine man (msq ?_)
 refine mcu (fun s=>s.t 0 = .unk∧s.m 0=some (.top 0)∧s.t 1 = .v false [.dat (.int .i64 (i64.wrap ((i64.wrap (x280.2+1))+1)))]∧s.t 5 = .v false [.dat (.int .i64 v5)]∧s.ds=[.sl (List.map M.Bucket.en y321)]∧True) ?_
 rintro s323 ⟨f324,f325,f326,f327,f328,_⟩
 clear e322
 refine mrn ?_
 refine man (msq ?_)
 obtain ⟨x329,h330,h⟩:=bind_some h
 obtain ⟨q331,q332,q333⟩:=aT h330
 refine mrn ?_
 obtain ⟨y334,e335,h⟩:=bind_some h
 replace e335:=(Option.some.inj e335).symm
 refine man ?_
 refine mcu (fun s=>s.t 0 = .unk∧s.m 0=some (.top 0)∧s.t 1 = .v false [.dat (.int .i64 (i64.wrap ((i64.wrap ((i64.wrap (x280.2+1))+1))+1)))]∧s.t 5 = .v false [.dat (.int .i64 v5)]∧s.ds=[.sl (List.map M.Bucket.en y334)]∧True) ?_
 rintro s336 ⟨f337,f338,f339,f340,f341,_⟩
 clear e335
 refine mrn ?_
 refine mab (man (mrn ?_))
 refine aB0 ⟨mL1,by omega,(i64.wrap ((i64.wrap ((i64.wrap ((i64.wrap (x280.2+1))+1))+1))+1)),(i64.wrap (v5+1)),y334,?_,?_,?_,?_,?_,h⟩
 all_goals simp +decide only [MF,F,reduceIte,Nat.reduceAdd,qB,qC,EN, *,-h]
set_option maxHeartbeats 4000000 in
theorem aGa (p0:M.aC) (p1:Int) (r:(List M.Bucket×Int)) (h:yR p0 p1=some r):oT Tryz.prog 112 true (M.aC.en p0) ([.sl (List.map M.Bucket.en r.1)]) p1 r.2:=by
 unfold yR at h
 simp only [M.aC.en]
 refine gU (N:=10) (r:=4) Tryz.func112 rfl rfl rfl (by decide +kernel) (by decide) fun cx => ?_
 refine msq (mrn ?_)
 refine man (msq ?_)
 obtain ⟨x1,h2,h⟩:=bind_some h
 refine aC6 (aGi _ _ _ h2) ?_
 refine man (msq (mrn ?_))
 refine man (mrt ?_)
 cases h
 refine ⟨?_,?_⟩<;>(try simp +decide only [MF,F,ME,reduceIte,Nat.reduceAdd,EN, *])
set_option maxHeartbeats 4000000 in
theorem aGd (p0:List M.aN) (p1:Int) (r:(List M.aN×Int)) (h:rT p0 p1=some r):oT Tryz.prog 242 false ([.sl (List.map M.aN.en p0)]) ([.sl (List.map M.aN.en r.1)]) p1 r.2:=by
 unfold rT at h
 refine gU (N:=28) (r:=4) Tryz.func242 rfl rfl rfl (by decide +kernel) (by decide) fun cx => ?_
 refine msq (mrn ?_)
 refine man (msq (msq (mrn ?_)))
 refine man (mbk ?_)
 refine vH (fun m s=>∃v1:Int,∃v5:Int,∃r99:List M.aN,s.t 0 = .unk∧s.m 0=some (.top 0)∧s.t 1 = .v false [.dat (.int .i64 v1)]∧s.t 5 = .v false [.dat (.int .i64 v5)]∧s.ds=[.sl (List.map M.aN.en r99)]∧cR m v1 v5 r99=some r) fuel ?_ ?_
 ·refine ⟨p1,0,p0,?_,?_,?_,?_,?_,h⟩
  all_goals simp +decide only [MF,F,reduceIte,Nat.reduceAdd,qB,qC,EN, *,-h]
 rintro mL1 s1 ⟨v1,v5,r99,f2,f3,f4,f5,f6,h⟩
 rcases mL1 with _ | mL1
 ·exact absurd h (by simp [cR])
 simp only [cR] at h
 refine msq (msq (mrn ?_))
 refine man ?_
 rcases aEL (decide (v5<(List.length r99:Int))) with b7 | b7
 ·replace h:=bR b7 h
  refine mcf (mxt (vE (vD (aBk (man (msq (mrn ?_)))))))
  refine man (mrt ?_)
  cases h
  refine ⟨?_,?_⟩<;>(try simp +decide only [MF,F,ME,reduceIte,Nat.reduceAdd,EN, *])
 replace h:=bT b7 h
 refine mct (msk (man (msq (mbk (msq ?_)))))
 obtain ⟨x8,h9,h⟩:=bind_some h
 obtain ⟨x10,h11,h⟩:=bind_some h
 obtain ⟨q12,q13,q14⟩:=aT h11
 refine aC6 (aFW _ _ h9) ?_
 obtain ⟨y15,e16,h⟩:=bind_some h
 replace e16:=(Option.some.inj e16).symm
 refine man (msq ?_)
 refine mcu (fun s=>s.t 0 = .unk∧s.m 0=some (.top 0)∧s.t 1 = .v false [.dat (.int .i64 v1)]∧s.t 5 = .v false [.dat (.int .i64 v5)]∧s.ds=[.sl (List.map M.aN.en y15)]∧True) ?_
 rintro s17 ⟨f18,f19,f20,f21,f22,_⟩
 clear e16
 refine mrn ?_
 refine man (msq ?_)
 obtain ⟨x23,h24,h⟩:=bind_some h
 obtain ⟨q25,q26,q27⟩:=aT h24
 refine mrn ?_
 obtain ⟨y28,e29,h⟩:=bind_some h
 replace e29:=(Option.some.inj e29).symm
 refine man ?_
 refine mcu (fun s=>s.t 0 = .unk∧s.m 0=some (.top 0)∧s.t 1 = .v false [.dat (.int .i64 (i64.wrap (v1+1)))]∧s.t 5 = .v false [.dat (.int .i64 v5)]∧s.ds=[.sl (List.map M.aN.en y28)]∧True) ?_
 rintro s30 ⟨f31,f32,f33,f34,f35,_⟩
 clear e29
 refine mrn ?_
 refine mab (man (mrn ?_))
 refine aB0 ⟨mL1,by omega,(i64.wrap ((i64.wrap (v1+1))+1)),(i64.wrap (v5+1)),y28,?_,?_,?_,?_,?_,h⟩
 all_goals simp +decide only [MF,F,reduceIte,Nat.reduceAdd,qB,qC,EN, *,-h]
set_option maxHeartbeats 4000000 in
theorem aG7 (p0:List M.Instr) (p1:Int) (r:(List M.Instr×Int)) (h:uI p0 p1=some r):oT Tryz.prog 243 false ([.sl (List.map M.Instr.en p0)]) ([.sl (List.map M.Instr.en r.1)]) p1 r.2:=by
 unfold uI at h
 refine gU (N:=42) (r:=4) Tryz.func243 rfl rfl rfl (by decide +kernel) (by decide) fun cx => ?_
 refine msq (mrn ?_)
 refine man (msq (msq (mrn ?_)))
 refine man (mbk ?_)
 refine vH (fun m s=>∃v1:Int,∃v5:Int,∃r99:List M.Instr,s.t 0 = .unk∧s.m 0=some (.top 0)∧s.t 1 = .v false [.dat (.int .i64 v1)]∧s.t 5 = .v false [.dat (.int .i64 v5)]∧s.ds=[.sl (List.map M.Instr.en r99)]∧dH m v1 v5 r99=some r) fuel ?_ ?_
 ·refine ⟨p1,0,p0,?_,?_,?_,?_,?_,h⟩
  all_goals simp +decide only [MF,F,reduceIte,Nat.reduceAdd,qB,qC,EN, *,-h]
 rintro mL1 s1 ⟨v1,v5,r99,f2,f3,f4,f5,f6,h⟩
 rcases mL1 with _ | mL1
 ·exact absurd h (by simp [dH])
 simp only [dH] at h
 refine msq (msq (mrn ?_))
 refine man ?_
 rcases aEL (decide (v5<(List.length r99:Int))) with b7 | b7
 ·replace h:=bR b7 h
  refine mcf (mxt (vE (vD (aBk (man (msq (mrn ?_)))))))
  refine man (mrt ?_)
  cases h
  refine ⟨?_,?_⟩<;>(try simp +decide only [MF,F,ME,reduceIte,Nat.reduceAdd,EN, *])
 replace h:=bT b7 h
 refine mct (msk (man (msq (mbk (msq ?_)))))
 obtain ⟨x8,h9,h⟩:=bind_some h
 obtain ⟨q10,q11,q12⟩:=aT h9
 refine mrn ?_
 obtain ⟨y13,e14,h⟩:=bind_some h
 replace e14:=(Option.some.inj e14).symm
 refine man (msq ?_)
 refine mcu (fun s=>s.t 0 = .unk∧s.m 0=some (.top 0)∧s.t 1 = .v false [.dat (.int .i64 v1)]∧s.t 5 = .v false [.dat (.int .i64 v5)]∧s.ds=[.sl (List.map M.Instr.en y13)]∧True) ?_
 rintro s15 ⟨f16,f17,f18,f19,f20,_⟩
 clear e14
 refine mrn ?_
 refine man (msq ?_)
 obtain ⟨x21,h22,h⟩:=bind_some h
 obtain ⟨q23,q24,q25⟩:=aT h22
 refine mrn ?_
 obtain ⟨y26,e27,h⟩:=bind_some h
 replace e27:=(Option.some.inj e27).symm
 refine man (msq ?_)
 refine mcu (fun s=>s.t 0 = .unk∧s.m 0=some (.top 0)∧s.t 1 = .v false [.dat (.int .i64 (i64.wrap (v1+1)))]∧s.t 5 = .v false [.dat (.int .i64 v5)]∧s.ds=[.sl (List.map M.Instr.en y26)]∧True) ?_
 rintro s28 ⟨f29,f30,f31,f32,f33,_⟩
 clear e27
 refine mrn ?_
 refine man (msq ?_)
 obtain ⟨x34,h35,h⟩:=bind_some h
 obtain ⟨q36,q37,q38⟩:=aT h35
 refine mrn ?_
 obtain ⟨y39,e40,h⟩:=bind_some h
 replace e40:=(Option.some.inj e40).symm
 refine man (msq ?_)
 refine mcu (fun s=>s.t 0 = .unk∧s.m 0=some (.top 0)∧s.t 1 = .v false [.dat (.int .i64 (i64.wrap ((i64.wrap (v1+1))+1)))]∧s.t 5 = .v false [.dat (.int .i64 v5)]∧s.ds=[.sl (List.map M.Instr.en y39)]∧True) ?_
 rintro s41 ⟨f42,f43,f44,f45,f46,_⟩
 clear e40
 refine mrn ?_
 refine man (msq ?_)
 obtain ⟨x47,h48,h⟩:=bind_some h
 obtain ⟨x49,h50,h⟩:=bind_some h
 obtain ⟨q51,q52,q53⟩:=aT h50
 refine aC6 (aFW _ _ h48) ?_
 obtain ⟨y54,e55,h⟩:=bind_some h
 replace e55:=(Option.some.inj e55).symm
 refine man ?_
 refine mcu (fun s=>s.t 0 = .unk∧s.m 0=some (.top 0)∧s.t 1 = .v false [.dat (.int .i64 (i64.wrap ((i64.wrap ((i64.wrap (v1+1))+1))+1)))]∧s.t 5 = .v false [.dat (.int .i64 v5)]∧s.ds=[.sl (List.map M.Instr.en y54)]∧True) ?_
 rintro s56 ⟨f57,f58,f59,f60,f61,_⟩
 clear e55
 refine mrn ?_
 refine mab (man (mrn ?_))
 refine aB0 ⟨mL1,by omega,(i64.wrap ((i64.wrap ((i64.wrap ((i64.wrap (v1+1))+1))+1))+1)),(i64.wrap (v5+1)),y54,?_,?_,?_,?_,?_,h⟩
 all_goals simp +decide only [MF,F,reduceIte,Nat.reduceAdd,qB,qC,EN, *,-h]
set_option maxHeartbeats 4000000 in
theorem aIg (p0:List Int) (p1:Int) (r:(List Int×Int)) (h:zQ p0 p1=some r):oT Tryz.prog 244 false ([.sl (List.map enI p0)]) ([.sl (List.map enI r.1)]) p1 r.2:=by
 unfold zQ at h
 refine gU (N:=19) (r:=4) Tryz.func244 rfl rfl rfl (by decide +kernel) (by decide) fun cx => ?_
 refine msq (mrn ?_)
 refine man (msq (msq (mrn ?_)))
 refine man (mbk ?_)
 refine vH (fun m s=>∃v1:Int,∃v5:Int,∃r99:List Int,s.t 0 = .unk∧s.m 0=some (.top 0)∧s.t 1 = .v false [.dat (.int .i64 v1)]∧s.t 5 = .v false [.dat (.int .i64 v5)]∧s.ds=[.sl (List.map enI r99)]∧fC m v1 v5 r99=some r) fuel ?_ ?_
 ·refine ⟨p1,0,p0,?_,?_,?_,?_,?_,h⟩
  all_goals simp +decide only [MF,F,reduceIte,Nat.reduceAdd,qB,qC,EN, *,-h]
 rintro mL1 s1 ⟨v1,v5,r99,f2,f3,f4,f5,f6,h⟩
 rcases mL1 with _ | mL1
 ·exact absurd h (by simp [fC])
 simp only [fC] at h
 refine msq (msq (mrn ?_))
 refine man ?_
 rcases aEL (decide (v5<(List.length r99:Int))) with b7 | b7
 ·replace h:=bR b7 h
  refine mcf (mxt (vE (vD (aBk (man (msq (mrn ?_)))))))
  refine man (mrt ?_)
  cases h
  refine ⟨?_,?_⟩<;>(try simp +decide only [MF,F,ME,reduceIte,Nat.reduceAdd,EN, *])
 replace h:=bT b7 h
 refine mct (msk (man (msq (mbk (msq ?_)))))
 obtain ⟨x8,h9,h⟩:=bind_some h
 obtain ⟨q10,q11,q12⟩:=aT h9
 refine mrn ?_
 obtain ⟨y13,e14,h⟩:=bind_some h
 replace e14:=(Option.some.inj e14).symm
 refine man ?_
 refine mcu (fun s=>s.t 0 = .unk∧s.m 0=some (.top 0)∧s.t 1 = .v false [.dat (.int .i64 v1)]∧s.t 5 = .v false [.dat (.int .i64 v5)]∧s.ds=[.sl (List.map enI y13)]∧True) ?_
 rintro s15 ⟨f16,f17,f18,f19,f20,_⟩
 clear e14
 refine mrn ?_
 refine mab (man (mrn ?_))
 refine aB0 ⟨mL1,by omega,(i64.wrap (v1+1)),(i64.wrap (v5+1)),y13,?_,?_,?_,?_,?_,h⟩
 all_goals simp +decide only [MF,F,reduceIte,Nat.reduceAdd,qB,qC,EN, *,-h]
set_option maxHeartbeats 4000000 in
theorem aH7 (p0:List M.bJ) (p1:Int) (r:(List M.bJ×Int)) (h:vT p0 p1=some r):oT Tryz.prog 113 false ([.sl (List.map M.bJ.en p0)]) ([.sl (List.map M.bJ.en r.1)]) p1 r.2:=by
 unfold vT at h
 refine gU (N:=102) (r:=4) Tryz.func113 rfl rfl rfl (by decide +kernel) (by decide) fun cx => ?_
 refine msq (mrn ?_)
 refine man (msq (msq (mrn ?_)))
 refine man (mbk ?_)
 refine vH (fun m s=>∃v1:Int,∃v5:Int,∃r99:List M.bJ,s.t 0 = .unk∧s.m 0=some (.top 0)∧s.t 1 = .v false [.dat (.int .i64 v1)]∧s.t 5 = .v false [.dat (.int .i64 v5)]∧s.ds=[.sl (List.map M.bJ.en r99)]∧eA m v1 v5 r99=some r) fuel ?_ ?_
 ·refine ⟨p1,0,p0,?_,?_,?_,?_,?_,h⟩
  all_goals simp +decide only [MF,F,reduceIte,Nat.reduceAdd,qB,qC,EN, *,-h]
 rintro mL1 s1 ⟨v1,v5,r99,f2,f3,f4,f5,f6,h⟩
 rcases mL1 with _ | mL1
 ·exact absurd h (by simp [eA])
 simp only [eA] at h
 refine msq (msq (mrn ?_))
 refine man ?_
 rcases aEL (decide (v5<(List.length r99:Int))) with b7 | b7
 ·replace h:=bR b7 h
  refine mcf (mxt (vE (vD (aBk (man (msq (mrn ?_)))))))
  refine man (mrt ?_)
  cases h
  refine ⟨?_,?_⟩<;>(try simp +decide only [MF,F,ME,reduceIte,Nat.reduceAdd,EN, *])
 replace h:=bT b7 h
 refine mct (msk (man (msq (mbk (msq ?_)))))
 obtain ⟨x8,h9,h⟩:=bind_some h
 obtain ⟨q10,q11,q12⟩:=aT h9
 refine mrn ?_
 obtain ⟨y13,e14,h⟩:=bind_some h
 replace e14:=(Option.some.inj e14).symm
 refine man (msq ?_)
 refine mcu (fun s=>s.t 0 = .unk∧s.m 0=some (.top 0)∧s.t 1 = .v false [.dat (.int .i64 v1)]∧s.t 5 = .v false [.dat (.int .i64 v5)]∧s.ds=[.sl (List.map M.bJ.en y13)]∧True) ?_
 rintro s15 ⟨f16,f17,f18,f19,f20,_⟩
 clear e14
 refine mrn ?_
 refine man (msq ?_)
 obtain ⟨x21,h22,h⟩:=bind_some h
 obtain ⟨x23,h24,h⟩:=bind_some h
 obtain ⟨q25,q26,q27⟩:=aT h24
 refine aC6 (aFW _ _ h22) ?_
 obtain ⟨y28,e29,h⟩:=bind_some h
 replace e29:=(Option.some.inj e29).symm
 refine man (msq ?_)
 refine mcu (fun s=>s.t 0 = .unk∧s.m 0=some (.top 0)∧s.t 1 = .v false [.dat (.int .i64 (i64.wrap (v1+1)))]∧s.t 5 = .v false [.dat (.int .i64 v5)]∧s.ds=[.sl (List.map M.bJ.en y28)]∧True) ?_
 rintro s30 ⟨f31,f32,f33,f34,f35,_⟩
 clear e29
 refine mrn ?_
 refine man (msq ?_)
 obtain ⟨x36,h37,h⟩:=bind_some h
 obtain ⟨x38,h39,h⟩:=bind_some h
 obtain ⟨q40,q41,q42⟩:=aT h39
 refine aC6 (aFW _ _ h37) ?_
 obtain ⟨y43,e44,h⟩:=bind_some h
 replace e44:=(Option.some.inj e44).symm
 refine man (msq ?_)
 refine mcu (fun s=>s.t 0 = .unk∧s.m 0=some (.top 0)∧s.t 1 = .v false [.dat (.int .i64 (i64.wrap ((i64.wrap (v1+1))+1)))]∧s.t 5 = .v false [.dat (.int .i64 v5)]∧s.ds=[.sl (List.map M.bJ.en y43)]∧True) ?_
 rintro s45 ⟨f46,f47,f48,f49,f50,_⟩
 clear e44
 refine mrn ?_
 refine man (msq ?_)
 obtain ⟨x51,h52,h⟩:=bind_some h
 obtain ⟨q53,q54,q55⟩:=aT h52
 refine mrn ?_
 obtain ⟨y56,e57,h⟩:=bind_some h
 replace e57:=(Option.some.inj e57).symm
 refine man (msq ?_)
 refine mcu (fun s=>s.t 0 = .unk∧s.m 0=some (.top 0)∧s.t 1 = .v false [.dat (.int .i64 (i64.wrap ((i64.wrap ((i64.wrap (v1+1))+1))+1)))]∧s.t 5 = .v false [.dat (.int .i64 v5)]∧s.ds=[.sl (List.map M.bJ.en y56)]∧True) ?_
 rintro s58 ⟨f59,f60,f61,f62,f63,_⟩
 clear e57
 refine mrn ?_
 refine man (msq ?_)
 obtain ⟨x64,h65,h⟩:=bind_some h
 obtain ⟨q66,q67,q68⟩:=aT h65
 obtain ⟨x69,h70,h⟩:=bind_some h
 refine aC6 (aGd _ _ _ h70) ?_
 obtain ⟨y71,e72,h⟩:=bind_some h
 replace e72:=(Option.some.inj e72).symm
 refine man (msq ?_)
 refine mcu (fun s=>s.t 0 = .unk∧s.m 0=some (.top 0)∧s.t 1 = .v false [.dat (.int .i64 x69.2)]∧s.t 5 = .v false [.dat (.int .i64 v5)]∧s.ds=[.sl (List.map M.bJ.en y71)]∧True) ?_
 rintro s73 ⟨f74,f75,f76,f77,f78,_⟩
 clear e72
 obtain ⟨x79,h80,h⟩:=bind_some h
 obtain ⟨q81,q82,q83⟩:=aT h80
 obtain ⟨x84,h85,h⟩:=bind_some h
 refine aC6 (aG7 _ _ _ h85) ?_
 obtain ⟨y86,e87,h⟩:=bind_some h
 replace e87:=(Option.some.inj e87).symm
 refine man (msq ?_)
 refine mcu (fun s=>s.t 0 = .unk∧s.m 0=some (.top 0)∧s.t 1 = .v false [.dat (.int .i64 x84.2)]∧s.t 5 = .v false [.dat (.int .i64 v5)]∧s.ds=[.sl (List.map M.bJ.en y86)]∧True) ?_
 rintro s88 ⟨f89,f90,f91,f92,f93,_⟩
 clear e87
 obtain ⟨x94,h95,h⟩:=bind_some h
 obtain ⟨q96,q97,q98⟩:=aT h95
 refine mrn ?_
 obtain ⟨y99,e100,h⟩:=bind_some h
 replace e100:=(Option.some.inj e100).symm
 refine man (msq ?_)
 refine mcu (fun s=>s.t 0 = .unk∧s.m 0=some (.top 0)∧s.t 1 = .v false [.dat (.int .i64 x84.2)]∧s.t 5 = .v false [.dat (.int .i64 v5)]∧s.ds=[.sl (List.map M.bJ.en y99)]∧True) ?_
 rintro s101 ⟨f102,f103,f104,f105,f106,_⟩
 clear e100
 refine mrn ?_
 refine man (msq ?_)
 obtain ⟨x107,h108,h⟩:=bind_some h
 obtain ⟨q109,q110,q111⟩:=aT h108
 obtain ⟨x112,h113,h⟩:=bind_some h
 refine aC6 (aIg _ _ _ h113) ?_
 obtain ⟨y114,e115,h⟩:=bind_some h
 replace e115:=(Option.some.inj e115).symm
 refine man (msq ?_)
 refine mcu (fun s=>s.t 0 = .unk∧s.m 0=some (.top 0)∧s.t 1 = .v false [.dat (.int .i64 x112.2)]∧s.t 5 = .v false [.dat (.int .i64 v5)]∧s.ds=[.sl (List.map M.bJ.en y114)]∧True) ?_
 rintro s116 ⟨f117,f118,f119,f120,f121,_⟩
 clear e115
 obtain ⟨x122,h123,h⟩:=bind_some h
 obtain ⟨q124,q125,q126⟩:=aT h123
 refine mrn ?_
 obtain ⟨y127,e128,h⟩:=bind_some h
 replace e128:=(Option.some.inj e128).symm
 refine man (msq ?_)
 refine mcu (fun s=>s.t 0 = .unk∧s.m 0=some (.top 0)∧s.t 1 = .v false [.dat (.int .i64 x112.2)]∧s.t 5 = .v false [.dat (.int .i64 v5)]∧s.ds=[.sl (List.map M.bJ.en y127)]∧True) ?_
 rintro s129 ⟨f130,f131,f132,f133,f134,_⟩
 clear e128
 refine mrn ?_
 refine man (msq ?_)
 obtain ⟨x135,h136,h⟩:=bind_some h
 obtain ⟨q137,q138,q139⟩:=aT h136
 refine mrn ?_
 obtain ⟨y140,e141,h⟩:=bind_some h
 replace e141:=(Option.some.inj e141).symm
 refine man (msq ?_)
 refine mcu (fun s=>s.t 0 = .unk∧s.m 0=some (.top 0)∧s.t 1 = .v false [.dat (.int .i64 (i64.wrap (x112.2+1)))]∧s.t 5 = .v false [.dat (.int .i64 v5)]∧s.ds=[.sl (List.map M.bJ.en y140)]∧True) ?_
 rintro s142 ⟨f143,f144,f145,f146,f147,_⟩
 clear e141
 refine mrn ?_
 refine man (msq ?_)
 obtain ⟨x148,h149,h⟩:=bind_some h
 obtain ⟨q150,q151,q152⟩:=aT h149
 refine mrn ?_
 obtain ⟨y153,e154,h⟩:=bind_some h
 replace e154:=(Option.some.inj e154).symm
 refine man ?_
 refine mcu (fun s=>s.t 0 = .unk∧s.m 0=some (.top 0)∧s.t 1 = .v false [.dat (.int .i64 (i64.wrap ((i64.wrap (x112.2+1))+1)))]∧s.t 5 = .v false [.dat (.int .i64 v5)]∧s.ds=[.sl (List.map M.bJ.en y153)]∧True) ?_
 rintro s155 ⟨f156,f157,f158,f159,f160,_⟩
 clear e154
 refine mrn ?_
 refine mab (man (mrn ?_))
 refine aB0 ⟨mL1,by omega,(i64.wrap ((i64.wrap ((i64.wrap (x112.2+1))+1))+1)),(i64.wrap (v5+1)),y153,?_,?_,?_,?_,?_,h⟩
 all_goals simp +decide only [MF,F,reduceIte,Nat.reduceAdd,qB,qC,EN, *,-h]
end Go.Proofs.YtidhkhdnjonjfaaGreat.gen
