/-
  Helper text. No conditions.
-/
import Derived.Test.YtimblbmbfdopgaaGreatOpenPageTi
import Derived.Test.YtimblbmbfdopgaaGreatOpenPageWimpl0
import Derived.Test.YtimblbmbfdopgaaGreatOpenPageWimpl1
set_option linter.unusedVariables false
set_option linter.unusedSimpArgs false
namespace Go.Proofs.YtimblbmbfdopgaaGreat.gen
open Go Go.Sh
set_option maxRecDepth 20000
set_option maxHeartbeats 4000000
theorem c62 (p0 p1 p2 p3 r) (h:sS p0 p1 p2 p3=some r):Sc 62 [aX (M.World.en p0),aS p1,aS p2,aL M.Instr.en p3] [(true,M.World.rs r.1),rI r.2.1,rB r.2.2]:=by
 unfold sS at h
 simp only [EN]
 refine sgn 130 [.cell 8 58,.tmp 9,.tmp 10] Tryz.func62 fun base wd => ?_
 refine sq (rn ?_)
 refine an (sq ?_)
 obtain ⟨x1,h2,h⟩:=bind_some h
 refine rn1 (c88 _ _ h2) ?_
 refine an (sq (sq ?_))
 obtain ⟨x3,h4,h⟩:=bind_some h
 rcases bS (!x3) with b5 | b5
 ·replace h:=bJ b5 h
  refine rn1 (c46 _ _ h4) ?_
  refine an (ct (sq (rn ?_)))
  refine an (rt ?_)
  cases h
  simp [Ret,TB,EN, *]
 replace h:=bI b5 h
 obtain ⟨x6,h7,h⟩:=bind_some h
 rcases bS (decide (x6<0)) with b8 | b8
 ·replace h:=bJ b8 h
  refine rn2 (c46 _ _ h4) (c49 _ _ h7) ?_
  refine an (ct (sq (rn ?_)))
  refine an (rt ?_)
  cases h
  simp [Ret,TB,EN, *]
 replace h:=bI b8 h
 obtain ⟨x9,h10,h⟩:=bind_some h
 refine rn3 (c46 _ _ h4) (c49 _ _ h7) (c49 _ _ h10) ?_
 refine an ?_
 rcases bS (decide (x9<0)) with b11 | b11
 ·replace h:=bJ b11 h
  refine ct (sq (rn ?_))
  refine an (rt ?_)
  cases h
  simp [Ret,TB,EN, *]
 replace h:=bI b11 h
 refine cf (sk (an (sq ?_)))
 obtain ⟨x12,h13,h⟩:=bind_some h
 rcases bS x12.2 with b14 | b14
 ·replace h:=bJ b14 h
  obtain ⟨n15,q16,q17⟩:=aYe _ _ _ _ h13 b14
  refine rn1 q17 ?_
  refine an (sq (sq (rn ?_)))
  refine an (cf (sk (an (sq ?_))))
  obtain ⟨x18,h19,h⟩:=bind_some h
  refine rn1 (aR3 _ _ _ h19) ?_
  refine an (sq ?_)
  obtain ⟨x20,h21,h⟩:=bind_some h
  refine rn1 (aRw _ _ _ _ h21) ?_
  refine an (sq ?_)
  obtain ⟨x22,h23,h⟩:=bind_some h
  refine rn1 (aR4 _ _ _ _ _ _ h23) ?_
  refine an (sq ?_)
  obtain ⟨x24,h25,h⟩:=bind_some h
  obtain ⟨x26,h27,h⟩:=bind_some h
  refine rd2 mixed (aR0 _ _ _ _ _ _ h25) (aR5 _ _ _ _ h27) ?_
  refine an (sq (sq ?_))
  refine cu (fun s=>s.t 4=vP 4 1 0∧s.t 8=vP 8 1 0∧s.t 11=vP 11 1 0∧s.t 12=vP 12 1 0∧s.t 15=vI x20∧s.t 16=vP 16 1 0∧s.t 17=vB x22.2∧s.t 18=vB x26.2∧s.h 4=(1,oX 58 (M.World.en p0))∧s.h 8=(1,aO8)∧s.h 11=(1,oB 58 [cI x1.Now,cB x1.Online,cI x1.Device,.row 400022 1,.row 500022 1,cI x1.NextPage,.row 700022 1,.row 800022 1,.row 900022 1,.row 1000022 1])∧s.h 12=(1,oX 98 (M.aC.en x12.1))∧s.h 16=(1,oB 67 [cI x26.1.Id,cS x26.1.Site,cS x26.1.Top,cI x26.1.Version,.row 500082 1,.row 600082 1,cI x26.1.Machine.Pc,.row 800082 1,cI x26.1.Machine.Steps,cB x26.1.Machine.Done,cB x26.1.Machine.Wait])∧s.h 400022=(1,oW 98 24 M.aC.en x1.aA.Buckets)∧s.h 500022=(1,oW 67 11 M.bH.en x1.Pages)∧s.h 500082=(1,oW 324 2 M.aK.en x26.1.aK)∧s.h 600082=(1,oW 279 4 M.Instr.en x26.1.Machine.Script)∧s.h 700022=(1,oW 249 4 M.cJ.en x1.Locks.Locks)∧s.h 800022=(1,oW 252 3 M.eU.en x1.Channel.Mails)∧s.h 800082=(1,oW 3 1 enI x26.1.Machine.Regs)∧s.h 900022=(1,oW 131 4 M.Site.en x1.Sites)∧s.h 1000022=(1,oW 234 5 M.Server.en x1.Servers)∧True) ?_
  rintro s28 ⟨f29,f30,f31,f32,f33,f34,f35,f36,f37,f38,f39,f40,f41,f42,f43,f44,f45,f46,f47,f48,f49,f50,_⟩
  rcases bS (x20==0) with b51 | b51
  ·replace h:=bJ b51 h
   refine rn ?_
   refine an (ct (sq (rn ?_)))
   refine an (rt ?_)
   cases h
   simp [Ret,TB,EN, *]
  replace h:=bI b51 h
  rcases bS (!x22.2) with b52 | b52
  ·replace h:=bJ b52 h
   refine rn ?_
   refine an (ct (sq (rn ?_)))
   refine an (rt ?_)
   cases h
   simp [Ret,TB,EN, *]
  replace h:=bI b52 h
  refine rn ?_
  refine an ?_
  rcases bS (!x26.2) with b53 | b53
  ·replace h:=bJ b53 h
   refine ct (sq (rn ?_))
   refine an (rt ?_)
   cases h
   simp [Ret,TB,EN, *]
  replace h:=bI b53 h
  refine cf (sk (an (sq (rn ?_))))
  refine an (sq ?_)
  obtain ⟨x54,h55,h⟩:=bind_some h
  refine rn1 (c35 _ _ _ h55) ?_
  refine an (sq (rn ?_))
  refine an (sq ?_)
  obtain ⟨x56,h57,h⟩:=bind_some h
  refine rn1 h57 ?_
  refine an (sq ?_)
  refine cu (fun s=>s.t 4=vP 4 1 0∧s.t 8=vP 8 1 0∧s.t 11=vP 11 1 0∧s.t 16=vP 16 1 0∧s.t 20=vB x54.2∧s.h 4=(1,oX 58 (M.World.en p0))∧s.h 8=(1,aO8)∧s.h 11=(1,oB 58 [cI x1.Now,cB x1.Online,cI x1.Device,.row 100103 ((s28.h 100103).1+1),.row 500022 2,cI x1.NextPage,.row 700022 1,.row 800022 1,.row 900022 1,.row 1000022 1])∧s.h 16=(1,oB 67 [cI x26.1.Id,cS x26.1.Site,cS x26.1.Top,cI x26.1.Version,.row 500082 1,.row 600082 1,cI x26.1.Machine.Pc,.row 800082 1,cI x26.1.Machine.Steps,cB x26.1.Machine.Done,cB x26.1.Machine.Wait])∧s.h 100103=(((s28.h 100103).1+1),oW 98 24 M.aC.en x54.1.Buckets)∧s.h 500022=(2,oW 67 11 M.bH.en (x1.Pages++[x26.1]))∧s.h 700022=(1,oW 249 4 M.cJ.en x1.Locks.Locks)∧s.h 800022=(1,oW 252 3 M.eU.en x1.Channel.Mails)∧s.h 900022=(1,oW 131 4 M.Site.en x1.Sites)∧s.h 1000022=(1,oW 234 5 M.Server.en x1.Servers)∧True) ?_
  rintro s58 ⟨f59,f60,f61,f62,f63,f64,f65,f66,f67,f68,f69,f70,f71,f72,f73,_⟩
  refine rn ?_
  refine an (sq (sq ?_))
  rcases bS (!x54.2) with b74 | b74
  ·replace h:=bJ b74 h
   refine rn ?_
   refine an (ct (sq ?_))
   obtain ⟨x75,h76,h⟩:=bind_some h
   refine rn1 (c88 _ _ h76) ?_
   refine an (rt ?_)
   cases h
   simp [Ret,TB,EN, *]
  replace h:=bI b74 h
  obtain ⟨x77,h78,h⟩:=bind_some h
  refine rn1 (c46 _ _ h78) ?_
  refine an ?_
  rcases aEW (!x77) with b79 | b79
  ·replace h:=bI b79 h
   refine cf (sk (an (sq (rd mixed ?_))))
   refine an (rt ?_)
   cases h
   simp [Ret,TB,EN, *]
  replace h:=bJ b79 h
  refine ct (sq ?_)
  obtain ⟨x80,h81,h⟩:=bind_some h
  refine rn1 (c88 _ _ h81) ?_
  refine an (rt ?_)
  cases h
  simp [Ret,TB,EN, *]
 replace h:=bI b14 h
 refine rn1 (aYg _ _ _ _ h13 b14) ?_
 refine an (sq (sq (rn ?_)))
 refine an (ct ?_)
 obtain ⟨x82,h83,h⟩:=bind_some h
 obtain ⟨x84,h85,h⟩:=bind_some h
 refine rn2 (aTc _ _ h83) (c30 _ _ _ _ h85) ?_
 refine an (sq ?_)
 obtain ⟨x86,h87,h⟩:=bind_some h
 refine rn1 (aR3 _ _ _ h87) ?_
 refine an (sq ?_)
 obtain ⟨x88,h89,h⟩:=bind_some h
 refine rn1 (aRw _ _ _ _ h89) ?_
 refine an (sq ?_)
 obtain ⟨x90,h91,h⟩:=bind_some h
 refine rn1 (aR4 _ _ _ _ _ _ h91) ?_
 refine an (sq ?_)
 refine cu (fun s=>s.t 4=vP 4 1 0∧s.t 8=vP 8 1 0∧s.t 11=vP 11 1 0∧s.t 12=vP 12 1 0∧s.t 14=vP 14 1 0∧s.t 15=vI x88∧s.t 16=vP 16 1 0∧s.t 17=vB x90.2∧s.h 4=(1,oX 58 (M.World.en p0))∧s.h 8=(1,aO8)∧s.h 11=(1,oB 58 [cI x1.Now,cB x1.Online,cI x1.Device,.row 400022 1,.row 500022 1,cI x1.NextPage,.row 700022 1,.row 800022 1,.row 900022 1,.row 1000022 1])∧s.h 12=(1,oB 98 [cS x84.1.Site,cS x84.1.Top,cS x84.1.Registration.Site,cI x84.1.Registration.Installing,cI x84.1.Registration.Waiting,cI x84.1.Registration.Active,.row 700051 1,cS x84.1.bC.Base.Name,cI x84.1.bC.Base.Version,.row 1000051 1,.row 1100051 1,.row 1200051 1,cI x84.1.bC.Count,cS x84.1.aD.Base.Name,.row 1500051 1,cI x84.1.aD.Base.Auto,cI x84.1.aD.Seen,cI x84.1.aD.Sync.aR.Device,cI x84.1.aD.Sync.aR.Next,.row 2000051 1,cI x84.1.aD.Sync.Tries,cI x84.1.aD.Sync.WaitUntil,cI x84.1.LastUsed,cB x84.1.Persistent])∧s.h 14=(1,oX 131 (M.Site.en x86))∧s.h 16=(1,oB 67 [cI x90.1.Id,cS x90.1.Site,cS x90.1.Top,cI x90.1.Version,.row 500070 1,.row 600070 1,cI x90.1.Machine.Pc,.row 800070 1,cI x90.1.Machine.Steps,cB x90.1.Machine.Done,cB x90.1.Machine.Wait])∧s.h 400022=(1,oW 98 24 M.aC.en x1.aA.Buckets)∧s.h 500022=(1,oW 67 11 M.bH.en x1.Pages)∧s.h 500070=(1,oW 324 2 M.aK.en x90.1.aK)∧s.h 600070=(1,oW 279 4 M.Instr.en x90.1.Machine.Script)∧s.h 700022=(1,oW 249 4 M.cJ.en x1.Locks.Locks)∧s.h 700051=(1,oW 354 2 M.Cache.en x84.1.Caches.Caches)∧s.h 800022=(1,oW 252 3 M.eU.en x1.Channel.Mails)∧s.h 800070=(1,oW 3 1 enI x90.1.Machine.Regs)∧s.h 900022=(1,oW 131 4 M.Site.en x1.Sites)∧s.h 1000022=(1,oW 234 5 M.Server.en x1.Servers)∧s.h 1000051=(1,oW 89 3 M.aH.en x84.1.bC.Base.Stores)∧s.h 1100051=(1,oW 375 2 M.aE.en x84.1.bC.Base.Unique)∧s.h 1200051=(1,oW 5 1 enB x84.1.bC.Log)∧s.h 1500051=(1,oW 310 4 M.Item.en x84.1.aD.Base.Items)∧s.h 2000051=(1,oW 387 7 M.aZ.en x84.1.aD.Sync.aR.Writes)∧True) ?_
 rintro s92 ⟨f93,f94,f95,f96,f97,f98,f99,f100,f101,f102,f103,f104,f105,f106,f107,f108,f109,f110,f111,f112,f113,f114,f115,f116,f117,f118,f119,f120,f121,_⟩
 obtain ⟨x122,h123,h⟩:=bind_some h
 obtain ⟨x124,h125,h⟩:=bind_some h
 refine rd2 mixed (aR0 _ _ _ _ _ _ h123) (aR5 _ _ _ _ h125) ?_
 refine an (sq (sq ?_))
 rcases bS (x88==0) with b126 | b126
 ·replace h:=bJ b126 h
  refine rn ?_
  refine an (ct (sq (rn ?_)))
  refine an (rt ?_)
  cases h
  simp [Ret,TB,EN, *]
 replace h:=bI b126 h
 rcases bS (!x90.2) with b127 | b127
 ·replace h:=bJ b127 h
  refine rn ?_
  refine an (ct (sq (rn ?_)))
  refine an (rt ?_)
  cases h
  simp [Ret,TB,EN, *]
 replace h:=bI b127 h
 refine rn ?_
 refine an ?_
 rcases bS (!x124.2) with b128 | b128
 ·replace h:=bJ b128 h
  refine ct (sq (rn ?_))
  refine an (rt ?_)
  cases h
  simp [Ret,TB,EN, *]
 replace h:=bI b128 h
 refine cf (sk (an (sq (rn ?_))))
 refine an (sq ?_)
 obtain ⟨x129,h130,h⟩:=bind_some h
 refine rn1 (c35 _ _ _ h130) ?_
 refine an (sq (rn ?_))
 refine an (sq ?_)
 obtain ⟨x131,h132,h⟩:=bind_some h
 refine rn1 h132 ?_
 refine an (sq ?_)
 refine cu (fun s=>s.t 4=vP 4 1 0∧s.t 8=vP 8 1 0∧s.t 11=vP 11 1 0∧s.t 16=vP 16 1 0∧s.t 20=vB x129.2∧s.h 4=(1,oX 58 (M.World.en p0))∧s.h 8=(1,aO8)∧s.h 11=(1,oB 58 [cI x1.Now,cB x1.Online,cI x1.Device,.row 100103 ((s92.h 100103).1+1),.row 500022 2,cI x1.NextPage,.row 700022 1,.row 800022 1,.row 900022 1,.row 1000022 1])∧s.h 16=(1,oB 67 [cI x124.1.Id,cS x124.1.Site,cS x124.1.Top,cI x124.1.Version,.row 500082 ((s92.h 500082).1+1),.row 600082 ((s92.h 600082).1+1),cI x124.1.Machine.Pc,.row 800082 ((s92.h 800082).1+1),cI x124.1.Machine.Steps,cB x124.1.Machine.Done,cB x124.1.Machine.Wait])∧s.h 100103=(((s92.h 100103).1+1),oW 98 24 M.aC.en x129.1.Buckets)∧s.h 500022=(2,oW 67 11 M.bH.en (x1.Pages++[x124.1]))∧s.h 700022=(1,oW 249 4 M.cJ.en x1.Locks.Locks)∧s.h 800022=(1,oW 252 3 M.eU.en x1.Channel.Mails)∧s.h 900022=(1,oW 131 4 M.Site.en x1.Sites)∧s.h 1000022=(1,oW 234 5 M.Server.en x1.Servers)∧True) ?_
 rintro s133 ⟨f134,f135,f136,f137,f138,f139,f140,f141,f142,f143,f144,f145,f146,f147,f148,_⟩
 refine rn ?_
 refine an (sq (sq ?_))
 rcases bS (!x129.2) with b149 | b149
 ·replace h:=bJ b149 h
  refine rn ?_
  refine an (ct (sq ?_))
  obtain ⟨x150,h151,h⟩:=bind_some h
  refine rn1 (c88 _ _ h151) ?_
  refine an (rt ?_)
  cases h
  simp [Ret,TB,EN, *]
 replace h:=bI b149 h
 obtain ⟨x152,h153,h⟩:=bind_some h
 refine rn1 (c46 _ _ h153) ?_
 refine an ?_
 rcases aEW (!x152) with b154 | b154
 ·replace h:=bI b154 h
  refine cf (sk (an (sq (rd mixed ?_))))
  refine an (rt ?_)
  cases h
  simp [Ret,TB,EN, *]
 replace h:=bJ b154 h
 refine ct (sq ?_)
 obtain ⟨x155,h156,h⟩:=bind_some h
 refine rn1 (c88 _ _ h156) ?_
 refine an (rt ?_)
 cases h
 simp [Ret,TB,EN, *]
instance:bD 62 (type_of% @c62):=⟨@c62⟩
end Go.Proofs.YtimblbmbfdopgaaGreat.gen
