/-
  Helper text. No conditions.
-/
import Derived.Test.YtjlnkcoeghonfaaGreatRunPageTi
import Derived.Lib.Walk
import Derived.WalkKit
import Derived.Shelf.RegionOpenPlain
import Derived.Lib.JoinLaws
import Derived.Laws.Externs
set_option linter.unusedVariables false
set_option linter.unusedSimpArgs false
namespace Go.Proofs.YtjlnkcoeghonfaaGreat.gen
open Go Go.Sh
open Go.IntKind (i64)
set_option maxRecDepth 20000
set_option maxHeartbeats 4000000
namespace L492
theorem u79:Tryz.prog.underlying 73=some (.slice 320):=by kernel_rfl
theorem u3:Tryz.prog.underlying 3=some (.int .i64):=by kernel_rfl
theorem u4:Tryz.prog.underlying 4=some .bool:=by kernel_rfl
theorem aAt:(Tryz.prog.info? 320).map (λi=>(i.size,i.bytes,i.zero.isSome,(i.zero.map λz=>z.cells.size)))=some (4,56,true,some 4):=by kernel_rfl
theorem G4 : ∃z i,Tryz.prog.info? 320=some i/\i.zero=some z/\i.size=4/\i.bytes=56/\z.cells.size=4:=by
 have h:=aAt
 cases hi:Tryz.prog.info? 320 with
 | none=>rw [hi] at h;cases h
 | some i =>
  rw [hi] at h
  simp only [Option.map_some,qb,qa] at h
  obtain ⟨h1,h2,h3,h4⟩:=h
  cases hz:i.zero with
  | none=>rw [hz] at h3;cases h3
  | some z =>
   rw [hz] at h4
   exact ⟨z,i,rfl,hz,h1,h2,by simpa using h4⟩
set_option maxRecDepth 100000 in
theorem KD (b n c i vb m vc:Nat) (cs vs:List Value) (cur:Array Value) (w:World) (hi:i<n) (hm:0<m) (hroom:n+m<=c) (hc63:c<=9223372036854775807) (hvb:vb≠b)
    (hcl:cs.length=n*4) (hvl:vs.length=m*4) (hb:w.heap[b]? = some (.cells cur 320 (0,0))) (hcur:cur.size=c*4) (htk:cur.toList.take (n*4)=cs) (vcur:Array Value) (hv:w.heap[vb]? = some (.cells vcur 320 (0,0))) (hvtk:vcur.toList.take (m*4)=vs)
    (h1c : ∀v∈cs,v.oneCell'=true) (h1v : ∀v∈vs,v.oneCell'=true) :
    Calls Tryz.prog 492 #[.slice (some ⟨b,0,none⟩) n c,.int .i64 i,.slice (some ⟨vb,0,none⟩) m vc] w λe w' =>
      ∃A,e = .returned (.slice (some ⟨b,0,none⟩) (n+m) c)/\A.toList.take ((n+m)*4)=cs.take (i*4)++(vs++cs.drop (i*4))/\A.size=c*4/\w'.heap[b]? = some (.cells A 320 (0,0))/\w.grownBy w' (some b):=by
  obtain ⟨ze,ie,hie,hze,hsz,hby,hzz⟩:=G4
  have t79:=u79;have t3:=u3;have t4:=u4
  have aa : ∀w,(Go.sizeOf 320).run Tryz.prog w = .ok 4 w:=λw=>by simp [Go.sizeOf,typeInfo,hie,hsz]
  have ae:=run_underlying u79;have r3:=run_underlying u3;have r4:=run_underlying u4
  have hz1 : ¬((m:Int)=0):=by omega
  have hz2 : ¬((i:Int)=(n:Int)):=by omega
  have mixed:Tryz.prog.follows .mixedOrders=true:=by kernel_rfl
  have hov : ∀lb cb,(callFunc 558 #[.slice (some ⟨vb,0,none⟩) m vc,.slice (some ⟨b,(i+m)*4,none⟩) lb cb]).run Tryz.prog w = .ok (.value (.bool false)) w:=λlb cb=>by
    rw [run_callFunc_extern Tryz.func558 (by kernel_rfl) (by kernel_rfl) (by kernel_rfl) (e:=Extern.SlicesOverlaps.overlaps #[73,73] #[4]) (by kernel_rfl),
      Lib.run_overlaps_apart w 73 4 320 u79 4 aa ⟨vb,0,none⟩ ⟨b,(i+m)*4,none⟩ m vc lb cb hvb 320 320 vcur.size cur.size (by simp [World.shape?,hv]) (by simp [World.shape?,hb]) jD (by simp [World.frozen?,hv]) (by simp [World.frozen?,hv])]
    rfl
  have hw1:i64.wrap ((i:Int)+(m:Int))=(i:Int)+(m:Int):=by rw [IntKind.wrap_i64];omega
  have hb1:(0:Int)<=(i:Int)+(m:Int):=by omega
  have hin:i<=n:=by omega
  have htn:((i:Int)+(m:Int)).toNat=i+m:=by omega
  have hb2 : ¬(c=i+m):=by omega
  have hb3:(i:Int)<=(n:Int)+(m:Int):=by omega
  have hb4 : ¬(c=i):=by omega
  obtain ⟨A1,A2,hcp1,hcp2,hfin⟩:=SH ⟨u79,u3,G4⟩ jG b n c i vb m vc cs vs cur w hi hm hroom hc63 hvb hcl hvl hb hcur htk vcur hv hvtk h1c h1v
  clear htk hvtk hcur hb hv
  refine calls_of_wp Tryz.func492 rfl ?_
  simp only [show Tryz.f492.ntmps=95 from rfl,List.size_toArray,qJ,qK,Nat.reduceAdd,Nat.reduceSub,Array.replicate_succ,
     Array.replicate_zero,List.push_toArray,List.append_toArray,List.nil_append,List.cons_append]
  go_wp2_with (simp only [hov])
  go_region_law_o (refine Ax rfl _ _ 73 73 rfl _ _ jL jL (hcp1 _ _ _) ?_)
  go_wp2_with (at_builtin;refine tN _ rfl _ _ 73 73 rfl _ _ rfl rfl (hcp2 _ _) ?_)
  go_ret
  obtain ⟨A,hA⟩:=hfin
  exact ⟨A,rfl,hA⟩
set_option maxRecDepth 100000 in
theorem Km (b n c i vb m vc:Nat) (cs vs:List Value) (cur:Array Value) (w:World) (hi:i<n) (hm:0<m) (hnc:n<=c) (hroom:c<n+m) (hbig:(n+m)*56<=140737488355328) (hc63:c<=9223372036854775807)
    (hcl:cs.length=n*4) (hvl:vs.length=m*4) (hb:w.heap[b]? = some (.cells cur 320 (0,0))) (htk:cur.toList.take (n*4)=cs) (vcur:Array Value) (hv:w.heap[vb]? = some (.cells vcur 320 (0,0))) (hvtk:vcur.toList.take (m*4)=vs)
    (h1c : ∀v∈cs,v.oneCell'=true) (h1v : ∀v∈vs,v.oneCell'=true) :
    Calls Tryz.prog 492 #[.slice (some ⟨b,0,none⟩) n c,.int .i64 i,.slice (some ⟨vb,0,none⟩) m vc] w λe w' =>
      ∃A G,e = .returned (.slice (some ⟨w.heap.size,0,none⟩) (n+m) G)/\A.toList.take ((n+m)*4)=cs.take (i*4)++(vs++cs.drop (i*4))/\n+m<=G/\G<=maxLen/\A.size=G*4/\w'.heap[w.heap.size]? = some (.cells A 320 (0,0))/\w.grownBy w' none:=by
  obtain ⟨ze,ie,hie,hze,hsz,hby,hzz⟩:=G4
  have t79:=u79;have t3:=u3;have t4:=u4
  have aa : ∀w,(Go.sizeOf 320).run Tryz.prog w = .ok 4 w:=λw=>by simp [Go.sizeOf,typeInfo,hie,hsz]
  have ae:=run_underlying u79;have r3:=run_underlying u3;have r4:=run_underlying u4
  have hz1 : ¬((m:Int)=0):=by omega
  have hz2 : ¬((i:Int)=(n:Int)):=by omega
  have hz3:(c:Int)<(n:Int)+(m:Int):=by omega
  have mixed:Tryz.prog.follows .mixedOrders=true:=by kernel_rfl
  obtain ⟨G,W1,A1,A2,hGn,hG63',hrz,hcpA,hcpB,hfin⟩:=Se ⟨u79,u3,G4⟩ jG jG b n c i vb m vc cs vs cur w hi hm hnc hroom hbig hc63 hcl hvl hb htk vcur hv hvtk h1c h1v
  have hG63:G<=9223372036854775807:=by have:=hG63';unfold maxLen at this;omega
  have hw1:i64.wrap ((i:Int)+(m:Int))=(i:Int)+(m:Int):=by rw [IntKind.wrap_i64];omega
  have hb1:(0:Int)<=(i:Int)+(m:Int):=by omega
  have hin:i<=n:=by omega
  have htn:((i:Int)+(m:Int)).toNat=i+m:=by omega
  have hb3:(i:Int)<=(n:Int):=by omega
  have hGi : ¬(G=i):=by omega
  have hGim : ¬(G=i+m):=by omega
  have hci : ¬(c=i):=by omega
  clear hb hv htk hvtk
  refine calls_of_wp Tryz.func492 rfl ?_
  simp only [show Tryz.f492.ntmps=95 from rfl,List.size_toArray,qJ,qK,Nat.reduceAdd,Nat.reduceSub,Array.replicate_succ,
     Array.replicate_zero,List.push_toArray,List.append_toArray,List.nil_append,List.cons_append]
  go_wp2_with (first
    | (at_builtin;refine Lib.wpList_append_run _ rfl _ _ _ _ rfl _ _ rfl rfl _ _ (hrz _) ?_)
    | (at_builtin;refine tN _ rfl _ _ 73 73 rfl _ _ rfl rfl (hcpA _ _) ?_))
  go_region_law_o (refine Ax rfl _ _ 73 73 rfl (.slice (some ⟨w.heap.size,(i+m)*4,none⟩) (n+m-(i+m)) (G-(i+m))) (.slice (some ⟨b,i*4,none⟩) (n-i) (c-i)) jL jL (hcpB 3 (G-(i+m)) (c-i)) ?_)
  go_wp2
  go_ret
  obtain ⟨A,hA⟩:=hfin
  exact ⟨A,G,rfl,hA⟩
set_option maxRecDepth 100000 in
theorem NL (base b0 n m i:Nat) (v v2:Value) (cells cells2:List Value) (w:World) (hb:base<=w.heap.size) (hown:w.ownsRow base 320 4 v n cells) (hown2:w.ownsRow base 320 4 v2 m cells2) (hm:0<m) (hbig:(n+m)*56<=140737488355328) (h1v : ∀u∈cells2,u.oneCell'=true) :
    Calls Tryz.prog 492 #[v,.int .i64 n,v2] w (Pr base 320 4 w v (n+m) (cells++cells2)):=by
  obtain ⟨ze,ie,hie,hze,hsz,hby,hzz⟩:=G4
  have t79:=u79;have t3:=u3;have t4:=u4
  have aa:=run_underlying u79;have r3:=run_underlying u3;have r4:=run_underlying u4
  have hz1 : ¬((m:Int)=0):=by omega
  obtain ⟨v',w',r1,post⟩:=WK ⟨u79,u3,G4⟩ jG jG base b0 n m i v v2 cells cells2 w hb hown hown2 hm hbig h1v
  rcases hown2.2 with ⟨_,h0⟩ | ⟨vb,vc,vcur,rfl,hv1,hv,hv3,hv4,hv5,hvtk⟩
  · omega
  have hlen:(Builtin.len_ #[73] 3 #[v]).run Tryz.prog w = .ok (.int .i64 n) w:=by rcases hown.2 with ⟨rfl,rfl⟩ | ⟨g,cap,cur,rfl,_⟩<;>simp [Builtin.len_,aa,goInt]
  refine calls_of_wp Tryz.func492 rfl ?_
  simp only [show Tryz.f492.ntmps=95 from rfl,List.size_toArray,qJ,qK,Nat.reduceAdd,Nat.reduceSub,Array.replicate_succ,
     Array.replicate_zero,List.push_toArray,List.append_toArray,List.nil_append,List.cons_append]
  have ae : ∀w,(Go.sizeOf 320).run Tryz.prog w = .ok 4 w:=λw=>by simp [Go.sizeOf,typeInfo,hie,hsz]
  rcases hown.2 with ⟨rfl,rfl⟩ | ⟨g,cap,cur,rfl,hg1,hg2,hg3,_⟩
  · clear hown hown2
    go_wp2_with (at_builtin;refine Lib.wpList_append_run _ rfl _ _ _ _ rfl _ _ rfl rfl _ _ (r1 _) ?_)
    go_ret
    exact post
  · clear hown hown2
    go_wp2_with (at_builtin;refine Lib.wpList_append_run _ rfl _ _ _ _ rfl _ _ rfl rfl _ _ (r1 _) ?_)
    all_goals (go_ret;exact post)
theorem aAx (args:List (Bool×List D)):pH Tryz.prog 492 args [(false,[.edit (.ins 320 4 56)])]:=by
 refine .inr (.inl ⟨_,rfl,⟨_,_,Tryz.func492,rfl,jH⟩,?_⟩)
 intro base w v v2 n m cells cells2 i hb hown hown2 hne hi hm hbig h1c h1v
 by_cases hin:i=n
 ·subst hin;have hl:cells.length=i*4:=hown.1;rw [List.take_of_length_le jD,List.drop_of_length_le jD,qX];exact NL base 0 i m i v v2 cells cells2 w hb hown hown2 hm hbig h1v
 ·rcases hown.2 with ⟨_,h0⟩ | ⟨b,c,cur,rfl,hb1,hb2,hb3,hb4,hb5,htk⟩
  ·omega
  rcases hown2.2 with ⟨_,h0⟩ | ⟨vb,vc,vcur,rfl,hv1,hv2,hv3,hv4,hv5,hvtk⟩
  ·omega
  have hvb:vb≠b:=λe=>hne b rfl (by rw [e];rfl)
  have hc63:c<=9223372036854775807:=by unfold maxLen at hb4;omega
  by_cases hroom:n+m<=c
  ·refine (KD b n c i vb m vc cells cells2 cur w jD hm hroom hc63 hvb hown.1 hown2.1 hb2 hb5 htk vcur hv2 hvtk h1c h1v).mono ?_;rintro e w' ⟨A,rfl,q1,q2,q3,q4⟩;refine ⟨_,rfl,⟨?_,.inr ⟨b,c,A,rfl,hb1,q3,hroom,hb4,q2,q1⟩⟩,q4,.inl rfl⟩;simp only [qE,qU,qV,hown.1,hown2.1];omega
  ·refine (Km b n c i vb m vc cells cells2 cur w jD hm hb3 jD hbig hc63 hown.1 hown2.1 hb2 htk vcur hv2 hvtk h1c h1v).mono ?_;rintro e w' ⟨A,G,rfl,q1,q2,q3,q4,q5,q6⟩;refine ⟨_,rfl,⟨?_,.inr ⟨w.heap.size,G,A,rfl,hb,q5,q2,q3,q4,q1⟩⟩,⟨q6.os,q6.tape,q6.output,q6.size,λk hk _=>q6.block k hk jF⟩,.inr ⟨_,qf _,rfl⟩⟩;simp only [qE,qU,qV,hown.1,hown2.1];omega
end L492
instance aIu:aW 492 (type_of% @L492.aAx):=⟨@L492.aAx⟩
namespace L274
theorem u79:Tryz.prog.underlying 205=some (.slice 322):=by kernel_rfl
theorem u3:Tryz.prog.underlying 3=some (.int .i64):=by kernel_rfl
theorem u4:Tryz.prog.underlying 4=some .bool:=by kernel_rfl
theorem aAt:(Tryz.prog.info? 322).map (λi=>(i.size,i.bytes,i.zero.isSome,(i.zero.map λz=>z.cells.size)))=some (2,24,true,some 2):=by kernel_rfl
theorem G4 : ∃z i,Tryz.prog.info? 322=some i/\i.zero=some z/\i.size=2/\i.bytes=24/\z.cells.size=2:=by
 have h:=aAt
 cases hi:Tryz.prog.info? 322 with
 | none=>rw [hi] at h;cases h
 | some i =>
  rw [hi] at h
  simp only [Option.map_some,qb,qa] at h
  obtain ⟨h1,h2,h3,h4⟩:=h
  cases hz:i.zero with
  | none=>rw [hz] at h3;cases h3
  | some z =>
   rw [hz] at h4
   exact ⟨z,i,rfl,hz,h1,h2,by simpa using h4⟩
set_option maxRecDepth 100000 in
theorem KD (b n c i vb m vc:Nat) (cs vs:List Value) (cur:Array Value) (w:World) (hi:i<n) (hm:0<m) (hroom:n+m<=c) (hc63:c<=9223372036854775807) (hvb:vb≠b)
    (hcl:cs.length=n*2) (hvl:vs.length=m*2) (hb:w.heap[b]? = some (.cells cur 322 (0,0))) (hcur:cur.size=c*2) (htk:cur.toList.take (n*2)=cs) (vcur:Array Value) (hv:w.heap[vb]? = some (.cells vcur 322 (0,0))) (hvtk:vcur.toList.take (m*2)=vs)
    (h1c : ∀v∈cs,v.oneCell'=true) (h1v : ∀v∈vs,v.oneCell'=true) :
    Calls Tryz.prog 274 #[.slice (some ⟨b,0,none⟩) n c,.int .i64 i,.slice (some ⟨vb,0,none⟩) m vc] w λe w' =>
      ∃A,e = .returned (.slice (some ⟨b,0,none⟩) (n+m) c)/\A.toList.take ((n+m)*2)=cs.take (i*2)++(vs++cs.drop (i*2))/\A.size=c*2/\w'.heap[b]? = some (.cells A 322 (0,0))/\w.grownBy w' (some b):=by
  obtain ⟨ze,ie,hie,hze,hsz,hby,hzz⟩:=G4
  have t79:=u79;have t3:=u3;have t4:=u4
  have aa : ∀w,(Go.sizeOf 322).run Tryz.prog w = .ok 2 w:=λw=>by simp [Go.sizeOf,typeInfo,hie,hsz]
  have ae:=run_underlying u79;have r3:=run_underlying u3;have r4:=run_underlying u4
  have hz1 : ¬((m:Int)=0):=by omega
  have hz2 : ¬((i:Int)=(n:Int)):=by omega
  have mixed:Tryz.prog.follows .mixedOrders=true:=by kernel_rfl
  have hov : ∀lb cb,(callFunc 395 #[.slice (some ⟨vb,0,none⟩) m vc,.slice (some ⟨b,(i+m)*2,none⟩) lb cb]).run Tryz.prog w = .ok (.value (.bool false)) w:=λlb cb=>by
    rw [run_callFunc_extern Tryz.func395 (by kernel_rfl) (by kernel_rfl) (by kernel_rfl) (e:=Extern.SlicesOverlaps.overlaps #[205,205] #[4]) (by kernel_rfl),
      Lib.run_overlaps_apart w 205 4 322 u79 2 aa ⟨vb,0,none⟩ ⟨b,(i+m)*2,none⟩ m vc lb cb hvb 322 322 vcur.size cur.size (by simp [World.shape?,hv]) (by simp [World.shape?,hb]) jD (by simp [World.frozen?,hv]) (by simp [World.frozen?,hv])]
    rfl
  have hw1:i64.wrap ((i:Int)+(m:Int))=(i:Int)+(m:Int):=by rw [IntKind.wrap_i64];omega
  have hb1:(0:Int)<=(i:Int)+(m:Int):=by omega
  have hin:i<=n:=by omega
  have htn:((i:Int)+(m:Int)).toNat=i+m:=by omega
  have hb2 : ¬(c=i+m):=by omega
  have hb3:(i:Int)<=(n:Int)+(m:Int):=by omega
  have hb4 : ¬(c=i):=by omega
  obtain ⟨A1,A2,hcp1,hcp2,hfin⟩:=SH ⟨u79,u3,G4⟩ jG b n c i vb m vc cs vs cur w hi hm hroom hc63 hvb hcl hvl hb hcur htk vcur hv hvtk h1c h1v
  clear htk hvtk hcur hb hv
  refine calls_of_wp Tryz.func274 rfl ?_
  simp only [show Tryz.f274.ntmps=95 from rfl,List.size_toArray,qJ,qK,Nat.reduceAdd,Nat.reduceSub,Array.replicate_succ,
     Array.replicate_zero,List.push_toArray,List.append_toArray,List.nil_append,List.cons_append]
  go_wp2_with (simp only [hov])
  go_region_law_o (refine Ax rfl _ _ 205 205 rfl _ _ jL jL (hcp1 _ _ _) ?_)
  go_wp2_with (at_builtin;refine tN _ rfl _ _ 205 205 rfl _ _ rfl rfl (hcp2 _ _) ?_)
  go_ret
  obtain ⟨A,hA⟩:=hfin
  exact ⟨A,rfl,hA⟩
set_option maxRecDepth 100000 in
theorem Km (b n c i vb m vc:Nat) (cs vs:List Value) (cur:Array Value) (w:World) (hi:i<n) (hm:0<m) (hnc:n<=c) (hroom:c<n+m) (hbig:(n+m)*24<=140737488355328) (hc63:c<=9223372036854775807)
    (hcl:cs.length=n*2) (hvl:vs.length=m*2) (hb:w.heap[b]? = some (.cells cur 322 (0,0))) (htk:cur.toList.take (n*2)=cs) (vcur:Array Value) (hv:w.heap[vb]? = some (.cells vcur 322 (0,0))) (hvtk:vcur.toList.take (m*2)=vs)
    (h1c : ∀v∈cs,v.oneCell'=true) (h1v : ∀v∈vs,v.oneCell'=true) :
    Calls Tryz.prog 274 #[.slice (some ⟨b,0,none⟩) n c,.int .i64 i,.slice (some ⟨vb,0,none⟩) m vc] w λe w' =>
      ∃A G,e = .returned (.slice (some ⟨w.heap.size,0,none⟩) (n+m) G)/\A.toList.take ((n+m)*2)=cs.take (i*2)++(vs++cs.drop (i*2))/\n+m<=G/\G<=maxLen/\A.size=G*2/\w'.heap[w.heap.size]? = some (.cells A 322 (0,0))/\w.grownBy w' none:=by
  obtain ⟨ze,ie,hie,hze,hsz,hby,hzz⟩:=G4
  have t79:=u79;have t3:=u3;have t4:=u4
  have aa : ∀w,(Go.sizeOf 322).run Tryz.prog w = .ok 2 w:=λw=>by simp [Go.sizeOf,typeInfo,hie,hsz]
  have ae:=run_underlying u79;have r3:=run_underlying u3;have r4:=run_underlying u4
  have hz1 : ¬((m:Int)=0):=by omega
  have hz2 : ¬((i:Int)=(n:Int)):=by omega
  have hz3:(c:Int)<(n:Int)+(m:Int):=by omega
  have mixed:Tryz.prog.follows .mixedOrders=true:=by kernel_rfl
  obtain ⟨G,W1,A1,A2,hGn,hG63',hrz,hcpA,hcpB,hfin⟩:=Se ⟨u79,u3,G4⟩ jG jG b n c i vb m vc cs vs cur w hi hm hnc hroom hbig hc63 hcl hvl hb htk vcur hv hvtk h1c h1v
  have hG63:G<=9223372036854775807:=by have:=hG63';unfold maxLen at this;omega
  have hw1:i64.wrap ((i:Int)+(m:Int))=(i:Int)+(m:Int):=by rw [IntKind.wrap_i64];omega
  have hb1:(0:Int)<=(i:Int)+(m:Int):=by omega
  have hin:i<=n:=by omega
  have htn:((i:Int)+(m:Int)).toNat=i+m:=by omega
  have hb3:(i:Int)<=(n:Int):=by omega
  have hGi : ¬(G=i):=by omega
  have hGim : ¬(G=i+m):=by omega
  have hci : ¬(c=i):=by omega
  clear hb hv htk hvtk
  refine calls_of_wp Tryz.func274 rfl ?_
  simp only [show Tryz.f274.ntmps=95 from rfl,List.size_toArray,qJ,qK,Nat.reduceAdd,Nat.reduceSub,Array.replicate_succ,
     Array.replicate_zero,List.push_toArray,List.append_toArray,List.nil_append,List.cons_append]
  go_wp2_with (first
    | (at_builtin;refine Lib.wpList_append_run _ rfl _ _ _ _ rfl _ _ rfl rfl _ _ (hrz _) ?_)
    | (at_builtin;refine tN _ rfl _ _ 205 205 rfl _ _ rfl rfl (hcpA _ _) ?_))
  go_region_law_o (refine Ax rfl _ _ 205 205 rfl (.slice (some ⟨w.heap.size,(i+m)*2,none⟩) (n+m-(i+m)) (G-(i+m))) (.slice (some ⟨b,i*2,none⟩) (n-i) (c-i)) jL jL (hcpB 3 (G-(i+m)) (c-i)) ?_)
  go_wp2
  go_ret
  obtain ⟨A,hA⟩:=hfin
  exact ⟨A,G,rfl,hA⟩
set_option maxRecDepth 100000 in
theorem NL (base b0 n m i:Nat) (v v2:Value) (cells cells2:List Value) (w:World) (hb:base<=w.heap.size) (hown:w.ownsRow base 322 2 v n cells) (hown2:w.ownsRow base 322 2 v2 m cells2) (hm:0<m) (hbig:(n+m)*24<=140737488355328) (h1v : ∀u∈cells2,u.oneCell'=true) :
    Calls Tryz.prog 274 #[v,.int .i64 n,v2] w (Pr base 322 2 w v (n+m) (cells++cells2)):=by
  obtain ⟨ze,ie,hie,hze,hsz,hby,hzz⟩:=G4
  have t79:=u79;have t3:=u3;have t4:=u4
  have aa:=run_underlying u79;have r3:=run_underlying u3;have r4:=run_underlying u4
  have hz1 : ¬((m:Int)=0):=by omega
  obtain ⟨v',w',r1,post⟩:=WK ⟨u79,u3,G4⟩ jG jG base b0 n m i v v2 cells cells2 w hb hown hown2 hm hbig h1v
  rcases hown2.2 with ⟨_,h0⟩ | ⟨vb,vc,vcur,rfl,hv1,hv,hv3,hv4,hv5,hvtk⟩
  · omega
  have hlen:(Builtin.len_ #[205] 3 #[v]).run Tryz.prog w = .ok (.int .i64 n) w:=by rcases hown.2 with ⟨rfl,rfl⟩ | ⟨g,cap,cur,rfl,_⟩<;>simp [Builtin.len_,aa,goInt]
  refine calls_of_wp Tryz.func274 rfl ?_
  simp only [show Tryz.f274.ntmps=95 from rfl,List.size_toArray,qJ,qK,Nat.reduceAdd,Nat.reduceSub,Array.replicate_succ,
     Array.replicate_zero,List.push_toArray,List.append_toArray,List.nil_append,List.cons_append]
  have ae : ∀w,(Go.sizeOf 322).run Tryz.prog w = .ok 2 w:=λw=>by simp [Go.sizeOf,typeInfo,hie,hsz]
  rcases hown.2 with ⟨rfl,rfl⟩ | ⟨g,cap,cur,rfl,hg1,hg2,hg3,_⟩
  · clear hown hown2
    go_wp2_with (at_builtin;refine Lib.wpList_append_run _ rfl _ _ _ _ rfl _ _ rfl rfl _ _ (r1 _) ?_)
    go_ret
    exact post
  · clear hown hown2
    go_wp2_with (at_builtin;refine Lib.wpList_append_run _ rfl _ _ _ _ rfl _ _ rfl rfl _ _ (r1 _) ?_)
    all_goals (go_ret;exact post)
theorem aAN (args:List (Bool×List D)):pH Tryz.prog 274 args [(false,[.edit (.ins 322 2 24)])]:=by
 refine .inr (.inl ⟨_,rfl,⟨_,_,Tryz.func274,rfl,jH⟩,?_⟩)
 intro base w v v2 n m cells cells2 i hb hown hown2 hne hi hm hbig h1c h1v
 by_cases hin:i=n
 ·subst hin;have hl:cells.length=i*2:=hown.1;rw [List.take_of_length_le jD,List.drop_of_length_le jD,qX];exact NL base 0 i m i v v2 cells cells2 w hb hown hown2 hm hbig h1v
 ·rcases hown.2 with ⟨_,h0⟩ | ⟨b,c,cur,rfl,hb1,hb2,hb3,hb4,hb5,htk⟩
  ·omega
  rcases hown2.2 with ⟨_,h0⟩ | ⟨vb,vc,vcur,rfl,hv1,hv2,hv3,hv4,hv5,hvtk⟩
  ·omega
  have hvb:vb≠b:=λe=>hne b rfl (by rw [e];rfl)
  have hc63:c<=9223372036854775807:=by unfold maxLen at hb4;omega
  by_cases hroom:n+m<=c
  ·refine (KD b n c i vb m vc cells cells2 cur w jD hm hroom hc63 hvb hown.1 hown2.1 hb2 hb5 htk vcur hv2 hvtk h1c h1v).mono ?_;rintro e w' ⟨A,rfl,q1,q2,q3,q4⟩;refine ⟨_,rfl,⟨?_,.inr ⟨b,c,A,rfl,hb1,q3,hroom,hb4,q2,q1⟩⟩,q4,.inl rfl⟩;simp only [qE,qU,qV,hown.1,hown2.1];omega
  ·refine (Km b n c i vb m vc cells cells2 cur w jD hm hb3 jD hbig hc63 hown.1 hown2.1 hb2 htk vcur hv2 hvtk h1c h1v).mono ?_;rintro e w' ⟨A,G,rfl,q1,q2,q3,q4,q5,q6⟩;refine ⟨_,rfl,⟨?_,.inr ⟨w.heap.size,G,A,rfl,hb,q5,q2,q3,q4,q1⟩⟩,⟨q6.os,q6.tape,q6.output,q6.size,λk hk _=>q6.block k hk jF⟩,.inr ⟨_,qf _,rfl⟩⟩;simp only [qE,qU,qV,hown.1,hown2.1];omega
end L274
instance aI9:aW 274 (type_of% @L274.aAN):=⟨@L274.aAN⟩
namespace L280
theorem u79:Tryz.prog.underlying 37=some (.slice 84):=by kernel_rfl
theorem u3:Tryz.prog.underlying 3=some (.int .i64):=by kernel_rfl
theorem u4:Tryz.prog.underlying 4=some .bool:=by kernel_rfl
theorem aAt:(Tryz.prog.info? 84).map (λi=>(i.size,i.bytes,i.zero.isSome,(i.zero.map λz=>z.cells.size)))=some (24,328,true,some 24):=by kernel_rfl
theorem G4 : ∃z i,Tryz.prog.info? 84=some i/\i.zero=some z/\i.size=24/\i.bytes=328/\z.cells.size=24:=by
 have h:=aAt
 cases hi:Tryz.prog.info? 84 with
 | none=>rw [hi] at h;cases h
 | some i =>
  rw [hi] at h
  simp only [Option.map_some,qb,qa] at h
  obtain ⟨h1,h2,h3,h4⟩:=h
  cases hz:i.zero with
  | none=>rw [hz] at h3;cases h3
  | some z =>
   rw [hz] at h4
   exact ⟨z,i,rfl,hz,h1,h2,by simpa using h4⟩
set_option maxRecDepth 100000 in
theorem KD (b n c i vb m vc:Nat) (cs vs:List Value) (cur:Array Value) (w:World) (hi:i<n) (hm:0<m) (hroom:n+m<=c) (hc63:c<=9223372036854775807) (hvb:vb≠b)
    (hcl:cs.length=n*24) (hvl:vs.length=m*24) (hb:w.heap[b]? = some (.cells cur 84 (0,0))) (hcur:cur.size=c*24) (htk:cur.toList.take (n*24)=cs) (vcur:Array Value) (hv:w.heap[vb]? = some (.cells vcur 84 (0,0))) (hvtk:vcur.toList.take (m*24)=vs)
    (h1c : ∀v∈cs,v.oneCell'=true) (h1v : ∀v∈vs,v.oneCell'=true) :
    Calls Tryz.prog 280 #[.slice (some ⟨b,0,none⟩) n c,.int .i64 i,.slice (some ⟨vb,0,none⟩) m vc] w λe w' =>
      ∃A,e = .returned (.slice (some ⟨b,0,none⟩) (n+m) c)/\A.toList.take ((n+m)*24)=cs.take (i*24)++(vs++cs.drop (i*24))/\A.size=c*24/\w'.heap[b]? = some (.cells A 84 (0,0))/\w.grownBy w' (some b):=by
  obtain ⟨ze,ie,hie,hze,hsz,hby,hzz⟩:=G4
  have t79:=u79;have t3:=u3;have t4:=u4
  have aa : ∀w,(Go.sizeOf 84).run Tryz.prog w = .ok 24 w:=λw=>by simp [Go.sizeOf,typeInfo,hie,hsz]
  have ae:=run_underlying u79;have r3:=run_underlying u3;have r4:=run_underlying u4
  have hz1 : ¬((m:Int)=0):=by omega
  have hz2 : ¬((i:Int)=(n:Int)):=by omega
  have mixed:Tryz.prog.follows .mixedOrders=true:=by kernel_rfl
  have hov : ∀lb cb,(callFunc 403 #[.slice (some ⟨vb,0,none⟩) m vc,.slice (some ⟨b,(i+m)*24,none⟩) lb cb]).run Tryz.prog w = .ok (.value (.bool false)) w:=λlb cb=>by
    rw [run_callFunc_extern Tryz.func403 (by kernel_rfl) (by kernel_rfl) (by kernel_rfl) (e:=Extern.SlicesOverlaps.overlaps #[37,37] #[4]) (by kernel_rfl),
      Lib.run_overlaps_apart w 37 4 84 u79 24 aa ⟨vb,0,none⟩ ⟨b,(i+m)*24,none⟩ m vc lb cb hvb 84 84 vcur.size cur.size (by simp [World.shape?,hv]) (by simp [World.shape?,hb]) jD (by simp [World.frozen?,hv]) (by simp [World.frozen?,hv])]
    rfl
  have hw1:i64.wrap ((i:Int)+(m:Int))=(i:Int)+(m:Int):=by rw [IntKind.wrap_i64];omega
  have hb1:(0:Int)<=(i:Int)+(m:Int):=by omega
  have hin:i<=n:=by omega
  have htn:((i:Int)+(m:Int)).toNat=i+m:=by omega
  have hb2 : ¬(c=i+m):=by omega
  have hb3:(i:Int)<=(n:Int)+(m:Int):=by omega
  have hb4 : ¬(c=i):=by omega
  obtain ⟨A1,A2,hcp1,hcp2,hfin⟩:=SH ⟨u79,u3,G4⟩ jG b n c i vb m vc cs vs cur w hi hm hroom hc63 hvb hcl hvl hb hcur htk vcur hv hvtk h1c h1v
  clear htk hvtk hcur hb hv
  refine calls_of_wp Tryz.func280 rfl ?_
  simp only [show Tryz.f280.ntmps=95 from rfl,List.size_toArray,qJ,qK,Nat.reduceAdd,Nat.reduceSub,Array.replicate_succ,
     Array.replicate_zero,List.push_toArray,List.append_toArray,List.nil_append,List.cons_append]
  go_wp2_with (simp only [hov])
  go_region_law_o (refine Ax rfl _ _ 37 37 rfl _ _ jL jL (hcp1 _ _ _) ?_)
  go_wp2_with (at_builtin;refine tN _ rfl _ _ 37 37 rfl _ _ rfl rfl (hcp2 _ _) ?_)
  go_ret
  obtain ⟨A,hA⟩:=hfin
  exact ⟨A,rfl,hA⟩
set_option maxRecDepth 100000 in
theorem Km (b n c i vb m vc:Nat) (cs vs:List Value) (cur:Array Value) (w:World) (hi:i<n) (hm:0<m) (hnc:n<=c) (hroom:c<n+m) (hbig:(n+m)*328<=140737488355328) (hc63:c<=9223372036854775807)
    (hcl:cs.length=n*24) (hvl:vs.length=m*24) (hb:w.heap[b]? = some (.cells cur 84 (0,0))) (htk:cur.toList.take (n*24)=cs) (vcur:Array Value) (hv:w.heap[vb]? = some (.cells vcur 84 (0,0))) (hvtk:vcur.toList.take (m*24)=vs)
    (h1c : ∀v∈cs,v.oneCell'=true) (h1v : ∀v∈vs,v.oneCell'=true) :
    Calls Tryz.prog 280 #[.slice (some ⟨b,0,none⟩) n c,.int .i64 i,.slice (some ⟨vb,0,none⟩) m vc] w λe w' =>
      ∃A G,e = .returned (.slice (some ⟨w.heap.size,0,none⟩) (n+m) G)/\A.toList.take ((n+m)*24)=cs.take (i*24)++(vs++cs.drop (i*24))/\n+m<=G/\G<=maxLen/\A.size=G*24/\w'.heap[w.heap.size]? = some (.cells A 84 (0,0))/\w.grownBy w' none:=by
  obtain ⟨ze,ie,hie,hze,hsz,hby,hzz⟩:=G4
  have t79:=u79;have t3:=u3;have t4:=u4
  have aa : ∀w,(Go.sizeOf 84).run Tryz.prog w = .ok 24 w:=λw=>by simp [Go.sizeOf,typeInfo,hie,hsz]
  have ae:=run_underlying u79;have r3:=run_underlying u3;have r4:=run_underlying u4
  have hz1 : ¬((m:Int)=0):=by omega
  have hz2 : ¬((i:Int)=(n:Int)):=by omega
  have hz3:(c:Int)<(n:Int)+(m:Int):=by omega
  have mixed:Tryz.prog.follows .mixedOrders=true:=by kernel_rfl
  obtain ⟨G,W1,A1,A2,hGn,hG63',hrz,hcpA,hcpB,hfin⟩:=Se ⟨u79,u3,G4⟩ jG jG b n c i vb m vc cs vs cur w hi hm hnc hroom hbig hc63 hcl hvl hb htk vcur hv hvtk h1c h1v
  have hG63:G<=9223372036854775807:=by have:=hG63';unfold maxLen at this;omega
  have hw1:i64.wrap ((i:Int)+(m:Int))=(i:Int)+(m:Int):=by rw [IntKind.wrap_i64];omega
  have hb1:(0:Int)<=(i:Int)+(m:Int):=by omega
  have hin:i<=n:=by omega
  have htn:((i:Int)+(m:Int)).toNat=i+m:=by omega
  have hb3:(i:Int)<=(n:Int):=by omega
  have hGi : ¬(G=i):=by omega
  have hGim : ¬(G=i+m):=by omega
  have hci : ¬(c=i):=by omega
  clear hb hv htk hvtk
  refine calls_of_wp Tryz.func280 rfl ?_
  simp only [show Tryz.f280.ntmps=95 from rfl,List.size_toArray,qJ,qK,Nat.reduceAdd,Nat.reduceSub,Array.replicate_succ,
     Array.replicate_zero,List.push_toArray,List.append_toArray,List.nil_append,List.cons_append]
  go_wp2_with (first
    | (at_builtin;refine Lib.wpList_append_run _ rfl _ _ _ _ rfl _ _ rfl rfl _ _ (hrz _) ?_)
    | (at_builtin;refine tN _ rfl _ _ 37 37 rfl _ _ rfl rfl (hcpA _ _) ?_))
  go_region_law_o (refine Ax rfl _ _ 37 37 rfl (.slice (some ⟨w.heap.size,(i+m)*24,none⟩) (n+m-(i+m)) (G-(i+m))) (.slice (some ⟨b,i*24,none⟩) (n-i) (c-i)) jL jL (hcpB 3 (G-(i+m)) (c-i)) ?_)
  go_wp2
  go_ret
  obtain ⟨A,hA⟩:=hfin
  exact ⟨A,G,rfl,hA⟩
set_option maxRecDepth 100000 in
theorem NL (base b0 n m i:Nat) (v v2:Value) (cells cells2:List Value) (w:World) (hb:base<=w.heap.size) (hown:w.ownsRow base 84 24 v n cells) (hown2:w.ownsRow base 84 24 v2 m cells2) (hm:0<m) (hbig:(n+m)*328<=140737488355328) (h1v : ∀u∈cells2,u.oneCell'=true) :
    Calls Tryz.prog 280 #[v,.int .i64 n,v2] w (Pr base 84 24 w v (n+m) (cells++cells2)):=by
  obtain ⟨ze,ie,hie,hze,hsz,hby,hzz⟩:=G4
  have t79:=u79;have t3:=u3;have t4:=u4
  have aa:=run_underlying u79;have r3:=run_underlying u3;have r4:=run_underlying u4
  have hz1 : ¬((m:Int)=0):=by omega
  obtain ⟨v',w',r1,post⟩:=WK ⟨u79,u3,G4⟩ jG jG base b0 n m i v v2 cells cells2 w hb hown hown2 hm hbig h1v
  rcases hown2.2 with ⟨_,h0⟩ | ⟨vb,vc,vcur,rfl,hv1,hv,hv3,hv4,hv5,hvtk⟩
  · omega
  have hlen:(Builtin.len_ #[37] 3 #[v]).run Tryz.prog w = .ok (.int .i64 n) w:=by rcases hown.2 with ⟨rfl,rfl⟩ | ⟨g,cap,cur,rfl,_⟩<;>simp [Builtin.len_,aa,goInt]
  refine calls_of_wp Tryz.func280 rfl ?_
  simp only [show Tryz.f280.ntmps=95 from rfl,List.size_toArray,qJ,qK,Nat.reduceAdd,Nat.reduceSub,Array.replicate_succ,
     Array.replicate_zero,List.push_toArray,List.append_toArray,List.nil_append,List.cons_append]
  have ae : ∀w,(Go.sizeOf 84).run Tryz.prog w = .ok 24 w:=λw=>by simp [Go.sizeOf,typeInfo,hie,hsz]
  rcases hown.2 with ⟨rfl,rfl⟩ | ⟨g,cap,cur,rfl,hg1,hg2,hg3,_⟩
  · clear hown hown2
    go_wp2_with (at_builtin;refine Lib.wpList_append_run _ rfl _ _ _ _ rfl _ _ rfl rfl _ _ (r1 _) ?_)
    go_ret
    exact post
  · clear hown hown2
    go_wp2_with (at_builtin;refine Lib.wpList_append_run _ rfl _ _ _ _ rfl _ _ rfl rfl _ _ (r1 _) ?_)
    all_goals (go_ret;exact post)
theorem aAU (args:List (Bool×List D)):pH Tryz.prog 280 args [(false,[.edit (.ins 84 24 328)])]:=by
 refine .inr (.inl ⟨_,rfl,⟨_,_,Tryz.func280,rfl,jH⟩,?_⟩)
 intro base w v v2 n m cells cells2 i hb hown hown2 hne hi hm hbig h1c h1v
 by_cases hin:i=n
 ·subst hin;have hl:cells.length=i*24:=hown.1;rw [List.take_of_length_le jD,List.drop_of_length_le jD,qX];exact NL base 0 i m i v v2 cells cells2 w hb hown hown2 hm hbig h1v
 ·rcases hown.2 with ⟨_,h0⟩ | ⟨b,c,cur,rfl,hb1,hb2,hb3,hb4,hb5,htk⟩
  ·omega
  rcases hown2.2 with ⟨_,h0⟩ | ⟨vb,vc,vcur,rfl,hv1,hv2,hv3,hv4,hv5,hvtk⟩
  ·omega
  have hvb:vb≠b:=λe=>hne b rfl (by rw [e];rfl)
  have hc63:c<=9223372036854775807:=by unfold maxLen at hb4;omega
  by_cases hroom:n+m<=c
  ·refine (KD b n c i vb m vc cells cells2 cur w jD hm hroom hc63 hvb hown.1 hown2.1 hb2 hb5 htk vcur hv2 hvtk h1c h1v).mono ?_;rintro e w' ⟨A,rfl,q1,q2,q3,q4⟩;refine ⟨_,rfl,⟨?_,.inr ⟨b,c,A,rfl,hb1,q3,hroom,hb4,q2,q1⟩⟩,q4,.inl rfl⟩;simp only [qE,qU,qV,hown.1,hown2.1];omega
  ·refine (Km b n c i vb m vc cells cells2 cur w jD hm hb3 jD hbig hc63 hown.1 hown2.1 hb2 htk vcur hv2 hvtk h1c h1v).mono ?_;rintro e w' ⟨A,G,rfl,q1,q2,q3,q4,q5,q6⟩;refine ⟨_,rfl,⟨?_,.inr ⟨w.heap.size,G,A,rfl,hb,q5,q2,q3,q4,q1⟩⟩,⟨q6.os,q6.tape,q6.output,q6.size,λk hk _=>q6.block k hk jF⟩,.inr ⟨_,qf _,rfl⟩⟩;simp only [qE,qU,qV,hown.1,hown2.1];omega
end L280
instance aJA:aW 280 (type_of% @L280.aAU):=⟨@L280.aAU⟩
end Go.Proofs.YtjlnkcoeghonfaaGreat.gen
