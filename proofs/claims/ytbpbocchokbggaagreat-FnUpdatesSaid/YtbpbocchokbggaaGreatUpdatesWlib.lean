/-
  Helper text. No conditions.
-/
import Derived.Test.YtbpbocchokbggaaGreatUpdatesTi
import Derived.Lib.Walk
import Derived.WalkKit
import Derived.Shelf.RegionOpenPlain
import Derived.Lib.JoinLaws
import Derived.Laws.Externs
set_option linter.unusedVariables false
set_option linter.unusedSimpArgs false
namespace Go.Proofs.YtbpbocchokbggaaGreat.gen
open Go Go.Sh
open Go.IntKind (i64)
set_option maxRecDepth 20000
set_option maxHeartbeats 4000000
namespace L587
theorem u79:Tryz.prog.underlying 115=some (.slice 260):=by kernel_rfl
theorem u3:Tryz.prog.underlying 3=some (.int .i64):=by kernel_rfl
theorem u4:Tryz.prog.underlying 4=some .bool:=by kernel_rfl
theorem aBz:(Tryz.prog.info? 260).map (λi=>(i.size,i.bytes,i.zero.isSome,(i.zero.map λz=>z.cells.size)))=some (4,56,true,some 4):=by kernel_rfl
theorem Fs : ∃z i,Tryz.prog.info? 260=some i/\i.zero=some z/\i.size=4/\i.bytes=56/\z.cells.size=4:=by
 have h:=aBz
 cases hi:Tryz.prog.info? 260 with
 | none=>rw [hi] at h;cases h
 | some i =>
  rw [hi] at h
  simp only [Option.map_some,qb,qa] at h
  obtain ⟨h1,h2,h3,h4⟩:=h
  cases hz:i.zero with
  | none=>rw [hz] at h3;cases h3
  | some z =>
   rw [hz] at h4
   exact ⟨z,i,rfl,hz,h1,h2,by simpa using h4⟩
set_option maxRecDepth 100000 in
theorem Ju (b n c i vb m vc:Nat) (cs vs:List Value) (cur:Array Value) (w:World) (hi:i<n) (hm:0<m) (hroom:n+m<=c) (hc63:c<=9223372036854775807) (hvb:vb≠b)
    (hcl:cs.length=n*4) (hvl:vs.length=m*4) (hb:w.heap[b]? = some (.cells cur 260 (0,0))) (hcur:cur.size=c*4) (htk:cur.toList.take (n*4)=cs) (vcur:Array Value) (hv:w.heap[vb]? = some (.cells vcur 260 (0,0))) (hvtk:vcur.toList.take (m*4)=vs)
    (h1c : ∀v∈cs,v.oneCell'=true) (h1v : ∀v∈vs,v.oneCell'=true) :
    Calls Tryz.prog 587 #[.slice (some ⟨b,0,none⟩) n c,.int .i64 i,.slice (some ⟨vb,0,none⟩) m vc] w λe w' =>
      ∃A,e = .returned (.slice (some ⟨b,0,none⟩) (n+m) c)/\A.toList.take ((n+m)*4)=cs.take (i*4)++(vs++cs.drop (i*4))/\A.size=c*4/\w'.heap[b]? = some (.cells A 260 (0,0))/\w.grownBy w' (some b):=by
  obtain ⟨ze,ie,hie,hze,hsz,hby,hzz⟩:=Fs
  have t79:=u79;have t3:=u3;have t4:=u4
  have aa : ∀w,(Go.sizeOf 260).run Tryz.prog w = .ok 4 w:=λw=>by simp [Go.sizeOf,typeInfo,hie,hsz]
  have ae:=run_underlying u79;have r3:=run_underlying u3;have r4:=run_underlying u4
  have hz1 : ¬((m:Int)=0):=by omega
  have hz2 : ¬((i:Int)=(n:Int)):=by omega
  have mixed:Tryz.prog.follows .mixedOrders=true:=by kernel_rfl
  have hov : ∀lb cb,(callFunc 618 #[.slice (some ⟨vb,0,none⟩) m vc,.slice (some ⟨b,(i+m)*4,none⟩) lb cb]).run Tryz.prog w = .ok (.value (.bool false)) w:=λlb cb=>by
    rw [run_callFunc_extern Tryz.func618 (by kernel_rfl) (by kernel_rfl) (by kernel_rfl) (e:=Extern.SlicesOverlaps.overlaps #[115,115] #[4]) (by kernel_rfl),
      Lib.run_overlaps_apart w 115 4 260 u79 4 aa ⟨vb,0,none⟩ ⟨b,(i+m)*4,none⟩ m vc lb cb hvb 260 260 vcur.size cur.size (by simp [World.shape?,hv]) (by simp [World.shape?,hb]) jB (by simp [World.frozen?,hv]) (by simp [World.frozen?,hv])]
    rfl
  have hw1:i64.wrap ((i:Int)+(m:Int))=(i:Int)+(m:Int):=by rw [IntKind.wrap_i64];omega
  have hb1:(0:Int)<=(i:Int)+(m:Int):=by omega
  have hin:i<=n:=by omega
  have htn:((i:Int)+(m:Int)).toNat=i+m:=by omega
  have hb2 : ¬(c=i+m):=by omega
  have hb3:(i:Int)<=(n:Int)+(m:Int):=by omega
  have hb4 : ¬(c=i):=by omega
  obtain ⟨A1,A2,hcp1,hcp2,hfin⟩:=RT ⟨u79,u3,Fs⟩ jE b n c i vb m vc cs vs cur w hi hm hroom hc63 hvb hcl hvl hb hcur htk vcur hv hvtk h1c h1v
  clear htk hvtk hcur hb hv
  refine calls_of_wp Tryz.func587 rfl ?_
  simp only [show Tryz.f587.ntmps=95 from rfl,List.size_toArray,qJ,qK,Nat.reduceAdd,Nat.reduceSub,Array.replicate_succ,
     Array.replicate_zero,List.push_toArray,List.append_toArray,List.nil_append,List.cons_append]
  go_wp2_with (simp only [hov])
  go_region_law_o (refine AE rfl _ _ 115 115 rfl _ _ jL jL (hcp1 _ _ _) ?_)
  go_wp2_with (at_builtin;refine wT _ rfl _ _ 115 115 rfl _ _ rfl rfl (hcp2 _ _) ?_)
  go_ret
  obtain ⟨A,hA⟩:=hfin
  exact ⟨A,rfl,hA⟩
set_option maxRecDepth 100000 in
theorem I8 (b n c i vb m vc:Nat) (cs vs:List Value) (cur:Array Value) (w:World) (hi:i<n) (hm:0<m) (hnc:n<=c) (hroom:c<n+m) (hbig:(n+m)*56<=140737488355328) (hc63:c<=9223372036854775807)
    (hcl:cs.length=n*4) (hvl:vs.length=m*4) (hb:w.heap[b]? = some (.cells cur 260 (0,0))) (htk:cur.toList.take (n*4)=cs) (vcur:Array Value) (hv:w.heap[vb]? = some (.cells vcur 260 (0,0))) (hvtk:vcur.toList.take (m*4)=vs)
    (h1c : ∀v∈cs,v.oneCell'=true) (h1v : ∀v∈vs,v.oneCell'=true) :
    Calls Tryz.prog 587 #[.slice (some ⟨b,0,none⟩) n c,.int .i64 i,.slice (some ⟨vb,0,none⟩) m vc] w λe w' =>
      ∃A G,e = .returned (.slice (some ⟨w.heap.size,0,none⟩) (n+m) G)/\A.toList.take ((n+m)*4)=cs.take (i*4)++(vs++cs.drop (i*4))/\n+m<=G/\G<=maxLen/\A.size=G*4/\w'.heap[w.heap.size]? = some (.cells A 260 (0,0))/\w.grownBy w' none:=by
  obtain ⟨ze,ie,hie,hze,hsz,hby,hzz⟩:=Fs
  have t79:=u79;have t3:=u3;have t4:=u4
  have aa : ∀w,(Go.sizeOf 260).run Tryz.prog w = .ok 4 w:=λw=>by simp [Go.sizeOf,typeInfo,hie,hsz]
  have ae:=run_underlying u79;have r3:=run_underlying u3;have r4:=run_underlying u4
  have hz1 : ¬((m:Int)=0):=by omega
  have hz2 : ¬((i:Int)=(n:Int)):=by omega
  have hz3:(c:Int)<(n:Int)+(m:Int):=by omega
  have mixed:Tryz.prog.follows .mixedOrders=true:=by kernel_rfl
  obtain ⟨G,W1,A1,A2,hGn,hG63',hrz,hcpA,hcpB,hfin⟩:=Rn ⟨u79,u3,Fs⟩ jE jE b n c i vb m vc cs vs cur w hi hm hnc hroom hbig hc63 hcl hvl hb htk vcur hv hvtk h1c h1v
  have hG63:G<=9223372036854775807:=by have:=hG63';unfold maxLen at this;omega
  have hw1:i64.wrap ((i:Int)+(m:Int))=(i:Int)+(m:Int):=by rw [IntKind.wrap_i64];omega
  have hb1:(0:Int)<=(i:Int)+(m:Int):=by omega
  have hin:i<=n:=by omega
  have htn:((i:Int)+(m:Int)).toNat=i+m:=by omega
  have hb3:(i:Int)<=(n:Int):=by omega
  have hGi : ¬(G=i):=by omega
  have hGim : ¬(G=i+m):=by omega
  have hci : ¬(c=i):=by omega
  clear hb hv htk hvtk
  refine calls_of_wp Tryz.func587 rfl ?_
  simp only [show Tryz.f587.ntmps=95 from rfl,List.size_toArray,qJ,qK,Nat.reduceAdd,Nat.reduceSub,Array.replicate_succ,
     Array.replicate_zero,List.push_toArray,List.append_toArray,List.nil_append,List.cons_append]
  go_wp2_with (first
    | (at_builtin;refine Lib.wpList_append_run _ rfl _ _ _ _ rfl _ _ rfl rfl _ _ (hrz _) ?_)
    | (at_builtin;refine wT _ rfl _ _ 115 115 rfl _ _ rfl rfl (hcpA _ _) ?_))
  go_region_law_o (refine AE rfl _ _ 115 115 rfl (.slice (some ⟨w.heap.size,(i+m)*4,none⟩) (n+m-(i+m)) (G-(i+m))) (.slice (some ⟨b,i*4,none⟩) (n-i) (c-i)) jL jL (hcpB 3 (G-(i+m)) (c-i)) ?_)
  go_wp2
  go_ret
  obtain ⟨A,hA⟩:=hfin
  exact ⟨A,G,rfl,hA⟩
set_option maxRecDepth 100000 in
theorem Mw (base b0 n m i:Nat) (v v2:Value) (cells cells2:List Value) (w:World) (hb:base<=w.heap.size) (hown:w.ownsRow base 260 4 v n cells) (hown2:w.ownsRow base 260 4 v2 m cells2) (hm:0<m) (hbig:(n+m)*56<=140737488355328) (h1v : ∀u∈cells2,u.oneCell'=true) :
    Calls Tryz.prog 587 #[v,.int .i64 n,v2] w (Oh base 260 4 w v (n+m) (cells++cells2)):=by
  obtain ⟨ze,ie,hie,hze,hsz,hby,hzz⟩:=Fs
  have t79:=u79;have t3:=u3;have t4:=u4
  have aa:=run_underlying u79;have r3:=run_underlying u3;have r4:=run_underlying u4
  have hz1 : ¬((m:Int)=0):=by omega
  obtain ⟨v',w',r1,post⟩:=WL ⟨u79,u3,Fs⟩ jE jE base b0 n m i v v2 cells cells2 w hb hown hown2 hm hbig h1v
  rcases hown2.2 with ⟨_,h0⟩ | ⟨vb,vc,vcur,rfl,hv1,hv,hv3,hv4,hv5,hvtk⟩
  · omega
  have hlen:(Builtin.len_ #[115] 3 #[v]).run Tryz.prog w = .ok (.int .i64 n) w:=by rcases hown.2 with ⟨rfl,rfl⟩ | ⟨g,cap,cur,rfl,_⟩<;>simp [Builtin.len_,aa,goInt]
  refine calls_of_wp Tryz.func587 rfl ?_
  simp only [show Tryz.f587.ntmps=95 from rfl,List.size_toArray,qJ,qK,Nat.reduceAdd,Nat.reduceSub,Array.replicate_succ,
     Array.replicate_zero,List.push_toArray,List.append_toArray,List.nil_append,List.cons_append]
  have ae : ∀w,(Go.sizeOf 260).run Tryz.prog w = .ok 4 w:=λw=>by simp [Go.sizeOf,typeInfo,hie,hsz]
  rcases hown.2 with ⟨rfl,rfl⟩ | ⟨g,cap,cur,rfl,hg1,hg2,hg3,_⟩
  · clear hown hown2
    go_wp2_with (at_builtin;refine Lib.wpList_append_run _ rfl _ _ _ _ rfl _ _ rfl rfl _ _ (r1 _) ?_)
    go_ret
    exact post
  · clear hown hown2
    go_wp2_with (at_builtin;refine Lib.wpList_append_run _ rfl _ _ _ _ rfl _ _ rfl rfl _ _ (r1 _) ?_)
    all_goals (go_ret;exact post)
theorem aBR (args:List (Bool×List D)):kD Tryz.prog 587 args [(false,[.edit (.ins 260 4 56)])]:=by
 refine .inr (.inl ⟨_,rfl,⟨_,_,Tryz.func587,rfl,jF⟩,?_⟩)
 intro base w v v2 n m cells cells2 i hb hown hown2 hne hi hm hbig h1c h1v
 by_cases hin:i=n
 ·subst hin;have hl:cells.length=i*4:=hown.1;rw [List.take_of_length_le jB,List.drop_of_length_le jB,qX];exact Mw base 0 i m i v v2 cells cells2 w hb hown hown2 hm hbig h1v
 ·rcases hown.2 with ⟨_,h0⟩ | ⟨b,c,cur,rfl,hb1,hb2,hb3,hb4,hb5,htk⟩
  ·omega
  rcases hown2.2 with ⟨_,h0⟩ | ⟨vb,vc,vcur,rfl,hv1,hv2,hv3,hv4,hv5,hvtk⟩
  ·omega
  have hvb:vb≠b:=λe=>hne b rfl (by rw [e];rfl)
  have hc63:c<=9223372036854775807:=by unfold maxLen at hb4;omega
  by_cases hroom:n+m<=c
  ·refine (Ju b n c i vb m vc cells cells2 cur w jB hm hroom hc63 hvb hown.1 hown2.1 hb2 hb5 htk vcur hv2 hvtk h1c h1v).mono ?_;rintro e w' ⟨A,rfl,q1,q2,q3,q4⟩;refine ⟨_,rfl,⟨?_,.inr ⟨b,c,A,rfl,hb1,q3,hroom,hb4,q2,q1⟩⟩,q4,.inl rfl⟩;simp only [qE,qU,qV,hown.1,hown2.1];omega
  ·refine (I8 b n c i vb m vc cells cells2 cur w jB hm hb3 jB hbig hc63 hown.1 hown2.1 hb2 htk vcur hv2 hvtk h1c h1v).mono ?_;rintro e w' ⟨A,G,rfl,q1,q2,q3,q4,q5,q6⟩;refine ⟨_,rfl,⟨?_,.inr ⟨w.heap.size,G,A,rfl,hb,q5,q2,q3,q4,q1⟩⟩,⟨q6.os,q6.tape,q6.output,q6.size,λk hk _=>q6.block k hk jD⟩,.inr ⟨_,qe _,rfl⟩⟩;simp only [qE,qU,qV,hown.1,hown2.1];omega
end L587
instance aIb:bE 587 (type_of% @L587.aBR):=⟨@L587.aBR⟩
namespace L413
theorem u79:Tryz.prog.underlying 106=some (.slice 345):=by kernel_rfl
theorem u3:Tryz.prog.underlying 3=some (.int .i64):=by kernel_rfl
theorem u4:Tryz.prog.underlying 4=some .bool:=by kernel_rfl
theorem aBz:(Tryz.prog.info? 345).map (λi=>(i.size,i.bytes,i.zero.isSome,(i.zero.map λz=>z.cells.size)))=some (2,32,true,some 2):=by kernel_rfl
theorem Fs : ∃z i,Tryz.prog.info? 345=some i/\i.zero=some z/\i.size=2/\i.bytes=32/\z.cells.size=2:=by
 have h:=aBz
 cases hi:Tryz.prog.info? 345 with
 | none=>rw [hi] at h;cases h
 | some i =>
  rw [hi] at h
  simp only [Option.map_some,qb,qa] at h
  obtain ⟨h1,h2,h3,h4⟩:=h
  cases hz:i.zero with
  | none=>rw [hz] at h3;cases h3
  | some z =>
   rw [hz] at h4
   exact ⟨z,i,rfl,hz,h1,h2,by simpa using h4⟩
set_option maxRecDepth 100000 in
theorem Ju (b n c i vb m vc:Nat) (cs vs:List Value) (cur:Array Value) (w:World) (hi:i<n) (hm:0<m) (hroom:n+m<=c) (hc63:c<=9223372036854775807) (hvb:vb≠b)
    (hcl:cs.length=n*2) (hvl:vs.length=m*2) (hb:w.heap[b]? = some (.cells cur 345 (0,0))) (hcur:cur.size=c*2) (htk:cur.toList.take (n*2)=cs) (vcur:Array Value) (hv:w.heap[vb]? = some (.cells vcur 345 (0,0))) (hvtk:vcur.toList.take (m*2)=vs)
    (h1c : ∀v∈cs,v.oneCell'=true) (h1v : ∀v∈vs,v.oneCell'=true) :
    Calls Tryz.prog 413 #[.slice (some ⟨b,0,none⟩) n c,.int .i64 i,.slice (some ⟨vb,0,none⟩) m vc] w λe w' =>
      ∃A,e = .returned (.slice (some ⟨b,0,none⟩) (n+m) c)/\A.toList.take ((n+m)*2)=cs.take (i*2)++(vs++cs.drop (i*2))/\A.size=c*2/\w'.heap[b]? = some (.cells A 345 (0,0))/\w.grownBy w' (some b):=by
  obtain ⟨ze,ie,hie,hze,hsz,hby,hzz⟩:=Fs
  have t79:=u79;have t3:=u3;have t4:=u4
  have aa : ∀w,(Go.sizeOf 345).run Tryz.prog w = .ok 2 w:=λw=>by simp [Go.sizeOf,typeInfo,hie,hsz]
  have ae:=run_underlying u79;have r3:=run_underlying u3;have r4:=run_underlying u4
  have hz1 : ¬((m:Int)=0):=by omega
  have hz2 : ¬((i:Int)=(n:Int)):=by omega
  have mixed:Tryz.prog.follows .mixedOrders=true:=by kernel_rfl
  have hov : ∀lb cb,(callFunc 499 #[.slice (some ⟨vb,0,none⟩) m vc,.slice (some ⟨b,(i+m)*2,none⟩) lb cb]).run Tryz.prog w = .ok (.value (.bool false)) w:=λlb cb=>by
    rw [run_callFunc_extern Tryz.func499 (by kernel_rfl) (by kernel_rfl) (by kernel_rfl) (e:=Extern.SlicesOverlaps.overlaps #[106,106] #[4]) (by kernel_rfl),
      Lib.run_overlaps_apart w 106 4 345 u79 2 aa ⟨vb,0,none⟩ ⟨b,(i+m)*2,none⟩ m vc lb cb hvb 345 345 vcur.size cur.size (by simp [World.shape?,hv]) (by simp [World.shape?,hb]) jB (by simp [World.frozen?,hv]) (by simp [World.frozen?,hv])]
    rfl
  have hw1:i64.wrap ((i:Int)+(m:Int))=(i:Int)+(m:Int):=by rw [IntKind.wrap_i64];omega
  have hb1:(0:Int)<=(i:Int)+(m:Int):=by omega
  have hin:i<=n:=by omega
  have htn:((i:Int)+(m:Int)).toNat=i+m:=by omega
  have hb2 : ¬(c=i+m):=by omega
  have hb3:(i:Int)<=(n:Int)+(m:Int):=by omega
  have hb4 : ¬(c=i):=by omega
  obtain ⟨A1,A2,hcp1,hcp2,hfin⟩:=RT ⟨u79,u3,Fs⟩ jE b n c i vb m vc cs vs cur w hi hm hroom hc63 hvb hcl hvl hb hcur htk vcur hv hvtk h1c h1v
  clear htk hvtk hcur hb hv
  refine calls_of_wp Tryz.func413 rfl ?_
  simp only [show Tryz.f413.ntmps=95 from rfl,List.size_toArray,qJ,qK,Nat.reduceAdd,Nat.reduceSub,Array.replicate_succ,
     Array.replicate_zero,List.push_toArray,List.append_toArray,List.nil_append,List.cons_append]
  go_wp2_with (simp only [hov])
  go_region_law_o (refine AE rfl _ _ 106 106 rfl _ _ jL jL (hcp1 _ _ _) ?_)
  go_wp2_with (at_builtin;refine wT _ rfl _ _ 106 106 rfl _ _ rfl rfl (hcp2 _ _) ?_)
  go_ret
  obtain ⟨A,hA⟩:=hfin
  exact ⟨A,rfl,hA⟩
set_option maxRecDepth 100000 in
theorem I8 (b n c i vb m vc:Nat) (cs vs:List Value) (cur:Array Value) (w:World) (hi:i<n) (hm:0<m) (hnc:n<=c) (hroom:c<n+m) (hbig:(n+m)*32<=140737488355328) (hc63:c<=9223372036854775807)
    (hcl:cs.length=n*2) (hvl:vs.length=m*2) (hb:w.heap[b]? = some (.cells cur 345 (0,0))) (htk:cur.toList.take (n*2)=cs) (vcur:Array Value) (hv:w.heap[vb]? = some (.cells vcur 345 (0,0))) (hvtk:vcur.toList.take (m*2)=vs)
    (h1c : ∀v∈cs,v.oneCell'=true) (h1v : ∀v∈vs,v.oneCell'=true) :
    Calls Tryz.prog 413 #[.slice (some ⟨b,0,none⟩) n c,.int .i64 i,.slice (some ⟨vb,0,none⟩) m vc] w λe w' =>
      ∃A G,e = .returned (.slice (some ⟨w.heap.size,0,none⟩) (n+m) G)/\A.toList.take ((n+m)*2)=cs.take (i*2)++(vs++cs.drop (i*2))/\n+m<=G/\G<=maxLen/\A.size=G*2/\w'.heap[w.heap.size]? = some (.cells A 345 (0,0))/\w.grownBy w' none:=by
  obtain ⟨ze,ie,hie,hze,hsz,hby,hzz⟩:=Fs
  have t79:=u79;have t3:=u3;have t4:=u4
  have aa : ∀w,(Go.sizeOf 345).run Tryz.prog w = .ok 2 w:=λw=>by simp [Go.sizeOf,typeInfo,hie,hsz]
  have ae:=run_underlying u79;have r3:=run_underlying u3;have r4:=run_underlying u4
  have hz1 : ¬((m:Int)=0):=by omega
  have hz2 : ¬((i:Int)=(n:Int)):=by omega
  have hz3:(c:Int)<(n:Int)+(m:Int):=by omega
  have mixed:Tryz.prog.follows .mixedOrders=true:=by kernel_rfl
  obtain ⟨G,W1,A1,A2,hGn,hG63',hrz,hcpA,hcpB,hfin⟩:=Rn ⟨u79,u3,Fs⟩ jE jE b n c i vb m vc cs vs cur w hi hm hnc hroom hbig hc63 hcl hvl hb htk vcur hv hvtk h1c h1v
  have hG63:G<=9223372036854775807:=by have:=hG63';unfold maxLen at this;omega
  have hw1:i64.wrap ((i:Int)+(m:Int))=(i:Int)+(m:Int):=by rw [IntKind.wrap_i64];omega
  have hb1:(0:Int)<=(i:Int)+(m:Int):=by omega
  have hin:i<=n:=by omega
  have htn:((i:Int)+(m:Int)).toNat=i+m:=by omega
  have hb3:(i:Int)<=(n:Int):=by omega
  have hGi : ¬(G=i):=by omega
  have hGim : ¬(G=i+m):=by omega
  have hci : ¬(c=i):=by omega
  clear hb hv htk hvtk
  refine calls_of_wp Tryz.func413 rfl ?_
  simp only [show Tryz.f413.ntmps=95 from rfl,List.size_toArray,qJ,qK,Nat.reduceAdd,Nat.reduceSub,Array.replicate_succ,
     Array.replicate_zero,List.push_toArray,List.append_toArray,List.nil_append,List.cons_append]
  go_wp2_with (first
    | (at_builtin;refine Lib.wpList_append_run _ rfl _ _ _ _ rfl _ _ rfl rfl _ _ (hrz _) ?_)
    | (at_builtin;refine wT _ rfl _ _ 106 106 rfl _ _ rfl rfl (hcpA _ _) ?_))
  go_region_law_o (refine AE rfl _ _ 106 106 rfl (.slice (some ⟨w.heap.size,(i+m)*2,none⟩) (n+m-(i+m)) (G-(i+m))) (.slice (some ⟨b,i*2,none⟩) (n-i) (c-i)) jL jL (hcpB 3 (G-(i+m)) (c-i)) ?_)
  go_wp2
  go_ret
  obtain ⟨A,hA⟩:=hfin
  exact ⟨A,G,rfl,hA⟩
set_option maxRecDepth 100000 in
theorem Mw (base b0 n m i:Nat) (v v2:Value) (cells cells2:List Value) (w:World) (hb:base<=w.heap.size) (hown:w.ownsRow base 345 2 v n cells) (hown2:w.ownsRow base 345 2 v2 m cells2) (hm:0<m) (hbig:(n+m)*32<=140737488355328) (h1v : ∀u∈cells2,u.oneCell'=true) :
    Calls Tryz.prog 413 #[v,.int .i64 n,v2] w (Oh base 345 2 w v (n+m) (cells++cells2)):=by
  obtain ⟨ze,ie,hie,hze,hsz,hby,hzz⟩:=Fs
  have t79:=u79;have t3:=u3;have t4:=u4
  have aa:=run_underlying u79;have r3:=run_underlying u3;have r4:=run_underlying u4
  have hz1 : ¬((m:Int)=0):=by omega
  obtain ⟨v',w',r1,post⟩:=WL ⟨u79,u3,Fs⟩ jE jE base b0 n m i v v2 cells cells2 w hb hown hown2 hm hbig h1v
  rcases hown2.2 with ⟨_,h0⟩ | ⟨vb,vc,vcur,rfl,hv1,hv,hv3,hv4,hv5,hvtk⟩
  · omega
  have hlen:(Builtin.len_ #[106] 3 #[v]).run Tryz.prog w = .ok (.int .i64 n) w:=by rcases hown.2 with ⟨rfl,rfl⟩ | ⟨g,cap,cur,rfl,_⟩<;>simp [Builtin.len_,aa,goInt]
  refine calls_of_wp Tryz.func413 rfl ?_
  simp only [show Tryz.f413.ntmps=95 from rfl,List.size_toArray,qJ,qK,Nat.reduceAdd,Nat.reduceSub,Array.replicate_succ,
     Array.replicate_zero,List.push_toArray,List.append_toArray,List.nil_append,List.cons_append]
  have ae : ∀w,(Go.sizeOf 345).run Tryz.prog w = .ok 2 w:=λw=>by simp [Go.sizeOf,typeInfo,hie,hsz]
  rcases hown.2 with ⟨rfl,rfl⟩ | ⟨g,cap,cur,rfl,hg1,hg2,hg3,_⟩
  · clear hown hown2
    go_wp2_with (at_builtin;refine Lib.wpList_append_run _ rfl _ _ _ _ rfl _ _ rfl rfl _ _ (r1 _) ?_)
    go_ret
    exact post
  · clear hown hown2
    go_wp2_with (at_builtin;refine Lib.wpList_append_run _ rfl _ _ _ _ rfl _ _ rfl rfl _ _ (r1 _) ?_)
    all_goals (go_ret;exact post)
theorem aBb (args:List (Bool×List D)):kD Tryz.prog 413 args [(false,[.edit (.ins 345 2 32)])]:=by
 refine .inr (.inl ⟨_,rfl,⟨_,_,Tryz.func413,rfl,jF⟩,?_⟩)
 intro base w v v2 n m cells cells2 i hb hown hown2 hne hi hm hbig h1c h1v
 by_cases hin:i=n
 ·subst hin;have hl:cells.length=i*2:=hown.1;rw [List.take_of_length_le jB,List.drop_of_length_le jB,qX];exact Mw base 0 i m i v v2 cells cells2 w hb hown hown2 hm hbig h1v
 ·rcases hown.2 with ⟨_,h0⟩ | ⟨b,c,cur,rfl,hb1,hb2,hb3,hb4,hb5,htk⟩
  ·omega
  rcases hown2.2 with ⟨_,h0⟩ | ⟨vb,vc,vcur,rfl,hv1,hv2,hv3,hv4,hv5,hvtk⟩
  ·omega
  have hvb:vb≠b:=λe=>hne b rfl (by rw [e];rfl)
  have hc63:c<=9223372036854775807:=by unfold maxLen at hb4;omega
  by_cases hroom:n+m<=c
  ·refine (Ju b n c i vb m vc cells cells2 cur w jB hm hroom hc63 hvb hown.1 hown2.1 hb2 hb5 htk vcur hv2 hvtk h1c h1v).mono ?_;rintro e w' ⟨A,rfl,q1,q2,q3,q4⟩;refine ⟨_,rfl,⟨?_,.inr ⟨b,c,A,rfl,hb1,q3,hroom,hb4,q2,q1⟩⟩,q4,.inl rfl⟩;simp only [qE,qU,qV,hown.1,hown2.1];omega
  ·refine (I8 b n c i vb m vc cells cells2 cur w jB hm hb3 jB hbig hc63 hown.1 hown2.1 hb2 htk vcur hv2 hvtk h1c h1v).mono ?_;rintro e w' ⟨A,G,rfl,q1,q2,q3,q4,q5,q6⟩;refine ⟨_,rfl,⟨?_,.inr ⟨w.heap.size,G,A,rfl,hb,q5,q2,q3,q4,q1⟩⟩,⟨q6.os,q6.tape,q6.output,q6.size,λk hk _=>q6.block k hk jD⟩,.inr ⟨_,qe _,rfl⟩⟩;simp only [qE,qU,qV,hown.1,hown2.1];omega
end L413
instance aIU:bE 413 (type_of% @L413.aBb):=⟨@L413.aBb⟩
namespace L285
theorem us:Tryz.prog.underlying 106=some (.slice 345):=by kernel_rfl
theorem ui:Tryz.prog.underlying 3=some (.int .i64):=by kernel_rfl
theorem ub:Tryz.prog.underlying 4=some .bool:=by kernel_rfl
theorem ie:(Tryz.prog.info? 345).map (λi=>(i.size,i.bytes,i.zero.isSome,(i.zero.map λz=>(z.cells.size,z.cells.all λu=>u.oneCell'))))=some (2,32,true,some (2,true)):=by kernel_rfl
theorem ie' : ∃z i,Tryz.prog.info? 345=some i/\i.zero=some z/\i.size=2/\z.cells.size=2/\(∀u∈z.cells.toList,u.oneCell'=true):=by
 have h:=ie
 cases hi:Tryz.prog.info? 345 with
 | none=>rw [hi] at h;cases h
 | some i =>
  rw [hi] at h
  simp only [Option.map_some,qb,qa] at h
  obtain ⟨h1,h2,h3,h4⟩:=h
  cases hz:i.zero with
  | none=>rw [hz] at h3;cases h3
  | some z =>
   rw [hz] at h4
   simp only [Option.map_some,qb,qa] at h4
   have h5 : ∀(k:Nat) (hk:k<z.cells.size),z.cells[k].oneCell'=true:=by simpa using h4.2
   refine ⟨z,i,rfl,hz,h1,h4.1,λu hu => ?_⟩
   obtain ⟨k,hk,rfl⟩:=List.mem_iff_getElem.1 hu
   simpa using h5 k (by simpa using hk)
set_option maxRecDepth 100000 in
theorem same (v:Value) (n i base:Nat) (cells:List Value) (w:World) (hown:w.ownsRow base 345 2 v n cells) (hi:i<=n) :
    Calls Tryz.prog 285 #[v,.int .i64 i,.int .i64 i] w λe w'=>e = .returned v/\w'=w:=by
  have t1:=us;have t3:=ui;have t4:=ub
  obtain ⟨z,i0,hi0,hz,hsz,hzz,hz1⟩:=ie'
  have ze : ∀w,(Go.sizeOf 345).run Tryz.prog w = .ok 2 w:=λw=>by simp [Go.sizeOf,typeInfo,hi0,hsz]
  have r1:=run_underlying us;have r3:=run_underlying ui;have r4:=run_underlying ub
  rcases hown.2 with ⟨rfl,rfl⟩ | ⟨b,c,cur,rfl,hb1,hb2,hb3,hb4,hb5,htk⟩
  · have h0:i=0:=by omega
    subst h0
    clear hown
    refine calls_of_wp Tryz.func285 rfl ?_
    simp only [show Tryz.f285.ntmps=33 from rfl,List.size_toArray,qJ,qK,Nat.reduceAdd,Nat.reduceSub,Array.replicate_succ,
       Array.replicate_zero,List.push_toArray,List.append_toArray,List.nil_append,List.cons_append]
    go_wp2
    all_goals (go_ret;exact ⟨rfl,rfl⟩)
  · clear hown htk
    refine calls_of_wp Tryz.func285 rfl ?_
    simp only [show Tryz.f285.ntmps=33 from rfl,List.size_toArray,qJ,qK,Nat.reduceAdd,Nat.reduceSub,Array.replicate_succ,
       Array.replicate_zero,List.push_toArray,List.append_toArray,List.nil_append,List.cons_append]
    go_wp2
    all_goals (go_ret;exact ⟨rfl,rfl⟩)
set_option maxRecDepth 100000 in
theorem cut (b n c i j base:Nat) (cs:List Value) (w:World) (hij:i<j) (hjn:j<=n) (hown:w.ownsRow base 345 2 (.slice (some ⟨b,0,none⟩) n c) n cs) (h1c : ∀v∈cs,v.oneCell'=true) :
    Calls Tryz.prog 285 #[.slice (some ⟨b,0,none⟩) n c,.int .i64 i,.int .i64 j] w λe w' =>
      e = .returned (.slice (some ⟨b,0,none⟩) (i+(n-j)) c)/\w'.ownsRow base 345 2 (.slice (some ⟨b,0,none⟩) (i+(n-j)) c) (i+(n-j)) (cs.take (i*2)++cs.drop (j*2))/\w.grownBy w' (some b):=by
  have t1:=us;have t3:=ui;have t4:=ub
  obtain ⟨z,i0,hi0,hz,hsz,hzz,hz1⟩:=ie'
  have ze : ∀w,(Go.sizeOf 345).run Tryz.prog w = .ok 2 w:=λw=>by simp [Go.sizeOf,typeInfo,hi0,hsz]
  have zv : ∀w,(zeroValue 345).run Tryz.prog w = .ok z w:=λw=>by simp [zeroValue,typeInfo,hi0,hz]
  have r1:=run_underlying us;have r3:=run_underlying ui;have r4:=run_underlying ub
  have mixed:Tryz.prog.follows .mixedOrders=true:=by kernel_rfl
  have hown':=hown
  rcases hown'.2 with ⟨h,_⟩ | ⟨b',c',cur,h,hb1,hb2,hb3,hb4,hb5,htk⟩
  · cases h
  simp only [Value.slice.injEq,qb,Addr.mk.injEq,and_true,true_and] at h
  obtain ⟨rfl,rfl⟩:=h
  have hc63:c<=9223372036854775807:=by unfold maxLen at hb4;omega
  have hcl:cs.length=n*2:=hown.1
  have hdrew:w.drew.ownsRow base 345 2 (.slice (some ⟨b,0,none⟩) i c) i (cs.take (i*2)):=(KO (w:=w.drew) hown (show i<=n by omega)).2
  obtain ⟨A,hA,hsrc⟩ : ∃A:Addr,(if c=j then some (⟨b,0,none⟩:Addr) else some ⟨b,j*2,none⟩)=some A /\ ∀t u,(cs.drop (j*2))[t]? = some u->w.drew.cell? (A.add t)=some u:=by
    by_cases h:c=j
    · refine ⟨⟨b,0,none⟩,by simp [h],λt u hu => ?_⟩
      have h0:(cs.drop (j*2)).length=0:=by rw [qV,hcl];omega
      rw [List.length_eq_zero_iff.1 h0] at hu
      simp at hu
    · refine ⟨⟨b,j*2,none⟩,by simp [h],λt u hu => ?_⟩
      rw [List.getElem?_drop] at hu
      have hlt:j*2+t<n*2:=by rw [<-hcl];exact (qc.1 hu).1
      rw [Addr.add_lit]
      exact (hown.cellAt _ hlt).trans hu
  obtain ⟨W1,hr1,ho1,hg1⟩ : ∃W1,(∀ty,(Builtin.append_ #[106,106] ty #[.slice (some ⟨b,0,none⟩) i c,.slice (some A) (n-j) (c-j)]).run Tryz.prog w.drew = .ok (.slice (some ⟨b,0,none⟩) (i+(n-j)) c) W1) /\
      W1.ownsRow base 345 2 (.slice (some ⟨b,0,none⟩) (i+(n-j)) c) (i+(n-j)) (cs.take (i*2)++cs.drop (j*2))/\w.drew.grownBy W1 (some b):=by
    obtain ⟨W1,q1,q2,q3⟩:=run_append_fits (P:=Tryz.prog) w.drew base 106 106 345 i0 2 us hi0 hsz b i c _ hdrew A (n-j) (c-j) (cs.drop (j*2)) (by rw [qV,hcl];omega) hsrc (λu hu=>h1c u (qt hu)) jB
    exact ⟨W1,λty=>q1,q2,q3⟩
  obtain ⟨b2,c2,cur2,h,hc1,hc2,hc3,hc4,hc5,htk2⟩:=ho1.2.resolve_left jD
  simp only [Value.slice.injEq,qb,Addr.mk.injEq,and_true,true_and] at h
  obtain ⟨rfl,rfl⟩:=h
  obtain ⟨A2,hA2⟩ : ∃A2,A2=(cur2.toList.take ((i+(n-j))*2)++(Builtin.zeroCells z.cells (n-(i+(n-j)))).toList++cur2.toList.drop ((i+(n-j))*2+(Builtin.zeroCells z.cells (n-(i+(n-j)))).toList.length)).toArray:=⟨_,rfl⟩
  have hzl:(Builtin.zeroCells z.cells (n-(i+(n-j)))).toList.length=(n-(i+(n-j)))*2:=by rw [ql,AF,hzz]
  have hcle : ∀ty,(Builtin.clear_ #[106] ty #[.slice (some ⟨b,(i+(n-j))*2,none⟩) (n-(i+(n-j))) (c-(i+(n-j)))]).run Tryz.prog W1 = .ok (.tuple #[]) (W1.setRow b A2):=λty=>by rw [hA2];exact MX W1 106 345 ty z us zv b ((i+(n-j))*2) (n-(i+(n-j))) (c-(i+(n-j))) cur2 345 jB hc2 (by rw [hzz,hc5];omega) (λu hu=>FL hz1 hu)
  have hfin:(W1.setRow b A2).ownsRow base 345 2 (.slice (some ⟨b,0,none⟩) (i+(n-j)) c) (i+(n-j)) (cs.take (i*2)++cs.drop (j*2))/\w.grownBy (W1.setRow b A2) (some b):=by
    refine ⟨⟨ho1.1,.inr ⟨b,c,A2,rfl,hc1,setRow_heap W1 b cur2 A2 345 _ hc2,hc3,hc4,?_,?_⟩⟩,⟨hg1.os,hg1.tape,hg1.output,?_,λk hk hne => ?_⟩⟩
    · rw [hA2]
      simp only [List.size_toArray,qE,qU,qV,ql,AF,hzz,hc5]
      omega
    · rw [hA2,<-htk2]
      simp only [qT]
      have hl:(cur2.toList.take ((i+(n-j))*2)).length=(i+(n-j))*2:=by rw [qU,ql,hc5];omega
      exact List.take_left' hl
    · have h2:=hg1.size
      have h3:(W1.setRow b A2).heap.size=W1.heap.size:=by simp [World.setRow]
      have h4:w.drew.heap.size=w.heap.size:=rfl
      omega
    · exact (setRow_other W1 b k A2 (λe=>hne (by rw [e]))).trans (hg1.block k hk hne)
  have hic:i<=c:=by omega
  have hjc:j<=c:=by omega
  have hz2 : ¬((i:Int)=(j:Int)):=by omega
  clear hown hown' hdrew hsrc ho1 hg1 hA2 htk htk2 hc2 hc5 hzl hb2 hb5
  refine calls_of_wp Tryz.func285 rfl ?_
  simp only [show Tryz.f285.ntmps=33 from rfl,List.size_toArray,qJ,qK,Nat.reduceAdd,Nat.reduceSub,Array.replicate_succ,
     Array.replicate_zero,List.push_toArray,List.append_toArray,List.nil_append,List.cons_append]
  go_wp2_with fail
  go_region_law_o (refine K3 rfl _ _ 106 106 rfl (.slice (some ⟨b,0,none⟩) i c) (.slice (some A) (n-j) (c-j)) jL jL (hr1 _) ?_)
  go_wp2_with (at_builtin;refine Km _ rfl _ 106 rfl _ rfl (hcle _) ?_)
  go_ret
  exact ⟨rfl,hfin⟩
theorem aBI (args:List (Bool×List D)):kD Tryz.prog 285 args [(false,[.edit (.del 345 2)])]:=by refine .inr (.inl ⟨_,rfl,⟨_,_,Tryz.func285,rfl,jF⟩,?_⟩);intro base w v n cells i j hb hown hij hj h1c;by_cases he:i=j;(subst he;refine (same v n i base cells w hown hj).mono ?_;rintro e w' ⟨rfl,rfl⟩;refine ⟨v,rfl,?_,World.grownBy.refl _ _,.inl rfl⟩;rw [qm,show i+(n-i)=n by omega];exact hown);·rcases hown.2 with ⟨_,h0⟩ | ⟨b,c,cur,rfl,_⟩;(omega);refine (cut b n c i j base cells w jB hj hown h1c).mono ?_;rintro e w' ⟨rfl,q1,q2⟩;exact ⟨_,rfl,q1,q2,.inl rfl⟩
end L285
instance aID:bE 285 (type_of% @L285.aBI):=⟨@L285.aBI⟩
namespace L206
theorem u79:Tryz.prog.underlying 45=some (.slice 126):=by kernel_rfl
theorem u3:Tryz.prog.underlying 3=some (.int .i64):=by kernel_rfl
theorem u4:Tryz.prog.underlying 4=some .bool:=by kernel_rfl
theorem aBz:(Tryz.prog.info? 126).map (λi=>(i.size,i.bytes,i.zero.isSome,(i.zero.map λz=>z.cells.size)))=some (24,328,true,some 24):=by kernel_rfl
theorem Fs : ∃z i,Tryz.prog.info? 126=some i/\i.zero=some z/\i.size=24/\i.bytes=328/\z.cells.size=24:=by
 have h:=aBz
 cases hi:Tryz.prog.info? 126 with
 | none=>rw [hi] at h;cases h
 | some i =>
  rw [hi] at h
  simp only [Option.map_some,qb,qa] at h
  obtain ⟨h1,h2,h3,h4⟩:=h
  cases hz:i.zero with
  | none=>rw [hz] at h3;cases h3
  | some z =>
   rw [hz] at h4
   exact ⟨z,i,rfl,hz,h1,h2,by simpa using h4⟩
set_option maxRecDepth 100000 in
theorem Ju (b n c i vb m vc:Nat) (cs vs:List Value) (cur:Array Value) (w:World) (hi:i<n) (hm:0<m) (hroom:n+m<=c) (hc63:c<=9223372036854775807) (hvb:vb≠b)
    (hcl:cs.length=n*24) (hvl:vs.length=m*24) (hb:w.heap[b]? = some (.cells cur 126 (0,0))) (hcur:cur.size=c*24) (htk:cur.toList.take (n*24)=cs) (vcur:Array Value) (hv:w.heap[vb]? = some (.cells vcur 126 (0,0))) (hvtk:vcur.toList.take (m*24)=vs)
    (h1c : ∀v∈cs,v.oneCell'=true) (h1v : ∀v∈vs,v.oneCell'=true) :
    Calls Tryz.prog 206 #[.slice (some ⟨b,0,none⟩) n c,.int .i64 i,.slice (some ⟨vb,0,none⟩) m vc] w λe w' =>
      ∃A,e = .returned (.slice (some ⟨b,0,none⟩) (n+m) c)/\A.toList.take ((n+m)*24)=cs.take (i*24)++(vs++cs.drop (i*24))/\A.size=c*24/\w'.heap[b]? = some (.cells A 126 (0,0))/\w.grownBy w' (some b):=by
  obtain ⟨ze,ie,hie,hze,hsz,hby,hzz⟩:=Fs
  have t79:=u79;have t3:=u3;have t4:=u4
  have aa : ∀w,(Go.sizeOf 126).run Tryz.prog w = .ok 24 w:=λw=>by simp [Go.sizeOf,typeInfo,hie,hsz]
  have ae:=run_underlying u79;have r3:=run_underlying u3;have r4:=run_underlying u4
  have hz1 : ¬((m:Int)=0):=by omega
  have hz2 : ¬((i:Int)=(n:Int)):=by omega
  have mixed:Tryz.prog.follows .mixedOrders=true:=by kernel_rfl
  have hov : ∀lb cb,(callFunc 353 #[.slice (some ⟨vb,0,none⟩) m vc,.slice (some ⟨b,(i+m)*24,none⟩) lb cb]).run Tryz.prog w = .ok (.value (.bool false)) w:=λlb cb=>by
    rw [run_callFunc_extern Tryz.func353 (by kernel_rfl) (by kernel_rfl) (by kernel_rfl) (e:=Extern.SlicesOverlaps.overlaps #[45,45] #[4]) (by kernel_rfl),
      Lib.run_overlaps_apart w 45 4 126 u79 24 aa ⟨vb,0,none⟩ ⟨b,(i+m)*24,none⟩ m vc lb cb hvb 126 126 vcur.size cur.size (by simp [World.shape?,hv]) (by simp [World.shape?,hb]) jB (by simp [World.frozen?,hv]) (by simp [World.frozen?,hv])]
    rfl
  have hw1:i64.wrap ((i:Int)+(m:Int))=(i:Int)+(m:Int):=by rw [IntKind.wrap_i64];omega
  have hb1:(0:Int)<=(i:Int)+(m:Int):=by omega
  have hin:i<=n:=by omega
  have htn:((i:Int)+(m:Int)).toNat=i+m:=by omega
  have hb2 : ¬(c=i+m):=by omega
  have hb3:(i:Int)<=(n:Int)+(m:Int):=by omega
  have hb4 : ¬(c=i):=by omega
  obtain ⟨A1,A2,hcp1,hcp2,hfin⟩:=RT ⟨u79,u3,Fs⟩ jE b n c i vb m vc cs vs cur w hi hm hroom hc63 hvb hcl hvl hb hcur htk vcur hv hvtk h1c h1v
  clear htk hvtk hcur hb hv
  refine calls_of_wp Tryz.func206 rfl ?_
  simp only [show Tryz.f206.ntmps=95 from rfl,List.size_toArray,qJ,qK,Nat.reduceAdd,Nat.reduceSub,Array.replicate_succ,
     Array.replicate_zero,List.push_toArray,List.append_toArray,List.nil_append,List.cons_append]
  go_wp2_with (simp only [hov])
  go_region_law_o (refine AE rfl _ _ 45 45 rfl _ _ jL jL (hcp1 _ _ _) ?_)
  go_wp2_with (at_builtin;refine wT _ rfl _ _ 45 45 rfl _ _ rfl rfl (hcp2 _ _) ?_)
  go_ret
  obtain ⟨A,hA⟩:=hfin
  exact ⟨A,rfl,hA⟩
set_option maxRecDepth 100000 in
theorem I8 (b n c i vb m vc:Nat) (cs vs:List Value) (cur:Array Value) (w:World) (hi:i<n) (hm:0<m) (hnc:n<=c) (hroom:c<n+m) (hbig:(n+m)*328<=140737488355328) (hc63:c<=9223372036854775807)
    (hcl:cs.length=n*24) (hvl:vs.length=m*24) (hb:w.heap[b]? = some (.cells cur 126 (0,0))) (htk:cur.toList.take (n*24)=cs) (vcur:Array Value) (hv:w.heap[vb]? = some (.cells vcur 126 (0,0))) (hvtk:vcur.toList.take (m*24)=vs)
    (h1c : ∀v∈cs,v.oneCell'=true) (h1v : ∀v∈vs,v.oneCell'=true) :
    Calls Tryz.prog 206 #[.slice (some ⟨b,0,none⟩) n c,.int .i64 i,.slice (some ⟨vb,0,none⟩) m vc] w λe w' =>
      ∃A G,e = .returned (.slice (some ⟨w.heap.size,0,none⟩) (n+m) G)/\A.toList.take ((n+m)*24)=cs.take (i*24)++(vs++cs.drop (i*24))/\n+m<=G/\G<=maxLen/\A.size=G*24/\w'.heap[w.heap.size]? = some (.cells A 126 (0,0))/\w.grownBy w' none:=by
  obtain ⟨ze,ie,hie,hze,hsz,hby,hzz⟩:=Fs
  have t79:=u79;have t3:=u3;have t4:=u4
  have aa : ∀w,(Go.sizeOf 126).run Tryz.prog w = .ok 24 w:=λw=>by simp [Go.sizeOf,typeInfo,hie,hsz]
  have ae:=run_underlying u79;have r3:=run_underlying u3;have r4:=run_underlying u4
  have hz1 : ¬((m:Int)=0):=by omega
  have hz2 : ¬((i:Int)=(n:Int)):=by omega
  have hz3:(c:Int)<(n:Int)+(m:Int):=by omega
  have mixed:Tryz.prog.follows .mixedOrders=true:=by kernel_rfl
  obtain ⟨G,W1,A1,A2,hGn,hG63',hrz,hcpA,hcpB,hfin⟩:=Rn ⟨u79,u3,Fs⟩ jE jE b n c i vb m vc cs vs cur w hi hm hnc hroom hbig hc63 hcl hvl hb htk vcur hv hvtk h1c h1v
  have hG63:G<=9223372036854775807:=by have:=hG63';unfold maxLen at this;omega
  have hw1:i64.wrap ((i:Int)+(m:Int))=(i:Int)+(m:Int):=by rw [IntKind.wrap_i64];omega
  have hb1:(0:Int)<=(i:Int)+(m:Int):=by omega
  have hin:i<=n:=by omega
  have htn:((i:Int)+(m:Int)).toNat=i+m:=by omega
  have hb3:(i:Int)<=(n:Int):=by omega
  have hGi : ¬(G=i):=by omega
  have hGim : ¬(G=i+m):=by omega
  have hci : ¬(c=i):=by omega
  clear hb hv htk hvtk
  refine calls_of_wp Tryz.func206 rfl ?_
  simp only [show Tryz.f206.ntmps=95 from rfl,List.size_toArray,qJ,qK,Nat.reduceAdd,Nat.reduceSub,Array.replicate_succ,
     Array.replicate_zero,List.push_toArray,List.append_toArray,List.nil_append,List.cons_append]
  go_wp2_with (first
    | (at_builtin;refine Lib.wpList_append_run _ rfl _ _ _ _ rfl _ _ rfl rfl _ _ (hrz _) ?_)
    | (at_builtin;refine wT _ rfl _ _ 45 45 rfl _ _ rfl rfl (hcpA _ _) ?_))
  go_region_law_o (refine AE rfl _ _ 45 45 rfl (.slice (some ⟨w.heap.size,(i+m)*24,none⟩) (n+m-(i+m)) (G-(i+m))) (.slice (some ⟨b,i*24,none⟩) (n-i) (c-i)) jL jL (hcpB 3 (G-(i+m)) (c-i)) ?_)
  go_wp2
  go_ret
  obtain ⟨A,hA⟩:=hfin
  exact ⟨A,G,rfl,hA⟩
set_option maxRecDepth 100000 in
theorem Mw (base b0 n m i:Nat) (v v2:Value) (cells cells2:List Value) (w:World) (hb:base<=w.heap.size) (hown:w.ownsRow base 126 24 v n cells) (hown2:w.ownsRow base 126 24 v2 m cells2) (hm:0<m) (hbig:(n+m)*328<=140737488355328) (h1v : ∀u∈cells2,u.oneCell'=true) :
    Calls Tryz.prog 206 #[v,.int .i64 n,v2] w (Oh base 126 24 w v (n+m) (cells++cells2)):=by
  obtain ⟨ze,ie,hie,hze,hsz,hby,hzz⟩:=Fs
  have t79:=u79;have t3:=u3;have t4:=u4
  have aa:=run_underlying u79;have r3:=run_underlying u3;have r4:=run_underlying u4
  have hz1 : ¬((m:Int)=0):=by omega
  obtain ⟨v',w',r1,post⟩:=WL ⟨u79,u3,Fs⟩ jE jE base b0 n m i v v2 cells cells2 w hb hown hown2 hm hbig h1v
  rcases hown2.2 with ⟨_,h0⟩ | ⟨vb,vc,vcur,rfl,hv1,hv,hv3,hv4,hv5,hvtk⟩
  · omega
  have hlen:(Builtin.len_ #[45] 3 #[v]).run Tryz.prog w = .ok (.int .i64 n) w:=by rcases hown.2 with ⟨rfl,rfl⟩ | ⟨g,cap,cur,rfl,_⟩<;>simp [Builtin.len_,aa,goInt]
  refine calls_of_wp Tryz.func206 rfl ?_
  simp only [show Tryz.f206.ntmps=95 from rfl,List.size_toArray,qJ,qK,Nat.reduceAdd,Nat.reduceSub,Array.replicate_succ,
     Array.replicate_zero,List.push_toArray,List.append_toArray,List.nil_append,List.cons_append]
  have ae : ∀w,(Go.sizeOf 126).run Tryz.prog w = .ok 24 w:=λw=>by simp [Go.sizeOf,typeInfo,hie,hsz]
  rcases hown.2 with ⟨rfl,rfl⟩ | ⟨g,cap,cur,rfl,hg1,hg2,hg3,_⟩
  · clear hown hown2
    go_wp2_with (at_builtin;refine Lib.wpList_append_run _ rfl _ _ _ _ rfl _ _ rfl rfl _ _ (r1 _) ?_)
    go_ret
    exact post
  · clear hown hown2
    go_wp2_with (at_builtin;refine Lib.wpList_append_run _ rfl _ _ _ _ rfl _ _ rfl rfl _ _ (r1 _) ?_)
    all_goals (go_ret;exact post)
theorem aBD (args:List (Bool×List D)):kD Tryz.prog 206 args [(false,[.edit (.ins 126 24 328)])]:=by
 refine .inr (.inl ⟨_,rfl,⟨_,_,Tryz.func206,rfl,jF⟩,?_⟩)
 intro base w v v2 n m cells cells2 i hb hown hown2 hne hi hm hbig h1c h1v
 by_cases hin:i=n
 ·subst hin;have hl:cells.length=i*24:=hown.1;rw [List.take_of_length_le jB,List.drop_of_length_le jB,qX];exact Mw base 0 i m i v v2 cells cells2 w hb hown hown2 hm hbig h1v
 ·rcases hown.2 with ⟨_,h0⟩ | ⟨b,c,cur,rfl,hb1,hb2,hb3,hb4,hb5,htk⟩
  ·omega
  rcases hown2.2 with ⟨_,h0⟩ | ⟨vb,vc,vcur,rfl,hv1,hv2,hv3,hv4,hv5,hvtk⟩
  ·omega
  have hvb:vb≠b:=λe=>hne b rfl (by rw [e];rfl)
  have hc63:c<=9223372036854775807:=by unfold maxLen at hb4;omega
  by_cases hroom:n+m<=c
  ·refine (Ju b n c i vb m vc cells cells2 cur w jB hm hroom hc63 hvb hown.1 hown2.1 hb2 hb5 htk vcur hv2 hvtk h1c h1v).mono ?_;rintro e w' ⟨A,rfl,q1,q2,q3,q4⟩;refine ⟨_,rfl,⟨?_,.inr ⟨b,c,A,rfl,hb1,q3,hroom,hb4,q2,q1⟩⟩,q4,.inl rfl⟩;simp only [qE,qU,qV,hown.1,hown2.1];omega
  ·refine (I8 b n c i vb m vc cells cells2 cur w jB hm hb3 jB hbig hc63 hown.1 hown2.1 hb2 htk vcur hv2 hvtk h1c h1v).mono ?_;rintro e w' ⟨A,G,rfl,q1,q2,q3,q4,q5,q6⟩;refine ⟨_,rfl,⟨?_,.inr ⟨w.heap.size,G,A,rfl,hb,q5,q2,q3,q4,q1⟩⟩,⟨q6.os,q6.tape,q6.output,q6.size,λk hk _=>q6.block k hk jD⟩,.inr ⟨_,qe _,rfl⟩⟩;simp only [qE,qU,qV,hown.1,hown2.1];omega
end L206
instance aIC:bE 206 (type_of% @L206.aBD):=⟨@L206.aBD⟩
end Go.Proofs.YtbpbocchokbggaaGreat.gen
