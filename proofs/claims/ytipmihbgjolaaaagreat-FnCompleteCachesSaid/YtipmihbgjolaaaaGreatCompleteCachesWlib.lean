/-
  Helper text. No conditions.
-/
import Derived.Test.YtipmihbgjolaaaaGreatCompleteCachesTi
import Derived.Lib.Walk
import Derived.WalkKit
import Derived.Shelf.RegionOpenPlain
import Derived.Lib.JoinLaws
import Derived.Laws.Externs
set_option linter.unusedVariables false
set_option linter.unusedSimpArgs false
namespace Go.Proofs.YtipmihbgjolaaaaGreat.gen
open Go Go.Sh
set_option maxRecDepth 20000
set_option maxHeartbeats 4000000
namespace L393
theorem u79:Tryz.prog.underlying 38=some (.slice 284):=by kernel_rfl
theorem u3:Tryz.prog.underlying 3=some (.int .i64):=by kernel_rfl
theorem u4:Tryz.prog.underlying 4=some .bool:=by kernel_rfl
theorem i240:(Tryz.prog.info? 284).map (λi=>(i.size,i.bytes,i.zero.isSome,(i.zero.map λz=>z.cells.size)))=some (4,56,true,some 4):=by kernel_rfl
theorem Sl : ∃z i,Tryz.prog.info? 284=some i/\i.zero=some z/\i.size=4/\i.bytes=56/\z.cells.size=4:=by
 have h:=i240
 cases hi:Tryz.prog.info? 284 with
 | none=>rw [hi] at h;cases h
 | some i =>
  rw [hi] at h
  simp only [Option.map_some,qa,qZ] at h
  obtain ⟨h1,h2,h3,h4⟩:=h
  cases hz:i.zero with
  | none=>rw [hz] at h3;cases h3
  | some z =>
   rw [hz] at h4
   exact ⟨z,i,rfl,hz,h1,h2,by simpa using h4⟩
set_option maxHeartbeats 4000000 in
set_option maxRecDepth 100000 in
theorem WN (b n c i vb m vc:Nat) (cs vs:List Value) (cur:Array Value) (w:World) (hi:i<n) (hm:0<m) (hroom:n+m<=c) (hc63:c<=9223372036854775807) (hvb:vb≠b)
    (hcl:cs.length=n*4) (hvl:vs.length=m*4) (hb:w.heap[b]? = some (.cells cur 284 (0,0))) (hcur:cur.size=c*4) (htk:cur.toList.take (n*4)=cs) (vcur:Array Value) (hv:w.heap[vb]? = some (.cells vcur 284 (0,0))) (hvtk:vcur.toList.take (m*4)=vs)
    (h1c : ∀v∈cs,v.oneCell'=true) (h1v : ∀v∈vs,v.oneCell'=true) :
    Calls Tryz.prog 393 #[.slice (some ⟨b,0,none⟩) n c,.int .i64 i,.slice (some ⟨vb,0,none⟩) m vc] w λe w' =>
      ∃A,e = .returned (.slice (some ⟨b,0,none⟩) (n+m) c)/\A.toList.take ((n+m)*4)=cs.take (i*4)++(vs++cs.drop (i*4))/\A.size=c*4/\w'.heap[b]? = some (.cells A 284 (0,0))/\w.grownBy w' (some b):=by
  obtain ⟨ze,ie,hie,hze,hsz,hby,hzz⟩:=Sl
  have t79:=u79;have t3:=u3;have t4:=u4
  have aa : ∀w,(Go.sizeOf 284).run Tryz.prog w = .ok 4 w:=λw=>by simp [Go.sizeOf,typeInfo,hie,hsz]
  have ae:=run_underlying u79;have r3:=run_underlying u3;have r4:=run_underlying u4
  have hz1 : ¬((m:Int)=0):=by omega
  have hz2 : ¬((i:Int)=(n:Int)):=by omega
  have mixed:Tryz.prog.follows .mixedOrders=true:=by kernel_rfl
  have hov : ∀lb cb,(callFunc 404 #[.slice (some ⟨vb,0,none⟩) m vc,.slice (some ⟨b,(i+m)*4,none⟩) lb cb]).run Tryz.prog w = .ok (.value (.bool false)) w:=λlb cb=>by
    rw [run_callFunc_extern Tryz.func404 (by kernel_rfl) (by kernel_rfl) (by kernel_rfl) (e:=Extern.SlicesOverlaps.overlaps #[38,38] #[4]) (by kernel_rfl),
      Lib.run_overlaps_apart w 38 4 284 u79 4 aa ⟨vb,0,none⟩ ⟨b,(i+m)*4,none⟩ m vc lb cb hvb 284 284 vcur.size cur.size (by simp [World.shape?,hv]) (by simp [World.shape?,hb]) qb (by simp [World.frozen?,hv]) (by simp [World.frozen?,hv])]
    rfl
  have hw1:IntKind.i64.wrap ((i:Int)+(m:Int))=(i:Int)+(m:Int):=by rw [IntKind.wrap_i64];omega
  have hb1:(0:Int)<=(i:Int)+(m:Int):=by omega
  have hin:i<=n:=by omega
  have htn:((i:Int)+(m:Int)).toNat=i+m:=by omega
  have hb2 : ¬(c=i+m):=by omega
  have hb3:(i:Int)<=(n:Int)+(m:Int):=by omega
  have hb4 : ¬(c=i):=by omega
  obtain ⟨A1,A2,hcp1,hcp2,hfin⟩:=Y4 ⟨u79,u3,Sl⟩ qe b n c i vb m vc cs vs cur w hi hm hroom hc63 hvb hcl hvl hb hcur htk vcur hv hvtk h1c h1v
  clear htk hvtk hcur hb hv
  refine calls_of_wp Tryz.func393 rfl ?_
  simp only [show Tryz.f393.ntmps=95 from rfl,List.size_toArray,qJ,qK,Nat.reduceAdd,Nat.reduceSub,Array.replicate_succ,
     Array.replicate_zero,List.push_toArray,List.append_toArray,List.nil_append,List.cons_append]
  go_wp2_with (simp only [hov])
  go_region_law_o (refine Gx rfl _ _ 38 38 rfl _ _ ql ql (hcp1 _ _ _) ?_)
  go_wp2_with (at_builtin;refine ER _ rfl _ _ 38 38 rfl _ _ rfl rfl (hcp2 _ _) ?_)
  go_ret
  obtain ⟨A,hA⟩:=hfin
  exact ⟨A,rfl,hA⟩
set_option maxHeartbeats 4000000 in
set_option maxRecDepth 100000 in
theorem Wg (b n c i vb m vc:Nat) (cs vs:List Value) (cur:Array Value) (w:World) (hi:i<n) (hm:0<m) (hnc:n<=c) (hroom:c<n+m) (hbig:(n+m)*56<=140737488355328) (hc63:c<=9223372036854775807)
    (hcl:cs.length=n*4) (hvl:vs.length=m*4) (hb:w.heap[b]? = some (.cells cur 284 (0,0))) (htk:cur.toList.take (n*4)=cs) (vcur:Array Value) (hv:w.heap[vb]? = some (.cells vcur 284 (0,0))) (hvtk:vcur.toList.take (m*4)=vs)
    (h1c : ∀v∈cs,v.oneCell'=true) (h1v : ∀v∈vs,v.oneCell'=true) :
    Calls Tryz.prog 393 #[.slice (some ⟨b,0,none⟩) n c,.int .i64 i,.slice (some ⟨vb,0,none⟩) m vc] w λe w' =>
      ∃A G,e = .returned (.slice (some ⟨w.heap.size,0,none⟩) (n+m) G)/\A.toList.take ((n+m)*4)=cs.take (i*4)++(vs++cs.drop (i*4))/\n+m<=G/\G<=maxLen/\A.size=G*4/\w'.heap[w.heap.size]? = some (.cells A 284 (0,0))/\w.grownBy w' none:=by
  obtain ⟨ze,ie,hie,hze,hsz,hby,hzz⟩:=Sl
  have t79:=u79;have t3:=u3;have t4:=u4
  have aa : ∀w,(Go.sizeOf 284).run Tryz.prog w = .ok 4 w:=λw=>by simp [Go.sizeOf,typeInfo,hie,hsz]
  have ae:=run_underlying u79;have r3:=run_underlying u3;have r4:=run_underlying u4
  have hz1 : ¬((m:Int)=0):=by omega
  have hz2 : ¬((i:Int)=(n:Int)):=by omega
  have hz3:(c:Int)<(n:Int)+(m:Int):=by omega
  have mixed:Tryz.prog.follows .mixedOrders=true:=by kernel_rfl
  obtain ⟨G,W1,A1,A2,hGn,hG63',hrz,hcpA,hcpB,hfin⟩:=Yk ⟨u79,u3,Sl⟩ qe qe b n c i vb m vc cs vs cur w hi hm hnc hroom hbig hc63 hcl hvl hb htk vcur hv hvtk h1c h1v
  have hG63:G<=9223372036854775807:=by have:=hG63';unfold maxLen at this;omega
  have hw1:IntKind.i64.wrap ((i:Int)+(m:Int))=(i:Int)+(m:Int):=by rw [IntKind.wrap_i64];omega
  have hb1:(0:Int)<=(i:Int)+(m:Int):=by omega
  have hin:i<=n:=by omega
  have htn:((i:Int)+(m:Int)).toNat=i+m:=by omega
  have hb3:(i:Int)<=(n:Int):=by omega
  have hGi : ¬(G=i):=by omega
  have hGim : ¬(G=i+m):=by omega
  have hci : ¬(c=i):=by omega
  clear hb hv htk hvtk
  refine calls_of_wp Tryz.func393 rfl ?_
  simp only [show Tryz.f393.ntmps=95 from rfl,List.size_toArray,qJ,qK,Nat.reduceAdd,Nat.reduceSub,Array.replicate_succ,
     Array.replicate_zero,List.push_toArray,List.append_toArray,List.nil_append,List.cons_append]
  go_wp2_with (first
    | (at_builtin;refine Lib.wpList_append_run _ rfl _ _ _ _ rfl _ _ rfl rfl _ _ (hrz _) ?_)
    | (at_builtin;refine ER _ rfl _ _ 38 38 rfl _ _ rfl rfl (hcpA _ _) ?_))
  go_region_law_o (refine Gx rfl _ _ 38 38 rfl (.slice (some ⟨w.heap.size,(i+m)*4,none⟩) (n+m-(i+m)) (G-(i+m))) (.slice (some ⟨b,i*4,none⟩) (n-i) (c-i)) ql ql (hcpB 3 (G-(i+m)) (c-i)) ?_)
  go_wp2
  go_ret
  obtain ⟨A,hA⟩:=hfin
  exact ⟨A,G,rfl,hA⟩
set_option maxHeartbeats 4000000 in
set_option maxRecDepth 100000 in
theorem YP (base b0 n m i:Nat) (v v2:Value) (cells cells2:List Value) (w:World) (hb:base<=w.heap.size) (hown:w.ownsRow base 284 4 v n cells) (hown2:w.ownsRow base 284 4 v2 m cells2) (hm:0<m) (hbig:(n+m)*56<=140737488355328) (h1v : ∀u∈cells2,u.oneCell'=true) :
    Calls Tryz.prog 393 #[v,.int .i64 n,v2] w (Rw base 284 4 w v (n+m) (cells++cells2)):=by
  obtain ⟨ze,ie,hie,hze,hsz,hby,hzz⟩:=Sl
  have t79:=u79;have t3:=u3;have t4:=u4
  have aa:=run_underlying u79;have r3:=run_underlying u3;have r4:=run_underlying u4
  have hz1 : ¬((m:Int)=0):=by omega
  obtain ⟨v',w',r1,post⟩:=aAF ⟨u79,u3,Sl⟩ qe qe base b0 n m i v v2 cells cells2 w hb hown hown2 hm hbig h1v
  rcases hown2.2 with ⟨_,h0⟩ | ⟨vb,vc,vcur,rfl,hv1,hv,hv3,hv4,hv5,hvtk⟩
  · omega
  have hlen:(Builtin.len_ #[38] 3 #[v]).run Tryz.prog w = .ok (.int .i64 n) w:=by rcases hown.2 with ⟨rfl,rfl⟩ | ⟨g,cap,cur,rfl,_⟩<;>simp [Builtin.len_,aa,goInt]
  refine calls_of_wp Tryz.func393 rfl ?_
  simp only [show Tryz.f393.ntmps=95 from rfl,List.size_toArray,qJ,qK,Nat.reduceAdd,Nat.reduceSub,Array.replicate_succ,
     Array.replicate_zero,List.push_toArray,List.append_toArray,List.nil_append,List.cons_append]
  have ae : ∀w,(Go.sizeOf 284).run Tryz.prog w = .ok 4 w:=λw=>by simp [Go.sizeOf,typeInfo,hie,hsz]
  rcases hown.2 with ⟨rfl,rfl⟩ | ⟨g,cap,cur,rfl,hg1,hg2,hg3,_⟩
  · clear hown hown2
    go_wp2_with (at_builtin;refine Lib.wpList_append_run _ rfl _ _ _ _ rfl _ _ rfl rfl _ _ (r1 _) ?_)
    go_ret
    exact post
  · clear hown hown2
    go_wp2_with (at_builtin;refine Lib.wpList_append_run _ rfl _ _ _ _ rfl _ _ rfl rfl _ _ (r1 _) ?_)
    all_goals (go_ret;exact post)
theorem aAJ (args:List (Bool×List D)):kR Tryz.prog 393 args [(false,[.edit (.ins 284 4 56)])]:=by
 refine .inr (.inl ⟨_,rfl,⟨_,_,Tryz.func393,rfl,qf⟩,?_⟩)
 intro base w v v2 n m cells cells2 i hb hown hown2 hne hi hm hbig h1c h1v
 by_cases hin:i=n
 ·subst hin;have hl:cells.length=i*4:=hown.1;rw [List.take_of_length_le qb,List.drop_of_length_le qb,qW];exact YP base 0 i m i v v2 cells cells2 w hb hown hown2 hm hbig h1v
 ·rcases hown.2 with ⟨_,h0⟩ | ⟨b,c,cur,rfl,hb1,hb2,hb3,hb4,hb5,htk⟩
  ·omega
  rcases hown2.2 with ⟨_,h0⟩ | ⟨vb,vc,vcur,rfl,hv1,hv2,hv3,hv4,hv5,hvtk⟩
  ·omega
  have hvb:vb≠b:=λe=>hne b rfl (by rw [e];rfl)
  have hc63:c<=9223372036854775807:=by unfold maxLen at hb4;omega
  by_cases hroom:n+m<=c
  ·refine (WN b n c i vb m vc cells cells2 cur w qb hm hroom hc63 hvb hown.1 hown2.1 hb2 hb5 htk vcur hv2 hvtk h1c h1v).mono ?_;rintro e w' ⟨A,rfl,q1,q2,q3,q4⟩;refine ⟨_,rfl,⟨?_,.inr ⟨b,c,A,rfl,hb1,q3,hroom,hb4,q2,q1⟩⟩,q4,.inl rfl⟩;simp only [qE,qT,qU,hown.1,hown2.1];omega
  ·refine (Wg b n c i vb m vc cells cells2 cur w qb hm hb3 qb hbig hc63 hown.1 hown2.1 hb2 htk vcur hv2 hvtk h1c h1v).mono ?_;rintro e w' ⟨A,G,rfl,q1,q2,q3,q4,q5,q6⟩;refine ⟨_,rfl,⟨?_,.inr ⟨w.heap.size,G,A,rfl,hb,q5,q2,q3,q4,q1⟩⟩,⟨q6.os,q6.tape,q6.output,q6.size,λk hk _=>q6.block k hk qd⟩,.inr ⟨_,Nat.le_refl _,rfl⟩⟩;simp only [qE,qT,qU,hown.1,hown2.1];omega
end L393
instance aGL:bF 393 (type_of% @L393.aAJ):=⟨@L393.aAJ⟩
end Go.Proofs.YtipmihbgjolaaaaGreat.gen
