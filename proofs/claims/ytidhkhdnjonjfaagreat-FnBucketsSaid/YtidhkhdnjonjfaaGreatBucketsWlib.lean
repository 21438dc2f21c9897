/-
  Helper text. No conditions.
-/
import Derived.Test.YtidhkhdnjonjfaaGreatBucketsTi
import Derived.Lib.Walk
import Derived.WalkKit
import Derived.Shelf.RegionOpenPlain
import Derived.Lib.JoinLaws
import Derived.Laws.Externs
set_option linter.unusedVariables false
set_option linter.unusedSimpArgs false
namespace Go.Proofs.YtidhkhdnjonjfaaGreat.gen
open Go Go.Sh
set_option maxRecDepth 20000
set_option maxHeartbeats 4000000
namespace L414
theorem u79:Tryz.prog.underlying 35=some (.slice 227):=by kernel_rfl
theorem u3:Tryz.prog.underlying 3=some (.int .i64):=by kernel_rfl
theorem u4:Tryz.prog.underlying 4=some .bool:=by kernel_rfl
theorem aTq:(Tryz.prog.info? 227).map (fun i=>(i.size,i.bytes,i.zero.isSome,(i.zero.map fun z=>z.cells.size)))=some (4,56,true,some 4):=by kernel_rfl
theorem aOP : ∃z i,Tryz.prog.info? 227=some i∧i.zero=some z∧i.size=4∧i.bytes=56∧z.cells.size=4:=by
 have h:=aTq
 cases hi:Tryz.prog.info? 227 with
 | none=>rw [hi] at h;cases h
 | some i =>
  rw [hi] at h
  simp only [Option.map_some,qa,qZ] at h
  obtain ⟨h1,h2,h3,h4⟩:=h
  cases hz:i.zero with
  | none=>rw [hz] at h3;cases h3
  | some z =>
   rw [hz] at h4
   exact ⟨z,i,rfl,hz,h1,h2,by simpa using h4⟩
set_option maxHeartbeats 4000000 in
set_option maxRecDepth 100000 in
theorem aND (b n c i vb m vc:Nat) (cs vs:List Value) (cur:Array Value) (w:World) (hi:i<n) (hm:0<m) (hroom:n+m≤c) (hc63:c≤9223372036854775807) (hvb:vb≠b)
    (hcl:cs.length=n*4) (hvl:vs.length=m*4) (hb:w.heap[b]? = some (.cells cur 227 (0,0))) (hcur:cur.size=c*4) (htk:cur.toList.take (n*4)=cs) (vcur:Array Value) (hv:w.heap[vb]? = some (.cells vcur 227 (0,0))) (hvtk:vcur.toList.take (m*4)=vs)
    (h1c : ∀v∈cs,v.oneCell'=true) (h1v : ∀v∈vs,v.oneCell'=true) :
    Calls Tryz.prog 414 #[.slice (some ⟨b,0,none⟩) n c,.int .i64 i,.slice (some ⟨vb,0,none⟩) m vc] w fun e w' =>
      ∃A,e = .returned (.slice (some ⟨b,0,none⟩) (n+m) c)∧A.toList.take ((n+m)*4)=cs.take (i*4)++(vs++cs.drop (i*4))∧A.size=c*4∧w'.heap[b]? = some (.cells A 227 (0,0))∧w.grownBy w' (some b):=by
  obtain ⟨ze,ie,hie,hze,hsz,hby,hzz⟩:=aOP
  have t79:=u79;have t3:=u3;have t4:=u4
  have z240 : ∀w,(Go.sizeOf 227).run Tryz.prog w = .ok 4 w:=fun w=>by simp [Go.sizeOf,typeInfo,hie,hsz]
  have r79:=run_underlying u79;have r3:=run_underlying u3;have r4:=run_underlying u4
  have hz1 : ¬((m:Int)=0):=by omega
  have hz2 : ¬((i:Int)=(n:Int)):=by omega
  have mixed:Tryz.prog.follows .mixedOrders=true:=by kernel_rfl
  have hov : ∀lb cb,(callFunc 477 #[.slice (some ⟨vb,0,none⟩) m vc,.slice (some ⟨b,(i+m)*4,none⟩) lb cb]).run Tryz.prog w = .ok (.value (.bool false)) w:=fun lb cb=>by
    rw [run_callFunc_extern Tryz.func477 (by kernel_rfl) (by kernel_rfl) (by kernel_rfl) (e:=Extern.SlicesOverlaps.overlaps #[35,35] #[4]) (by kernel_rfl),
      Lib.run_overlaps_apart w 35 4 227 u79 4 z240 ⟨vb,0,none⟩ ⟨b,(i+m)*4,none⟩ m vc lb cb hvb 227 227 vcur.size cur.size (by simp [World.shape?,hv]) (by simp [World.shape?,hb]) (by omega) (by simp [World.frozen?,hv]) (by simp [World.frozen?,hv])]
    rfl
  have hw1:IntKind.i64.wrap ((i:Int)+(m:Int))=(i:Int)+(m:Int):=by rw [IntKind.wrap_i64];omega
  have hb1:(0:Int)≤(i:Int)+(m:Int):=by omega
  have hin:i≤n:=by omega
  have htn:((i:Int)+(m:Int)).toNat=i+m:=by omega
  have hb2 : ¬(c=i+m):=by omega
  have hb3:(i:Int)≤(n:Int)+(m:Int):=by omega
  have hb4 : ¬(c=i):=by omega
  have hdl:(cs.drop (i*4)).length=(n-i)*4:=by rw [qU,hcl];omega
  obtain ⟨A1,hA1⟩ : ∃A1,A1=(cur.toList.take ((i+m)*4)++cs.drop (i*4)++cur.toList.drop ((i+m)*4+(cs.drop (i*4)).length)).toArray:=⟨_,rfl⟩
  have hcp1 : ∀ty dc sc,(Builtin.copy_ #[35,35] ty #[.slice (some ⟨b,(i+m)*4,none⟩) (n+m-(i+m)) dc,.slice (some ⟨b,i*4,none⟩) (n+m-i) sc]).run Tryz.prog w.drew = .ok (goInt (Nat.min (n+m-i) (n+m-(i+m)))) (w.drew.setRow b A1):=fun ty dc sc=>by
    rw [hA1]
    exact aA2 w.drew 35 35 ty 227 ie b ((i+m)*4) (n+m-(i+m)) dc ⟨b,i*4,none⟩ (n+m-i) sc cur 227 (cs.drop (i*4)) u79 hie hb (by rw [hdl,hsz];congr 1;simp only [Nat.min_def];split<;>omega)
      (fun j v hj=>by
        rw [Addr.add_lit]
        have hj':cs[i*4+j]? = some v:=by rwa [List.getElem?_drop] at hj
        have:cur.toList[i*4+j]? = some v:=by
          rw [←htk,List.getElem?_take] at hj'
          split at hj'
          · exact hj'
          · cases hj'
        show w.cell? _=_
        simp [World.cell?,hb]
        simpa using this) (by rw [hdl];omega) (fun v hv=>h1c v (List.mem_of_mem_drop hv))
  obtain ⟨A2,hA2⟩ : ∃A2,A2=(A1.toList.take (i*4)++vs++A1.toList.drop (i*4+vs.length)).toArray:=⟨_,rfl⟩
  obtain ⟨s1,s2,s3⟩:=aMv (cur:=cur.toList) (n:=n) (m:=m) (c:=c) hi hroom hcl hvl (by simpa using hcur) htk hA1 hA2
  have hbw:b<w.heap.size:=(Array.getElem?_eq_some_iff.1 hb).1
  have hbA:(w.drew.setRow b A1).heap[b]? = some (.cells A1 227 (0,0)):=setRow_heap w.drew b cur A1 227 _ hb
  have hbA2:((w.drew.setRow b A1).drew.setRow b A2).heap[b]? = some (.cells A2 227 (0,0)):=setRow_heap _ b A1 A2 227 _ hbA
  have hcp2 : ∀ty dc,(Builtin.copy_ #[35,35] ty #[.slice (some ⟨b,i*4,none⟩) (n+m-i) dc,.slice (some ⟨vb,0,none⟩) m vc]).run Tryz.prog (w.drew.setRow b A1) = .ok (goInt (Nat.min m (n+m-i))) ((w.drew.setRow b A1).setRow b A2):=fun ty dc=>by
    rw [hA2]
    exact aA2 _ 35 35 ty 227 ie b (i*4) (n+m-i) dc ⟨vb,0,none⟩ m vc A1 227 vs u79 hie hbA (by rw [hvl,hsz];congr 1;simp only [Nat.min_def];split<;>omega)
      (fun j v hj=>by
        rw [Addr.add_lit]
        have:vcur.toList[j]? = some v:=by
          rw [←hvtk,List.getElem?_take] at hj
          split at hj
          · exact hj
          · cases hj
        have hv':(w.drew.setRow b A1).heap[vb]? = some (.cells vcur 227 (0,0)):=(setRow_other w.drew b vb A1 hvb).trans hv
        simp only [World.cell?,hv',Nat.zero_add]
        simpa using this) (by rw [hvl,s1];omega) h1v
  clear hA1 hA2 htk hvtk hcur hb hv
  have hfin : ∃A,A.toList.take ((n+m)*4)=cs.take (i*4)++(vs++cs.drop (i*4))∧A.size=c*4∧((w.drew.setRow b A1).setRow b A2).heap[b]? = some (.cells A 227 (0,0))∧w.grownBy ((w.drew.setRow b A1).setRow b A2) (some b):=
    ⟨A2,s3,s2,hbA2,⟨rfl,rfl,rfl,by simp [World.setRow],fun k _ hk=>(setRow_other _ b k A2 (fun e=>hk (by rw [e]))).trans (setRow_other _ b k A1 (fun e=>hk (by rw [e])))⟩⟩
  clear s1 s2 s3 hbA hbA2
  refine calls_of_wp Tryz.func414 rfl ?_
  simp only [show Tryz.f414.ntmps=95 from rfl,List.size_toArray,qJ,qK,Nat.reduceAdd,Nat.reduceSub,Array.replicate_succ,
     Array.replicate_zero,List.push_toArray,List.append_toArray,List.nil_append,List.cons_append]
  go_wp2_with (simp only [hov])
  go_region_law_o (refine aBI rfl _ _ 35 35 rfl _ _ (by simp [Act.eval,Act.put]) (by simp [Act.eval,Act.put]) (hcp1 _ _ _) ?_)
  go_wp2_with (at_builtin;refine aAC _ rfl _ _ 35 35 rfl _ _ rfl rfl (hcp2 _ _) ?_)
  go_ret
  obtain ⟨A,hA⟩:=hfin
  exact ⟨A,rfl,hA⟩
set_option maxHeartbeats 4000000 in
set_option maxRecDepth 100000 in
theorem aMl (b n c i vb m vc:Nat) (cs vs:List Value) (cur:Array Value) (w:World) (hi:i<n) (hm:0<m) (hnc:n≤c) (hroom:c<n+m) (hbig:(n+m)*56≤140737488355328) (hc63:c≤9223372036854775807)
    (hcl:cs.length=n*4) (hvl:vs.length=m*4) (hb:w.heap[b]? = some (.cells cur 227 (0,0))) (htk:cur.toList.take (n*4)=cs) (vcur:Array Value) (hv:w.heap[vb]? = some (.cells vcur 227 (0,0))) (hvtk:vcur.toList.take (m*4)=vs)
    (h1c : ∀v∈cs,v.oneCell'=true) (h1v : ∀v∈vs,v.oneCell'=true) :
    Calls Tryz.prog 414 #[.slice (some ⟨b,0,none⟩) n c,.int .i64 i,.slice (some ⟨vb,0,none⟩) m vc] w fun e w' =>
      ∃A G,e = .returned (.slice (some ⟨w.heap.size,0,none⟩) (n+m) G)∧A.toList.take ((n+m)*4)=cs.take (i*4)++(vs++cs.drop (i*4))∧n+m≤G∧G≤maxLen∧A.size=G*4∧w'.heap[w.heap.size]? = some (.cells A 227 (0,0))∧w.grownBy w' none:=by
  obtain ⟨ze,ie,hie,hze,hsz,hby,hzz⟩:=aOP
  have t79:=u79;have t3:=u3;have t4:=u4
  have z240 : ∀w,(Go.sizeOf 227).run Tryz.prog w = .ok 4 w:=fun w=>by simp [Go.sizeOf,typeInfo,hie,hsz]
  have r79:=run_underlying u79;have r3:=run_underlying u3;have r4:=run_underlying u4
  have hz1 : ¬((m:Int)=0):=by omega
  have hz2 : ¬((i:Int)=(n:Int)):=by omega
  have hz3:(c:Int)<(n:Int)+(m:Int):=by omega
  have mixed:Tryz.prog.follows .mixedOrders=true:=by kernel_rfl
  have hbw:b<w.heap.size:=(Array.getElem?_eq_some_iff.1 hb).1
  have hvw:vb<w.heap.size:=(Array.getElem?_eq_some_iff.1 hv).1
  have hkk:(n:Int)+(m:Int)-(i:Int)=((n+m-i:Nat):Int):=by omega
  have hik:i+(n+m-i)=n+m:=by omega
  have hcell : ∀j v,cs[j]? = some v→w.cell? ⟨b,j,none⟩=some v:=fun j v hj=>by
    rw [←htk,List.getElem?_take] at hj
    split at hj
    · simp only [World.cell?,hb];simpa using hj
    · cases hj
  have hvcell : ∀j v,vs[j]? = some v→w.cell? ⟨vb,j,none⟩=some v:=fun j v hj=>by
    rw [←hvtk,List.getElem?_take] at hj
    split at hj
    · simp only [World.cell?,hv];simpa using hj
    · cases hj
  have hold:(Builtin.firstCells ie.size i (.slice (some ⟨b,0,none⟩) i c)).run Tryz.prog w.drew = .ok (cs.take (i*4)).toArray w.drew:=by
    rw [hsz]
    exact run_firstCells_some w.drew 4 i ⟨b,0,none⟩ i c (cs.take (i*4)) (by rw [qT,hcl];omega) (fun j v hj=>by
      rw [Addr.add_lit,Nat.zero_add]
      rw [List.getElem?_take] at hj
      split at hj
      · exact hcell j v hj
      · cases hj)
  have hrz : ∀ty,(Builtin.append_ #[35,3] ty #[.slice (some ⟨b,0,none⟩) i c,.int .i64 ((n:Int)+(m:Int)-(i:Int))]).run Tryz.prog w =
      .ok (.slice (some ⟨w.heap.size,0,none⟩) (n+m) (grownCap w (n+m) c 227)) (w.drew.alloc (.cells ((cs.take (i*4)).toArray++Builtin.zeroCells ze.cells (n+m-i)++Builtin.zeroCells ze.cells (grownCap w (n+m) c 227-(n+m))) 227)):=fun ty=>by
    have h:=Lib.run_append_grow_zeros w 35 3 ty 227 ie ze .i64 .i64 u79 u3 hie hze (some ⟨b,0,none⟩) i c (cs.take (i*4)) hold (n+m-i) (by omega) (by omega) (by omega) (by omega) (by rw [hby];omega) (by rw [hby,hik];exact growslice_fits hroom hbig)
    rw [hik] at h
    rw [hkk]
    exact h
  obtain ⟨G,hG⟩ : ∃G,G=grownCap w (n+m) c 227:=⟨_,rfl⟩
  have hGn:n+m≤G:=by rw [hG];exact grownCap_ge w _ _ _
  have hG63':G≤maxLen:=by rw [hG];exact grownCap_le_maxLen w (n+m) c 227 (by unfold maxLen;omega)
  have hG63:G≤9223372036854775807:=by have:=hG63';unfold maxLen at this;omega
  obtain ⟨ROW,hROW⟩ : ∃ROW:Array Value,ROW=(cs.take (i*4)).toArray++Builtin.zeroCells ze.cells (n+m-i)++Builtin.zeroCells ze.cells (G-(n+m)):=⟨_,rfl⟩
  rw [←hG,←hROW] at hrz
  have hRs:ROW.size=G*4:=by
    rw [hROW]
    simp only [Array.size_append,List.size_toArray,qT,hcl,uX,hzz]
    omega
  have hRt:ROW.toList.take (i*4)=cs.take (i*4):=by
    rw [hROW]
    simp only [Array.toList_append,qS]
    have hl:(cs.take (i*4)).length=i*4:=by rw [qT,hcl];omega
    exact List.take_left' hl
  have hN:w.drew.heap.size=w.heap.size:=rfl
  obtain ⟨W1,hW1⟩ : ∃W1,W1=w.drew.alloc (.cells ROW 227):=⟨_,rfl⟩
  have hW1b:W1.heap[w.heap.size]? = some (.cells ROW 227 (0,0)):=by
    rw [hW1]
    show (w.drew.heap.push _)[w.drew.heap.size]? = _
    exact Array.getElem?_push_size
  have hW1o : ∀k,k<w.heap.size→W1.heap[k]? = w.heap[k]? := fun k hk=>by
    rw [hW1]
    show (w.drew.heap.push _)[k]? = _
    rw [Array.getElem?_push_lt (by exact hk)]
    exact (Array.getElem?_eq_getElem hk).symm
  rw [←hW1] at hrz
  obtain ⟨A1,hA1⟩ : ∃A1,A1=(ROW.toList.take (i*4)++vs++ROW.toList.drop (i*4+vs.length)).toArray:=⟨_,rfl⟩
  have hA1s:A1.size=G*4:=by
    rw [hA1]
    simp only [List.size_toArray,qE,qT,qU,Array.length_toList,hRs,hvl]
    omega
  have hcpA : ∀ty dc,(Builtin.copy_ #[35,35] ty #[.slice (some ⟨w.heap.size,i*4,none⟩) (n+m-i) dc,.slice (some ⟨vb,0,none⟩) m vc]).run Tryz.prog W1 = .ok (goInt (Nat.min m (n+m-i))) (W1.setRow w.heap.size A1):=fun ty dc=>by
    rw [hA1]
    exact aA2 _ 35 35 ty 227 ie w.heap.size (i*4) (n+m-i) dc ⟨vb,0,none⟩ m vc ROW 227 vs u79 hie hW1b (by rw [hvl,hsz];congr 1;simp only [Nat.min_def];split<;>omega)
      (fun j v hj=>by
        rw [Addr.add_lit,Nat.zero_add]
        exact (World.cell?_of_block (w:=w) (w':=W1) (a:=⟨vb,j,none⟩) (hW1o vb hvw)).trans (hvcell j v hj)) (by rw [hvl,hRs];omega) h1v
  have hA1b:(W1.setRow w.heap.size A1).heap[w.heap.size]? = some (.cells A1 227 (0,0)):=setRow_heap W1 _ ROW A1 227 _ hW1b
  obtain ⟨A2,hA2⟩ : ∃A2,A2=(A1.toList.take ((i+m)*4)++cs.drop (i*4)++A1.toList.drop ((i+m)*4+(cs.drop (i*4)).length)).toArray:=⟨_,rfl⟩
  have hdl:(cs.drop (i*4)).length=(n-i)*4:=by rw [qU,hcl];omega
  have hA2s:A2.size=G*4:=by
    rw [hA2]
    simp only [List.size_toArray,qE,qT,qU,Array.length_toList,hA1s,hcl]
    omega
  have hA2t:A2.toList.take ((n+m)*4)=cs.take (i*4)++(vs++cs.drop (i*4)):=by
    have hl:(cs.take (i*4)++vs).length=(i+m)*4:=by rw [qE,qT,hcl,hvl];omega
    have e1:A1.toList.take ((i+m)*4)=cs.take (i*4)++vs:=by
      rw [hA1,hRt]
      exact List.take_left' hl
    rw [hA2,e1]
    have hl2:(cs.take (i*4)++vs++cs.drop (i*4)).length=(n+m)*4:=by rw [qE,hl,hdl];omega
    rw [←qS]
    exact List.take_left' hl2
  have hcpB : ∀ty dc sc,(Builtin.copy_ #[35,35] ty #[.slice (some ⟨w.heap.size,(i+m)*4,none⟩) (n+m-(i+m)) dc,.slice (some ⟨b,i*4,none⟩) (n-i) sc]).run Tryz.prog (W1.setRow w.heap.size A1).drew = .ok (goInt (Nat.min (n-i) (n+m-(i+m)))) ((W1.setRow w.heap.size A1).drew.setRow w.heap.size A2):=fun ty dc sc=>by
    rw [hA2]
    exact aA2 _ 35 35 ty 227 ie w.heap.size ((i+m)*4) (n+m-(i+m)) dc ⟨b,i*4,none⟩ (n-i) sc A1 227 (cs.drop (i*4)) u79 hie hA1b (by rw [hdl,hsz];congr 1;simp only [Nat.min_def];split<;>omega)
      (fun j v hj=>by
        rw [Addr.add_lit]
        have hj':cs[i*4+j]? = some v:=by rwa [List.getElem?_drop] at hj
        have h1:(W1.setRow w.heap.size A1).drew.heap[b]? = w.heap[b]? := (setRow_other W1 w.heap.size b A1 (by omega)).trans (hW1o b hbw)
        exact (World.cell?_of_block (w:=w) (a:=⟨b,i*4+j,none⟩) h1).trans (hcell _ v hj')) (by rw [hdl,hA1s];omega) (fun v hv=>h1c v (List.mem_of_mem_drop hv))
  have hfin : ∃A,A.toList.take ((n+m)*4)=cs.take (i*4)++(vs++cs.drop (i*4))∧n+m≤G∧G≤maxLen∧A.size=G*4∧((W1.setRow w.heap.size A1).drew.setRow w.heap.size A2).heap[w.heap.size]? = some (.cells A 227 (0,0))∧w.grownBy ((W1.setRow w.heap.size A1).drew.setRow w.heap.size A2) none:=by
    refine ⟨A2,hA2t,hGn,hG63',hA2s,setRow_heap _ _ A1 A2 227 _ hA1b,⟨?_,?_,?_,?_,fun k hk _ => ?_⟩⟩
    · rw [hW1];rfl
    · rw [hW1];rfl
    · rw [hW1];rfl
    · have h1:W1.heap.size=w.heap.size+1:=by
        rw [hW1]
        show (w.drew.heap.push _).size=_
        rw [Array.size_push];rfl
      have h2:((W1.setRow w.heap.size A1).drew.setRow w.heap.size A2).heap.size=W1.heap.size:=(setRow_size _ _ _).trans (setRow_size W1 _ _)
      omega
    · exact (setRow_other _ w.heap.size k A2 (by omega)).trans ((setRow_other W1 w.heap.size k A1 (by omega)).trans (hW1o k hk))
  have hw1:IntKind.i64.wrap ((i:Int)+(m:Int))=(i:Int)+(m:Int):=by rw [IntKind.wrap_i64];omega
  have hb1:(0:Int)≤(i:Int)+(m:Int):=by omega
  have hin:i≤n:=by omega
  have htn:((i:Int)+(m:Int)).toNat=i+m:=by omega
  have hb3:(i:Int)≤(n:Int):=by omega
  have hGi : ¬(G=i):=by omega
  have hGim : ¬(G=i+m):=by omega
  have hci : ¬(c=i):=by omega
  clear hkk hik hold hROW hG hRs hRt hW1 hW1b hW1o hA1 hA1s hA2 hA2s hA2t hA1b hcell hvcell hb hv htk hvtk
  refine calls_of_wp Tryz.func414 rfl ?_
  simp only [show Tryz.f414.ntmps=95 from rfl,List.size_toArray,qJ,qK,Nat.reduceAdd,Nat.reduceSub,Array.replicate_succ,
     Array.replicate_zero,List.push_toArray,List.append_toArray,List.nil_append,List.cons_append]
  go_wp2_with (first
    | (at_builtin;refine Lib.wpList_append_run _ rfl _ _ _ _ rfl _ _ rfl rfl _ _ (hrz _) ?_)
    | (at_builtin;refine aAC _ rfl _ _ 35 35 rfl _ _ rfl rfl (hcpA _ _) ?_))
  go_region_law_o (refine aBI rfl _ _ 35 35 rfl (.slice (some ⟨w.heap.size,(i+m)*4,none⟩) (n+m-(i+m)) (G-(i+m))) (.slice (some ⟨b,i*4,none⟩) (n-i) (c-i)) (by simp [Act.eval,Act.put]) (by simp [Act.eval,Act.put]) (hcpB 3 (G-(i+m)) (c-i)) ?_)
  go_wp2
  go_ret
  obtain ⟨A,hA⟩:=hfin
  exact ⟨A,G,rfl,hA⟩
set_option maxHeartbeats 4000000 in
set_option maxRecDepth 100000 in
theorem aOV (base b0 n m i:Nat) (v v2:Value) (cells cells2:List Value) (w:World) (hb:base≤w.heap.size) (hown:w.ownsRow base 227 4 v n cells) (hown2:w.ownsRow base 227 4 v2 m cells2) (hm:0<m) (hbig:(n+m)*56≤140737488355328) (h1v : ∀u∈cells2,u.oneCell'=true) :
    Calls Tryz.prog 414 #[v,.int .i64 n,v2] w (aJF base 227 4 w v (n+m) (cells++cells2)):=by
  obtain ⟨ze,ie,hie,hze,hsz,hby,hzz⟩:=aOP
  have t79:=u79;have t3:=u3;have t4:=u4
  have r79:=run_underlying u79;have r3:=run_underlying u3;have r4:=run_underlying u4
  have hz1 : ¬((m:Int)=0):=by omega
  rcases hown2.2 with ⟨_,h0⟩ | ⟨vb,vc,vcur,rfl,hv1,hv,hv3,hv4,hv5,hvtk⟩
  · omega
  obtain ⟨v',w',r1,r2,r3',_,r5⟩ : ∃v' w',(∀ty,(Builtin.append_ #[35,35] ty #[v,.slice (some ⟨vb,0,none⟩) m vc]).run Tryz.prog w = .ok v' w')∧w'.ownsRow base 227 4 v' (n+m) (cells++cells2)∧w.grownBy w' v.ownBlock∧True∧(v'.ownBlock=v.ownBlock∨v'.ownBlock=some w.heap.size):=by
    obtain ⟨v',w',q1,q2,q3,q4,q5⟩:=run_append_own_at (P:=Tryz.prog) w base 35 35 227 ie ze 4 56 u79 hie hze hsz hby (by rw [hzz]) (by omega) v n cells hown ⟨vb,0,none⟩ m vc cells2 hown2.1
      (fun j u hu=>by
        rw [Addr.add_lit,Nat.zero_add]
        have:=hown2.cellAt j (by rw [←hown2.1];exact (List.getElem?_eq_some_iff.1 hu).1)
        rw [this];exact hu) h1v (by simp only [maxLen];omega) hbig hb
    exact ⟨v',w',fun ty=>q1,q2,q3,trivial,q5⟩
  have hlen:(Builtin.len_ #[35] 3 #[v]).run Tryz.prog w = .ok (.int .i64 n) w:=by
    rcases hown.2 with ⟨rfl,rfl⟩ | ⟨g,cap,cur,rfl,_⟩<;>simp [Builtin.len_,r79,goInt]
  have post:aJF base 227 4 w v (n+m) (cells++cells2) (.returned v') w':=⟨v',rfl,r2,r3',r5.elim .inl fun h=>.inr ⟨_,Nat.le_refl _,h⟩⟩
  refine calls_of_wp Tryz.func414 rfl ?_
  simp only [show Tryz.f414.ntmps=95 from rfl,List.size_toArray,qJ,qK,Nat.reduceAdd,Nat.reduceSub,Array.replicate_succ,
     Array.replicate_zero,List.push_toArray,List.append_toArray,List.nil_append,List.cons_append]
  have z240 : ∀w,(Go.sizeOf 227).run Tryz.prog w = .ok 4 w:=fun w=>by simp [Go.sizeOf,typeInfo,hie,hsz]
  rcases hown.2 with ⟨rfl,rfl⟩ | ⟨g,cap,cur,rfl,hg1,hg2,hg3,_⟩
  · clear hown hown2
    go_wp2_with (at_builtin;refine Lib.wpList_append_run _ rfl _ _ _ _ rfl _ _ rfl rfl _ _ (r1 _) ?_)
    go_ret
    exact post
  · clear hown hown2
    go_wp2_with (at_builtin;refine Lib.wpList_append_run _ rfl _ _ _ _ rfl _ _ rfl rfl _ _ (r1 _) ?_)
    all_goals (go_ret;exact post)
theorem aPH (args:List (Bool×List D)):jJ Tryz.prog 414 args [(false,[.edit (.ins 227 4 56)])]:=by
 refine .inr (.inl ⟨_,rfl,⟨_,_,Tryz.func414,rfl,by decide +kernel⟩,?_⟩)
 intro base w v v2 n m cells cells2 i hb hown hown2 hne hi hm hbig h1c h1v
 by_cases hin:i=n
 ·subst hin
  have hl:cells.length=i*4:=hown.1
  rw [List.take_of_length_le (by omega),List.drop_of_length_le (by omega),qW]
  exact aOV base 0 i m i v v2 cells cells2 w hb hown hown2 hm hbig h1v
 ·rcases hown.2 with ⟨_,h0⟩ | ⟨b,c,cur,rfl,hb1,hb2,hb3,hb4,hb5,htk⟩
  ·omega
  rcases hown2.2 with ⟨_,h0⟩ | ⟨vb,vc,vcur,rfl,hv1,hv2,hv3,hv4,hv5,hvtk⟩
  ·omega
  have hvb:vb≠b:=fun e=>hne b rfl (by rw [e];rfl)
  have hc63:c≤9223372036854775807:=by unfold maxLen at hb4;omega
  by_cases hroom:n+m≤c
  ·refine (aND b n c i vb m vc cells cells2 cur w (by omega) hm hroom hc63 hvb hown.1 hown2.1 hb2 hb5 htk vcur hv2 hvtk h1c h1v).mono ?_
   rintro e w' ⟨A,rfl,q1,q2,q3,q4⟩
   refine ⟨_,rfl,⟨?_,.inr ⟨b,c,A,rfl,hb1,q3,hroom,hb4,q2,q1⟩⟩,q4,.inl rfl⟩
   simp only [qE,qT,qU,hown.1,hown2.1]
   omega
  ·refine (aMl b n c i vb m vc cells cells2 cur w (by omega) hm hb3 (by omega) hbig hc63 hown.1 hown2.1 hb2 htk vcur hv2 hvtk h1c h1v).mono ?_
   rintro e w' ⟨A,G,rfl,q1,q2,q3,q4,q5,q6⟩
   refine ⟨_,rfl,⟨?_,.inr ⟨w.heap.size,G,A,rfl,hb,q5,q2,q3,q4,q1⟩⟩,⟨q6.os,q6.tape,q6.output,q6.size,fun k hk _=>q6.block k hk (by simp)⟩,.inr ⟨_,Nat.le_refl _,rfl⟩⟩
   simp only [qE,qT,qU,hown.1,hown2.1]
   omega
end L414
instance aTf:bP 414 (type_of% @L414.aPH):=⟨@L414.aPH⟩
end Go.Proofs.YtidhkhdnjonjfaaGreat.gen
