/-
  Helper text. No conditions.
-/
import Derived.Test.YtblghjofnielnaaChannelsTi
import Derived.Lib.Walk
import Derived.WalkKit
import Derived.Shelf.RegionOpenPlain
import Derived.Lib.JoinLaws
import Derived.Laws.Externs
namespace Go.Proofs.Ytblghjofnielnaa.gen
open Go Go.Sh
set_option linter.unusedVariables false
set_option linter.unusedSimpArgs false
set_option maxRecDepth 20000
set_option maxHeartbeats 4000000
namespace L25
theorem us:Try.prog.underlying 24=some (.slice 40):=by kernel_rfl
theorem ui:Try.prog.underlying 3=some (.int .i64):=by kernel_rfl
theorem ub:Try.prog.underlying 4=some .bool:=by kernel_rfl
theorem ie:(Try.prog.info? 40).map (fun i=>(i.size,i.bytes,i.zero.isSome,(i.zero.map fun z=>(z.cells.size,z.cells.all fun u=>u.oneCell'))))=some (3,24,true,some (3,true)):=by kernel_rfl
theorem ie' : ∃z i,Try.prog.info? 40=some i∧i.zero=some z∧i.size=3∧z.cells.size=3∧(∀u∈z.cells.toList,u.oneCell'=true):=by
 have h:=ie
 cases hi:Try.prog.info? 40 with
 | none=>rw [hi] at h;cases h
 | some i =>
  rw [hi] at h
  simp only [Option.map_some,Option.some.injEq,Prod.mk.injEq] at h
  obtain ⟨h1,h2,h3,h4⟩:=h
  cases hz:i.zero with
  | none=>rw [hz] at h3;cases h3
  | some z =>
   rw [hz] at h4
   simp only [Option.map_some,Option.some.injEq,Prod.mk.injEq] at h4
   have h5 : ∀(k:Nat) (hk:k<z.cells.size),z.cells[k].oneCell'=true:=by simpa using h4.2
   refine ⟨z,i,rfl,hz,h1,h4.1,fun u hu => ?_⟩
   obtain ⟨k,hk,rfl⟩:=List.mem_iff_getElem.1 hu
   simpa using h5 k (by simpa using hk)
set_option maxHeartbeats 4000000 in
set_option maxRecDepth 100000 in
theorem same (v:Value) (n i base:Nat) (cells:List Value) (w:World) (hown:w.ownsRow base 40 3 v n cells) (hi:i≤n) :
    Calls Try.prog 25 #[v,.int .i64 i,.int .i64 i] w fun e w'=>e = .returned v∧w'=w:=by
  have t1:=us;have t3:=ui;have t4:=ub
  obtain ⟨z,i0,hi0,hz,hsz,hzz,hz1⟩:=ie'
  have ze : ∀w,(Go.sizeOf 40).run Try.prog w = .ok 3 w:=fun w=>by simp [Go.sizeOf,typeInfo,hi0,hsz]
  have r1:=run_underlying us;have r3:=run_underlying ui;have r4:=run_underlying ub
  rcases hown.2 with ⟨rfl,rfl⟩ | ⟨b,c,cur,rfl,hb1,hb2,hb3,hb4,hb5,htk⟩
  · have h0:i=0:=by omega
    subst h0
    clear hown
    refine calls_of_wp Try.func25 rfl ?_
    simp only [show Try.f25.ntmps=33 from rfl,List.size_toArray,List.length_cons,List.length_nil,Nat.reduceAdd,Nat.reduceSub,Array.replicate_succ,
       Array.replicate_zero,List.push_toArray,List.append_toArray,List.nil_append,List.cons_append]
    go_wp2
    all_goals (go_ret;exact ⟨rfl,rfl⟩)
  · clear hown htk
    refine calls_of_wp Try.func25 rfl ?_
    simp only [show Try.f25.ntmps=33 from rfl,List.size_toArray,List.length_cons,List.length_nil,Nat.reduceAdd,Nat.reduceSub,Array.replicate_succ,
       Array.replicate_zero,List.push_toArray,List.append_toArray,List.nil_append,List.cons_append]
    go_wp2
    all_goals (go_ret;exact ⟨rfl,rfl⟩)
set_option maxHeartbeats 4000000 in
set_option maxRecDepth 100000 in
theorem cut (b n c i j base:Nat) (cs:List Value) (w:World) (hij:i<j) (hjn:j≤n) (hown:w.ownsRow base 40 3 (.slice (some ⟨b,0,none⟩) n c) n cs) (h1c : ∀v∈cs,v.oneCell'=true) :
    Calls Try.prog 25 #[.slice (some ⟨b,0,none⟩) n c,.int .i64 i,.int .i64 j] w fun e w' =>
      e = .returned (.slice (some ⟨b,0,none⟩) (i+(n-j)) c)∧w'.ownsRow base 40 3 (.slice (some ⟨b,0,none⟩) (i+(n-j)) c) (i+(n-j)) (cs.take (i*3)++cs.drop (j*3))∧w.grownBy w' (some b):=by
  have t1:=us;have t3:=ui;have t4:=ub
  obtain ⟨z,i0,hi0,hz,hsz,hzz,hz1⟩:=ie'
  have ze : ∀w,(Go.sizeOf 40).run Try.prog w = .ok 3 w:=fun w=>by simp [Go.sizeOf,typeInfo,hi0,hsz]
  have zv : ∀w,(zeroValue 40).run Try.prog w = .ok z w:=fun w=>by simp [zeroValue,typeInfo,hi0,hz]
  have r1:=run_underlying us;have r3:=run_underlying ui;have r4:=run_underlying ub
  have mixed:Try.prog.follows .mixedOrders=true:=by kernel_rfl
  have hown':=hown
  rcases hown'.2 with ⟨h,_⟩ | ⟨b',c',cur,h,hb1,hb2,hb3,hb4,hb5,htk⟩
  · cases h
  simp only [Value.slice.injEq,Option.some.injEq,Addr.mk.injEq,and_true,true_and] at h
  obtain ⟨rfl,rfl⟩:=h
  have hc63:c≤9223372036854775807:=by unfold maxLen at hb4;omega
  have hcl:cs.length=n*3:=hown.1
  have hdrew:w.drew.ownsRow base 40 3 (.slice (some ⟨b,0,none⟩) i c) i (cs.take (i*3)):=(lV (w:=w.drew) hown (show i≤n by omega)).2
  obtain ⟨A,hA,hsrc⟩ : ∃A:Addr,(if c=j then some (⟨b,0,none⟩:Addr) else some ⟨b,j*3,none⟩)=some A ∧ ∀t u,(cs.drop (j*3))[t]? = some u→w.drew.cell? (A.add t)=some u:=by
    by_cases h:c=j
    · refine ⟨⟨b,0,none⟩,by simp [h],fun t u hu => ?_⟩
      have h0:(cs.drop (j*3)).length=0:=by rw [List.length_drop,hcl];omega
      rw [List.length_eq_zero_iff.1 h0] at hu
      simp at hu
    · refine ⟨⟨b,j*3,none⟩,by simp [h],fun t u hu => ?_⟩
      rw [List.getElem?_drop] at hu
      have hlt:j*3+t<n*3:=by rw [←hcl];exact (List.getElem?_eq_some_iff.1 hu).1
      rw [Addr.add_lit]
      exact (hown.cellAt _ hlt).trans hu
  obtain ⟨W1,hr1,ho1,hg1⟩ : ∃W1,(∀ty,(Builtin.append_ #[24,24] ty #[.slice (some ⟨b,0,none⟩) i c,.slice (some A) (n-j) (c-j)]).run Try.prog w.drew = .ok (.slice (some ⟨b,0,none⟩) (i+(n-j)) c) W1) ∧
      W1.ownsRow base 40 3 (.slice (some ⟨b,0,none⟩) (i+(n-j)) c) (i+(n-j)) (cs.take (i*3)++cs.drop (j*3))∧w.drew.grownBy W1 (some b):=by
    obtain ⟨W1,q1,q2,q3⟩:=run_append_fits (P:=Try.prog) w.drew base 24 24 40 i0 3 us hi0 hsz b i c _ hdrew A (n-j) (c-j) (cs.drop (j*3)) (by rw [List.length_drop,hcl];omega) hsrc (fun u hu=>h1c u (List.mem_of_mem_drop hu)) (by omega)
    exact ⟨W1,fun ty=>q1,q2,q3⟩
  obtain ⟨b2,c2,cur2,h,hc1,hc2,hc3,hc4,hc5,htk2⟩:=ho1.2.resolve_left (by simp)
  simp only [Value.slice.injEq,Option.some.injEq,Addr.mk.injEq,and_true,true_and] at h
  obtain ⟨rfl,rfl⟩:=h
  obtain ⟨A2,hA2⟩ : ∃A2,A2=(cur2.toList.take ((i+(n-j))*3)++(Builtin.zeroCells z.cells (n-(i+(n-j)))).toList++cur2.toList.drop ((i+(n-j))*3+(Builtin.zeroCells z.cells (n-(i+(n-j)))).toList.length)).toArray:=⟨_,rfl⟩
  have hzl:(Builtin.zeroCells z.cells (n-(i+(n-j)))).toList.length=(n-(i+(n-j)))*3:=by rw [Array.length_toList,eY,hzz]
  have hcle : ∀ty,(Builtin.clear_ #[24] ty #[.slice (some ⟨b,(i+(n-j))*3,none⟩) (n-(i+(n-j))) (c-(i+(n-j)))]).run Try.prog W1 = .ok (.tuple #[]) (W1.setRow b A2):=fun ty=>by
    rw [hA2]
    exact nG W1 24 40 ty z us zv b ((i+(n-j))*3) (n-(i+(n-j))) (c-(i+(n-j))) cur2 40 (by omega) hc2 (by rw [hzz,hc5];omega) (fun u hu=>iL hz1 hu)
  have hfin:(W1.setRow b A2).ownsRow base 40 3 (.slice (some ⟨b,0,none⟩) (i+(n-j)) c) (i+(n-j)) (cs.take (i*3)++cs.drop (j*3))∧w.grownBy (W1.setRow b A2) (some b):=by
    refine ⟨⟨ho1.1,.inr ⟨b,c,A2,rfl,hc1,setRow_heap W1 b cur2 A2 40 _ hc2,hc3,hc4,?_,?_⟩⟩,⟨hg1.os,hg1.tape,hg1.output,?_,fun k hk hne => ?_⟩⟩
    · rw [hA2]
      simp only [List.size_toArray,List.length_append,List.length_take,List.length_drop,Array.length_toList,eY,hzz,hc5]
      omega
    · rw [hA2,←htk2]
      simp only [List.append_assoc]
      have hl:(cur2.toList.take ((i+(n-j))*3)).length=(i+(n-j))*3:=by rw [List.length_take,Array.length_toList,hc5];omega
      exact List.take_left' hl
    · have h2:=hg1.size
      have h3:(W1.setRow b A2).heap.size=W1.heap.size:=by simp [World.setRow]
      have h4:w.drew.heap.size=w.heap.size:=rfl
      omega
    · exact (setRow_other W1 b k A2 (fun e=>hne (by rw [e]))).trans (hg1.block k hk hne)
  have hic:i≤c:=by omega
  have hjc:j≤c:=by omega
  have hz2 : ¬((i:Int)=(j:Int)):=by omega
  clear hown hown' hdrew hsrc ho1 hg1 hA2 htk htk2 hc2 hc5 hzl hb2 hb5
  refine calls_of_wp Try.func25 rfl ?_
  simp only [show Try.f25.ntmps=33 from rfl,List.size_toArray,List.length_cons,List.length_nil,Nat.reduceAdd,Nat.reduceSub,Array.replicate_succ,
     Array.replicate_zero,List.push_toArray,List.append_toArray,List.nil_append,List.cons_append]
  go_wp2_with fail
  go_region_law_o (refine mA rfl _ _ 24 24 rfl (.slice (some ⟨b,0,none⟩) i c) (.slice (some A) (n-j) (c-j)) (by simp [Act.eval,Act.put]) (by simp [Act.eval,Act.put]) (hr1 _) ?_)
  go_wp2_with (at_builtin;refine lI _ rfl _ 24 rfl _ rfl (hcle _) ?_)
  go_ret
  exact ⟨rfl,hfin⟩
theorem aBc (args:List (Bool×List D)):dO Try.prog 25 args [(false,[.edit (.del 40 3)])]:=by
 refine .inr (.inl ⟨_,rfl,⟨_,_,Try.func25,rfl,by decide +kernel⟩,?_⟩)
 intro base w v n cells i j hb hown hij hj h1c
 by_cases he:i=j
 ·subst he
  refine (same v n i base cells w hown hj).mono ?_
  rintro e w' ⟨rfl,rfl⟩
  refine ⟨v,rfl,?_,World.grownBy.refl _ _,.inl rfl⟩
  rw [List.take_append_drop,show i+(n-i)=n by omega]
  exact hown
 ·rcases hown.2 with ⟨_,h0⟩ | ⟨b,c,cur,rfl,_⟩
  ·omega
  refine (cut b n c i j base cells w (by omega) hj hown h1c).mono ?_
  rintro e w' ⟨rfl,q1,q2⟩
  exact ⟨_,rfl,q1,q2,.inl rfl⟩
end L25
end Go.Proofs.Ytblghjofnielnaa.gen
