/-
  Helper text. No conditions.
-/
import Derived.Test.YtnhpbpnhmapeeaaGreatClosePagePk
namespace Go.Proofs.YtnhpbpnhmapeeaaGreat.gen
open Go Go.Sh
set_option linter.unusedVariables false
set_option linter.unusedSimpArgs false
theorem aHm {α:Type} {f:α→Nat} : ∀(n:Nat) (l:List α),aC f (l.drop n)≤aC f l
 | 0,l=>by simp
 | n+1,[]=>by simp
 | n+1,x::l=>by have:=aHm (f:=f) n l;simp only [List.drop_succ_cons,aC];omega
theorem aMI {α:Type} {f:α→Nat} (k:Nat) (l:List α):aC f (l.take k++l.drop (k+1))≤aC f l:=by
 have h1:=aGU (f:=f) (l.take k) (l.drop (k+1))
 have h2:=aGU (f:=f) (l.take k) (l.drop k)
 rw [List.take_append_drop] at h2
 have h3:=aHm (f:=f) 1 (l.drop k)
 rw [List.drop_drop] at h3
 omega
theorem aJk {α:Type} {l:List α} {k:Nat} (h:k≤l.length):aDo l (k:Int)=some (l.drop k):=by
 unfold aDo
 rw [if_pos ⟨by omega,by simpa using h⟩]
 simp
theorem aCv {α:Type} {f:α→Nat} (g:α→Bool) : ∀xs:List α,aC f (xs.filter g)≤aC f xs
 | []=>Nat.le_refl _
 | x::xs=>by
  have:=aCv g xs (f:=f)
  by_cases h:g x=true
  ·rw [List.filter_cons_of_pos h];simp only [aC];omega
  ·rw [List.filter_cons_of_neg h];simp only [aC];omega
theorem aIX {α:Type} {xs:List α} {q:α→Bool} {L:Nat→Int→Int→List α→Option (List α)}
  (h1 : ∀n (i j:Nat) (r:List α) (hj:j<r.length) (hi:i<r.length),r.length=xs.length→r[j]∈xs→L (n+1) (i:Int) (j:Int) r=if q r[j]=true then L n (i:Int) ((j+1:Nat):Int) r else L n ((i+1:Nat):Int) ((j+1:Nat):Int) (r.set i r[j]))
  (h2 : ∀n (i:Nat) (r:List α),i≤r.length→L (n+1) (i:Int) (r.length:Int) r=some (r.take i)) :
  ∀(n i j:Nat) (r:List α),xs.length-j<n→j≤xs.length→i≤j→r.length=xs.length→r.take i=(xs.take j).filter (fun x => !q x)→r.drop j=xs.drop j→L n (i:Int) (j:Int) r=some (xs.filter fun x => !q x)
 | 0,i,j,r,hn,_,_,_,_,_=>by omega
 | n+1,i,j,r,hn,hj,hi,hr,ht,hd=>by
  rcases Nat.lt_or_ge j xs.length with h | h
  ·have hjr:j<r.length:=by omega
   have e0:r[j]=xs[j]:=by
    have:=congrArg (fun l=>l[0]?) hd
    simp only [List.getElem?_drop,Nat.add_zero,List.getElem?_eq_getElem hjr,List.getElem?_eq_getElem h,Option.some.injEq] at this
    exact this
   have hd1:r.drop (j+1)=xs.drop (j+1):=by
    have:=congrArg (List.drop 1) hd
    simpa only [List.drop_drop] using this
   have htk:xs.take (j+1)=xs.take j++[xs[j]]:=(List.take_append_getElem h).symm
   rw [h1 n i j r hjr (by omega) hr (by rw [e0];exact List.getElem_mem h)]
   cases hq:q r[j] with
   | true =>
    rw [if_pos rfl]
    refine aIX h1 h2 n i (j+1) r (by omega) h (by omega) hr ?_ hd1
    rw [ht,htk,List.filter_append,←e0]
    simp [hq]
   | false =>
    rw [if_neg (by simp)]
    refine aIX h1 h2 n (i+1) (j+1) (r.set i r[j]) (by omega) h (by omega) (by simpa using hr) ?_ ?_
    ·rw [htk,List.filter_append,←ht,←e0]
     have hl:i<(r.set i r[j]).length:=by rw [List.length_set];omega
     rw [←List.take_append_getElem hl,List.getElem_set_self,List.take_set_of_le (Nat.le_refl i)]
     simp [hq]
    ·rw [List.drop_set_of_lt (by omega)]
     exact hd1
  ·have e:j=r.length:=by omega
   subst e
   rw [h2 n i r hi,ht,List.take_of_length_le (by omega)]
theorem aFG {p:M.bF→Option Bool} {q:M.bF→Bool} {xs:List M.bF} (hx:xs.length≤maxLen) (hp : ∀x∈xs,p x=some (q x)):iL xs p=some (xs.filter fun x => !q x):=by
 have hm:=le_max hx
 unfold iL
 rw [aF0 hx hp,Option.bind_some]
 unfold aBj
 cases hf:xs.findIdx? q with
 | none =>
  rw [if_pos (by simp)]
  rw [List.findIdx?_eq_none_iff] at hf
  rw [List.filter_eq_self.2 (fun x hx=>by simp [hf x hx])]
 | some k =>
  obtain ⟨hk,hqk,hlt⟩:=List.findIdx?_eq_some_iff_getElem.1 hf
  have hne:((k:Int) == -1)=false:=beq_eq_false_iff_ne.2 (by omega)
  simp only [hne,Bool.false_eq_true,if_false]
  rw [bB (by omega)]
  refine aIX (xs:=xs) (q:=q) (L:=bN p) (fun n i j r hj hi hrl hmem => ?_) (fun n i r hi => ?_) fuel k (k+1) xs (by unfold fuel;omega) hk (by omega) rfl ?_ rfl
  ·simp only [bN]
   rw [if_pos (aZ hj),aO hj,Option.bind_some,hp _ hmem,Option.bind_some,aO hi,Option.bind_some]
   rw [bB (n:=i) (by omega),bB (n:=j) (by omega),Int.toNat_natCast]
   cases q r[j]<;>rfl
  ·simp only [bN]
   rw [if_neg (by rw [aP];simp),aJk hi,Option.bind_some,Int.toNat_natCast]
  ·rw [←List.take_append_getElem hk,List.filter_append]
   have:(xs.take k).filter (fun x => !q x)=xs.take k:=List.filter_eq_self.2 (fun x hx=>by
    obtain ⟨j,hj,rfl⟩:=List.mem_iff_getElem.1 hx
    rw [List.length_take] at hj
    rw [List.getElem_take]
    have:=hlt j (by omega)
    simpa using this)
   rw [this]
   simp [hqk]
theorem aEv {p:M.bU→Option Bool} {q:M.bU→Bool} {xs:List M.bU} (hx:xs.length≤maxLen) (hp : ∀x∈xs,p x=some (q x)):iI xs p=some (xs.filter fun x => !q x):=by
 have hm:=le_max hx
 unfold iI
 rw [aF5 hx hp,Option.bind_some]
 unfold aBj
 cases hf:xs.findIdx? q with
 | none =>
  rw [if_pos (by simp)]
  rw [List.findIdx?_eq_none_iff] at hf
  rw [List.filter_eq_self.2 (fun x hx=>by simp [hf x hx])]
 | some k =>
  obtain ⟨hk,hqk,hlt⟩:=List.findIdx?_eq_some_iff_getElem.1 hf
  have hne:((k:Int) == -1)=false:=beq_eq_false_iff_ne.2 (by omega)
  simp only [hne,Bool.false_eq_true,if_false]
  rw [bB (by omega)]
  refine aIX (xs:=xs) (q:=q) (L:=bO p) (fun n i j r hj hi hrl hmem => ?_) (fun n i r hi => ?_) fuel k (k+1) xs (by unfold fuel;omega) hk (by omega) rfl ?_ rfl
  ·simp only [bO]
   rw [if_pos (aZ hj),aO hj,Option.bind_some,hp _ hmem,Option.bind_some,aO hi,Option.bind_some]
   rw [bB (n:=i) (by omega),bB (n:=j) (by omega),Int.toNat_natCast]
   cases q r[j]<;>rfl
  ·simp only [bO]
   rw [if_neg (by rw [aP];simp),aJk hi,Option.bind_some,Int.toNat_natCast]
  ·rw [←List.take_append_getElem hk,List.filter_append]
   have:(xs.take k).filter (fun x => !q x)=xs.take k:=List.filter_eq_self.2 (fun x hx=>by
    obtain ⟨j,hj,rfl⟩:=List.mem_iff_getElem.1 hx
    rw [List.length_take] at hj
    rw [List.getElem_take]
    have:=hlt j (by omega)
    simpa using this)
   rw [this]
   simp [hqk]
theorem aG0 {α:Type} {f:α→Nat} {x:α} : ∀ {l:List α} {i:Nat} (h:i<l.length),f x=f l[i]→aC f (l.set i x)=aC f l
 | [],i,h,_=>by simp at h
 | y::l,0,h,e=>by simp only [List.set_cons_zero,aC];simp only [List.getElem_cons_zero] at e;omega
 | y::l,i+1,h,e=>by
  have:=aG0 (f:=f) (x:=x) (l:=l) (i:=i) (by simpa using h) (by simpa using e)
  simp only [List.set_cons_succ,aC]
  omega
def nGr (l:List M.bF) (k:Nat):List M.bF:=match l[k]? with
 | some x=>if x.Held=true then l else if aNm (l.take k) x=true then l.set k (⟨x.Name,x.bG,x.Shared,true⟩:M.bF) else l
 | none=>l
theorem aKH {l:List M.bF} {k:Nat} (h:k<l.length):nGr l k=if l[k].Held=true then l else if aNm (l.take k) l[k]=true then l.set k (⟨l[k].Name,l[k].bG,l[k].Shared,true⟩:M.bF) else l:=by
 unfold nGr
 rw [List.getElem?_eq_getElem h]
theorem aMG (l:List M.bF) (k:Nat):(nGr l k).length=l.length:=by
 unfold nGr
 split
 ·split
  ·rfl
  ·split<;>simp
 ·rfl
theorem aNr {l:List M.bF} {k:Nat} (h : ∀y∈l,M.bF.ok y) : ∀y∈nGr l k,M.bF.ok y:=by
 rcases Nat.lt_or_ge k l.length with hk | hk
 ·rw [aKH hk]
  split
  ·exact h
  ·split
   ·intro y hy
    rcases List.mem_or_eq_of_mem_set hy with hy | rfl
    ·exact h y hy
    ·have:=h _ (List.getElem_mem hk)
     exact ⟨this.Name,this.bG⟩
   ·exact h
 ·unfold nGr
  rw [List.getElem?_eq_none hk]
  exact h
theorem aPS (l:List M.bF) (k:Nat):aC M.bF.sz (nGr l k)=aC M.bF.sz l:=by
 rcases Nat.lt_or_ge k l.length with hk | hk
 ·rw [aKH hk]
  split
  ·rfl
  ·split
   ·exact aG0 hk rfl
   ·rfl
 ·unfold nGr
  rw [List.getElem?_eq_none hk]
def aDM (l:List M.bF):List M.bF:=(List.range l.length).foldl nGr l
theorem aHy {l:List M.bF} (h : ∀y∈l,M.bF.ok y):(aDM l).length=l.length∧(∀y∈aDM l,M.bF.ok y)∧aC M.bF.sz (aDM l)=aC M.bF.sz l:=by
 unfold aDM
 have key : ∀(ks:List Nat) (r:List M.bF),r.length=l.length→(∀y∈r,M.bF.ok y)→aC M.bF.sz r=aC M.bF.sz l→(ks.foldl nGr r).length=l.length∧(∀y∈ks.foldl nGr r,M.bF.ok y)∧aC M.bF.sz (ks.foldl nGr r)=aC M.bF.sz l:=by
  intro ks
  induction ks with
  | nil=>intro r h1 h2 h3;exact ⟨h1,h2,h3⟩
  | cons k ks ih=>intro r h1 h2 h3;exact ih _ ((aMG r k).trans h1) (aNr h2) ((aPS r k).trans h3)
 exact key _ l rfl h rfl
theorem aIv {N:Nat} {L:Nat→Int→List M.bF→Option M.aE} (hN:N≤maxLen) (h1 : ∀n (r:List M.bF) (k:Nat),k<N→r.length=N→L (n+1) (k:Int) r=L n ((k+1:Nat):Int) (nGr r k)) (h2 : ∀n (r:List M.bF),r.length=N→L (n+1) (N:Int) r=some (⟨r⟩:M.aE)) (l:List M.bF) (h0:l.length=N) :
  L fuel 0 l=some (⟨aDM l⟩:M.aE):=by
 have hx:(List.range N).length=N:=List.length_range
 have:=aKL (xs:=List.range N) (L:=fun n k r=>L n k r) (step:=nGr) (I:=fun k r=>r.length=N) (E:=fun r=>some (⟨r⟩:M.aE)) (by rw [hx];exact hN) (fun s k hk hi=>(aMG s _).trans hi) (fun n s k hk hi=>by
  rw [List.getElem_range]
  exact h1 n s k (by rw [hx] at hk;exact hk) hi) (fun n s hi=>by rw [hx];exact h2 n s hi) l h0
 unfold aDM
 rw [h0]
 exact this.1
theorem aFT {t:M.aE} (hl:t.Locks.length≤1048576) (hz:M.aE.sz t≤1073741824):mH t=some (⟨aDM t.Locks⟩:M.aE):=by
 unfold mH
 rw [aDQ t hz,Option.bind_some]
 refine aIv (N:=t.Locks.length) (L:=eK) (by unfold maxLen;omega) (fun n r k hk hr => ?_) (fun n r hr => ?_) t.Locks rfl
 ·have hk':k<r.length:=by omega
  simp only [eK]
  rw [if_pos (aZ hk'),aO hk',Option.bind_some,bB (by omega),aLW (by unfold maxLen;omega) (by omega),Option.bind_some,Int.toNat_natCast,aKH hk']
  cases r[k].Held
  ·cases aNm (r.take k) r[k]<;>rfl
  ·rfl
 ·simp only [eK]
  rw [←hr,if_neg (by rw [aP];simp)]
theorem aFL {t:M.aE} (hl:t.Locks.length≤1048576) (hz:M.aE.sz t≤1073741824):mF t=some (⟨aDM t.Locks⟩:M.aE):=by
 unfold mF
 rw [aBO t hz,Option.bind_some]
 refine aIv (N:=t.Locks.length) (L:=fM t) (by unfold maxLen;omega) (fun n r k hk hr => ?_) (fun n r hr => ?_) t.Locks rfl
 ·have hk':k<r.length:=by omega
  have e:=aHN (t:=(⟨r⟩:M.aE)) (i:=k) (by show r.length≤maxLen;unfold maxLen;omega) hk'
  simp only at e
  simp only [fM]
  rw [if_pos (aZ hk),aO hk',Option.bind_some,bB (by omega),e,Option.bind_some,Int.toNat_natCast,aKH hk']
  cases hh:r[k].Held with
  | true=>rfl
  | false =>
   cases aNm (r.take k) r[k] with
   | true=>rfl
   | false =>
    have:(⟨r[k].Name,r[k].bG,r[k].Shared,false⟩:M.bF)=r[k]:=by rw [←hh]
    simp [this]
 ·simp only [fM]
  rw [if_neg (by rw [aP];simp)]
def aJJ (t:M.aE) (p:Int):M.aE:=(⟨aDM (t.Locks.filter fun x=>x.bG != p)⟩:M.aE)
theorem aHk {t:M.aE} (p:Int) (ht:t.ok) : ∀y∈t.Locks.filter (fun x=>x.bG != p),M.bF.ok y:=fun y hy=>ht.Locks.2 y (List.mem_filter.1 hy).1
theorem aM6 {t:M.aE} {p:Int} (ht:t.ok):(aJJ t p).ok:=by
 obtain ⟨h1,h2,_⟩:=aHy (aHk p ht)
 exact ⟨⟨by show (aDM _).length≤maxLen;rw [h1];exact Nat.le_trans (List.length_filter_le _ _) ht.Locks.1,h2⟩⟩
theorem aNL {t:M.aE} {p:Int} (ht:t.ok):M.aE.sz (aJJ t p)≤M.aE.sz t:=by
 obtain ⟨h1,_,h3⟩:=aHy (aHk p ht)
 have h4:=List.length_filter_le (fun x:M.bF=>x.bG != p) t.Locks
 have h5:=aCv (f:=M.bF.sz) (fun x:M.bF=>x.bG != p) t.Locks
 simp only [aJJ,M.aE.sz]
 omega
theorem aLd {t:M.aE} (p:Int):M.aE.sz (⟨t.Locks.filter fun x=>x.bG != p⟩:M.aE)≤M.aE.sz t:=by
 have h4:=List.length_filter_le (fun x:M.bF=>x.bG != p) t.Locks
 have h5:=aCv (f:=M.bF.sz) (fun x:M.bF=>x.bG != p) t.Locks
 simp only [M.aE.sz]
 omega
theorem aDb {t:M.aE} {p:Int} (hl:t.Locks.length≤1048576) (hz:M.aE.sz t≤1073741824):mU t p=some (aJJ t p):=by
 have h4:=List.length_filter_le (fun x:M.bF=>x.bG != p) t.Locks
 have h5:=aLd (t:=t) p
 unfold mU aJJ
 rw [aHB (xs:=t.Locks) (L:=eA t p) (b:=32) (f:=fun x:M.bF=>x.bG != p) (E:=fun r=>(mH (⟨r⟩:M.aE)).bind fun x=>some x) (by unfold maxLen;omega) (by omega) (fun n r k hk => ?_) (fun n r => ?_)]
 ·rw [aFT (by simpa using Nat.le_trans h4 hl) (by omega),Option.bind_some]
 ·simp only [eA]
  rw [if_pos (aZ hk),aO hk,Option.bind_some,bB (by omega)]
 ·simp only [eA]
  rw [if_neg (by rw [aP];simp)]
theorem aDt {t:M.aE} {p:Int} (hl:t.Locks.length≤1048576) (hz:M.aE.sz t≤1073741824):mN t p=some (aJJ t p):=by
 have h4:=List.length_filter_le (fun x:M.bF=>x.bG != p) t.Locks
 have h5:=aLd (t:=t) p
 unfold mN aJJ
 rw [aBO t hz,Option.bind_some,aFG (q:=fun x:M.bF=>x.bG==p) (by unfold maxLen;omega) (fun x _=>by simp only [jZ]),Option.bind_some]
 show (mF (⟨t.Locks.filter fun x=>x.bG != p⟩:M.aE)).bind _=_
 rw [aFL (by simpa using Nat.le_trans h4 hl) (by omega),Option.bind_some]
def aFc (x:M.Channel) (p:Int):M.Channel:=(⟨x.Mails.filter fun m=>m.To != p⟩:M.Channel)
theorem aLg {x:M.Channel} {p:Int} (hx:x.ok):(aFc x p).ok:=⟨⟨Nat.le_trans (List.length_filter_le _ _) hx.Mails.1,fun y hy=>hx.Mails.2 y (List.mem_filter.1 hy).1⟩⟩
theorem aMY (x:M.Channel) (p:Int):M.Channel.sz (aFc x p)≤M.Channel.sz x:=by
 have h4:=List.length_filter_le (fun m:M.bU=>m.To != p) x.Mails
 simp only [aFc,M.Channel.sz]
 omega
theorem aF9 {x:M.Channel} {p:Int} (hl:x.Mails.length≤1048576):tS x p=some (aFc x p):=by
 unfold tS aFc
 refine aHB (xs:=x.Mails) (L:=gB x p) (b:=24) (f:=fun m:M.bU=>m.To != p) (E:=fun r=>some (⟨r⟩:M.Channel)) (by unfold maxLen;omega) (by omega) (fun n r k hk => ?_) (fun n r => ?_)
 ·simp only [gB]
  rw [if_pos (aZ hk),aO hk,Option.bind_some,bB (by omega)]
 ·simp only [gB]
  rw [if_neg (by rw [aP];simp)]
theorem aF1 {x:M.Channel} {p:Int} (hz:M.Channel.sz x≤1073741824):tI x p=some (aFc x p):=by
 unfold tI aFc
 rw [aBs x hz,Option.bind_some,aEv (q:=fun m:M.bU=>m.To==p) (by simp only [M.Channel.sz] at hz;unfold maxLen;omega) (fun m _=>by simp only [nS]),Option.bind_some]
 rfl
theorem aJr {w:M.World} {i:Int} (hw:w.ok) (hz:M.World.sz w≤1048576) : ∃R:M.World×Bool,sK w i=some R∧nH w i=some R∧R.1.ok∧M.World.sz R.1≤16777216:=by
 have hz':=hz
 simp only [M.World.sz] at hz'
 have hll:w.Locks.Locks.length≤M.aE.sz w.Locks:=by simp only [M.aE.sz];omega
 have hmm:w.Channel.Mails.length≤M.Channel.sz w.Channel:=by simp only [M.Channel.sz];omega
 unfold sK nH
 rw [aHR w (by omega),aF6 w (by omega),Option.bind_some,Option.bind_some,aFn hw,aFt hw,Option.bind_some,Option.bind_some,aHK hw hz,aHS hw hz,Option.bind_some,Option.bind_some]
 cases hn:aGs w with
 | false=>exact ⟨(w,false),by simp,by simp,hw,by show M.World.sz w≤_;omega⟩
 | true =>
  simp only [Bool.not_true,Bool.false_eq_true,if_false]
  by_cases h:aNE w i<0
  ·simp only [h,decide_true,if_true]
   exact ⟨(w,false),rfl,rfl,hw,by show M.World.sz w≤_;omega⟩
  ·obtain ⟨k,e,hk⟩:=aEH (show ¬aBj (fun p:M.bG=>p.Id==i) w.Pages<0 from h)
   simp only [h,decide_false,Bool.false_eq_true,if_false]
   rw [show aNE w i=(k:Int) from e,aGh (by omega),Option.bind_some,Option.bind_some,bB (by omega),aJk (by omega),Option.bind_some,Option.bind_some,Int.toNat_natCast,Int.toNat_natCast,aAs (by simp only [List.length_take,List.length_drop];omega),Option.bind_some,Option.bind_some,
    aDb (by omega) (by omega),aDt (by omega) (by omega),Option.bind_some,Option.bind_some,aF9 (by omega),aF1 (by omega)]
   simp only [Option.bind_some]
   have k1:=aM6 (p:=i) hw.Locks
   have k2:=aNL (p:=i) hw.Locks
   have k3:=aLg (p:=i) hw.Channel
   have k4:=aMY w.Channel i
   have k5:=aMI (f:=M.bG.sz) k w.Pages
   refine ⟨(⟨w.Now,w.Online,w.Device,w.aM,w.Pages.take k++w.Pages.drop (k+1),w.NextPage,aJJ w.Locks i,aFc w.Channel i,w.Sites,w.Servers⟩,true),rfl,rfl,⟨hw.Now,hw.Device,hw.aM,⟨?_,fun y hy => ?_⟩,hw.NextPage,k1,k3,hw.Sites,hw.Servers⟩,?_⟩
   ·show (w.Pages.take k++w.Pages.drop (k+1)).length≤maxLen
    have:=hw.Pages.1
    simp only [List.length_append,List.length_take,List.length_drop]
    omega
   ·have hy':y∈w.Pages.take k++w.Pages.drop (k+1):=hy
    rcases List.mem_append.1 hy' with h | h
    ·exact hw.Pages.2 y (List.mem_of_mem_take h)
    ·exact hw.Pages.2 y (List.mem_of_mem_drop h)
   ·simp only [M.World.sz,List.length_append,List.length_take,List.length_drop]
    omega
end Go.Proofs.YtnhpbpnhmapeeaaGreat.gen
