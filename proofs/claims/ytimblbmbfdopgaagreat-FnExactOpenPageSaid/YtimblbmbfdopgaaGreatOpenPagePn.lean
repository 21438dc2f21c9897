/-
  Helper text. No conditions.
-/
import Derived.Test.YtimblbmbfdopgaaGreatOpenPagePm2
set_option linter.unusedVariables false
set_option linter.unusedSimpArgs false
namespace Go.Proofs.YtimblbmbfdopgaaGreat.gen
open Go Go.Sh
open Go.IntKind (i64)
theorem aSK {α β:Type} (c:Bool) (x y:Option α) (f:α→Option β):(if c=true then x else y).bind f=if c=true then x.bind f else y.bind f:=by split<;>rfl
theorem aWQ (n:Int):inR n 0 0=(n==0):=by
 unfold inR
 rw [Bool.eq_iff_iff]
 simp only [qM,qL,beq_iff_eq]
 omega
theorem aNI {k:Int} (h:inR k 1 9=true):k=1∨k=2∨k=3∨k=4∨k=5∨k=6∨k=7∨k=8∨k=9:=by
 unfold inR at h
 simp only [qM,qL] at h
 omega
theorem aJZ {k r n m:Int} {t:ByteArray} (ht:t.size≤maxLen) : ∃b,xQ (⟨k,r,n,t⟩:M.Instr) m=some b∧rQ (⟨k,r,n,t⟩:M.Instr) m=some b:=by
 unfold xQ rQ
 simp only [cZ,bN,dP ht,dA ht,qA,aWQ]
 generalize inR r 0 3=a1
 generalize (r != 0)=a2
 generalize rR t=a3
 generalize (t.toList==(⟨#[]⟩:ByteArray).toList)=a4
 cases hk:inR k 1 9 with
 | false=>exact ⟨false,by simp only [aSK,qA,qC,if_true,ite_self],by simp only [aSK,qA,qC,if_true,ite_self]⟩
 | true =>
  rcases aNI hk with rfl | rfl | rfl | rfl | rfl | rfl | rfl | rfl | rfl
  all_goals clear hk
  all_goals simp +decide only [qA,aSK,if_true,if_false,qB,qC,aWQ,show inR 1 6 8=false from rfl,show inR 2 6 8=false from rfl,show inR 3 6 8=false from rfl,show inR 4 6 8=false from rfl,show inR 6 6 8=true from rfl,show inR 7 6 8=true from rfl,show inR 8 6 8=true from rfl,show inR 9 6 8=false from rfl]
  all_goals (try generalize inR n 0 1000=b1)
  all_goals (try generalize inR n 0 3=b2)
  all_goals (try generalize inR n 0 m=b3)
  all_goals (try generalize inR n 0 100=b4)
  all_goals (try generalize (n==0)=b5)
  all_goals (try clear a1)
  all_goals (try clear a2)
  all_goals (try clear a3)
  all_goals (try clear a4)
  all_goals (try clear b1)
  all_goals (try clear b2)
  all_goals (try clear b3)
  all_goals (try clear b4)
  all_goals (try clear b5)
  all_goals (try cases a1)
  all_goals (try cases a2)
  all_goals (try cases a3)
  all_goals (try cases a4)
  all_goals (try cases b1)
  all_goals (try cases b2)
  all_goals (try cases b3)
  all_goals (try cases b4)
  all_goals (try cases b5)
  all_goals first | exact ⟨true,rfl,rfl⟩ | exact ⟨false,rfl,rfl⟩
def aLO (x:M.Instr) (m:Int):Bool:=(rQ x m).getD false
theorem aIw {x:M.Instr} {m:Int} (hx:x.ok):xQ x m=some (aLO x m):=by
 obtain ⟨k,r,n,t⟩:=x
 obtain ⟨b,e1,e2⟩:=aJZ (k:=k) (r:=r) (n:=n) (m:=m) hx.Text
 unfold aLO
 rw [e1,e2]
 rfl
theorem aI4 {x:M.Instr} {m:Int} (hx:x.ok):rQ x m=some (aLO x m):=by
 obtain ⟨k,r,n,t⟩:=x
 obtain ⟨b,e1,e2⟩:=aJZ (k:=k) (r:=r) (n:=n) (m:=m) hx.Text
 unfold aLO
 rw [e2]
 rfl
def aGI (l:List M.Instr) (k:Nat):Bool:=(l[k]?).any fun x=>aLO x (List.length l:Int)
def aFh (l:List M.Instr):Bool:=(List.range l.length).all (aGI l)&&decide ((List.length l:Int)≤16)
def aBj (l:List M.Instr):Prop:=l.length≤maxLen ∧ ∀x∈l,M.Instr.ok x
theorem aIj {l:List M.Instr} (hl:aBj l):zY l=some (aFh l):=by
 have hm:=le_max hl.1
 unfold zY aFh
 rw [jY (L:=jQ l) (g:=aGI l) (F:=some false) (E:=some (decide ((List.length l:Int)≤16))) hl.1 (fun n k hk => ?_) (fun n => ?_),bL]
 ·simp only [jQ]
  rw [if_pos (bB hk),aN hk,qA,bF (by omega),aIw (hl.2 _ (qG hk)),qA]
  unfold aGI
  rw [qF hk,Option.any_some]
  simp only [aAL]
 ·simp only [jQ]
  rw [if_neg (by rw [aP];simp)]
theorem aH8 {l:List M.Instr} (hl:aBj l):zJ l=some (aFh l):=by
 have hm:=le_max hl.1
 unfold zJ aFh
 rw [jY (L:=jR l) (g:=aGI l) (F:=some false) (E:=some (decide ((List.length l:Int)≤16))) hl.1 (fun n k hk => ?_) (fun n => ?_),bL]
 ·simp only [jR]
  rw [if_pos (bB hk),aN hk,qA,bF (by omega),aI4 (hl.2 _ (qG hk)),qA]
  unfold aGI
  rw [qF hk,Option.any_some]
  simp only [aAL]
 ·simp only [jR]
  rw [if_neg (by rw [aP];simp)]
def aJy (l:List M.Instr):M.Machine:=if aFh l=true then (⟨l,0,[0,0,0,0],0,false,false⟩:M.Machine) else (⟨([]:List M.Instr),0,[0,0,0,0],0,true,false⟩:M.Machine)
theorem aN6:okI [0,0,0,0]:=⟨by unfold maxLen;simp,fun x hx=>by
 simp only [List.mem_cons,List.not_mem_nil,or_false,or_self] at hx
 subst hx
 exact aFg⟩
theorem aPQ {l:List M.Instr} (hl:aBj l):(aJy l).ok:=by
 unfold aJy
 split
 ·exact ⟨hl,aFg,aN6,aFg⟩
 ·exact ⟨⟨by simp,by simp⟩,aFg,aN6,aFg⟩
theorem aPX (l:List M.Instr):M.Machine.sz (aJy l)≤l.length+aF M.Instr.sz l+4:=by
 unfold aJy
 split
 ·simp only [M.Machine.sz,qJ,qK];omega
 ·simp only [M.Machine.sz,aF,qJ,qK];omega
theorem aHA {l:List M.Instr} (hl:aBj l) (hz:l.length≤1073741824):tW l=some (aJy l):=by
 unfold tW aJy
 rw [aIj hl,qA,aET l hz]
 cases aFh l<;>rfl
theorem aGk {l:List M.Instr} (hl:aBj l) (hz:l.length≤1073741824):sX l=some (aJy l):=by
 unfold sX aJy
 rw [aH8 hl,qA,aHI hz (by omega)]
 cases aFh l<;>rfl
def aCl (i:Int) (a b:ByteArray) (v:Int) (l:List M.Instr):M.bH:=(⟨i,a,b,v,([]:List M.aK),aJy l⟩:M.bH)
def aGF:M.bH:=(⟨0,(⟨#[]⟩:ByteArray),(⟨#[]⟩:ByteArray),0,([]:List M.aK),(⟨([]:List M.Instr),0,([]:List Int),0,false,false⟩:M.Machine)⟩:M.bH)
def aCf (i:Int) (a b:ByteArray) (v:Int) (l:List M.Instr):M.bH×Bool:=if aDZ (aCl i a b v l)=true then (aCl i a b v l,true) else (aGF,false)
theorem aHG {i v:Int} {a b:ByteArray} {l:List M.Instr} (hi:inI i) (ha:a.size≤maxLen) (hb:b.size≤maxLen) (hv:inI v) (hl:aBj l):(aCl i a b v l).ok:=⟨hi,ha,hb,hv,⟨by simp [aCl],by simp [aCl]⟩,aPQ hl⟩
theorem aNd:aGF.ok:=⟨aFg,sz0,sz0,aFg,⟨by simp [aGF],by simp [aGF]⟩,⟨⟨by simp [aGF],by simp [aGF]⟩,aFg,⟨by simp [aGF],by simp [aGF]⟩,aFg⟩⟩
theorem aOi {i v:Int} {a b:ByteArray} {l:List M.Instr} (hi:inI i) (ha:a.size≤maxLen) (hb:b.size≤maxLen) (hv:inI v) (hl:aBj l):(aCf i a b v l).1.ok:=by
 unfold aCf
 split
 ·exact aHG hi ha hb hv hl
 ·exact aNd
theorem aNc (i:Int) (a b:ByteArray) (v:Int) (l:List M.Instr):M.bH.sz (aCf i a b v l).1≤a.size+b.size+(l.length+aF M.Instr.sz l)+4∧(aCf i a b v l).1.aK.length=0:=by
 have h:=aPX l
 unfold aCf
 split
 ·refine ⟨?_,rfl⟩
  simp only [aCl,M.bH.sz,aF,qK]
  omega
 ·refine ⟨?_,rfl⟩
  have h0:(⟨#[]⟩:ByteArray).size=0:=rfl
  simp only [aGF,M.bH.sz,M.Machine.sz,aF,qK,h0]
  omega
theorem aHk {i v:Int} {a b:ByteArray} {l:List M.Instr} (hi:inI i) (ha:a.size≤maxLen) (hb:b.size≤maxLen) (hv:inI v) (hl:aBj l) (hz:l.length≤1073741824):mH i a b v l=some (aCf i a b v l):=by
 unfold mH aCf
 rw [aHA hl hz,qA]
 show ((mV (aCl i a b v l)).bind _)=_
 rw [aCu (aHG hi ha hb hv hl),qA]
 cases aDZ (aCl i a b v l)<;>rfl
theorem aHu {i v:Int} {a b:ByteArray} {l:List M.Instr} (hi:inI i) (ha:a.size≤maxLen) (hb:b.size≤maxLen) (hv:inI v) (hl:aBj l) (hz:l.length≤1073741824):mD i a b v l=some (aCf i a b v l):=by
 unfold mD aCf
 rw [aGk hl hz,qA]
 show ((mU (aCl i a b v l)).bind _)=_
 rw [aCx (aHG hi ha hb hv hl),qA]
 cases aDZ (aCl i a b v l)<;>rfl
def aKS (r:M.Registration) (s:M.Site) (o:Bool):Int:=if (r.Active != 0)=true then r.Active else if o=true then s.Version else 0
theorem aGo (r:M.Registration) (s:M.Site) (o:Bool):kN r s o=some (aKS r s o):=by
 unfold kN aKS
 cases (r.Active != 0)<;>cases o<;>rfl
theorem aHH (r:M.Registration) (s:M.Site) (o:Bool):kW r s o=some (aKS r s o):=by
 unfold kW aKS
 cases (r.Active != 0)<;>cases o<;>rfl
theorem aQq {r:M.Registration} {s:M.Site} {o:Bool} (hr:r.ok) (hs:s.ok):inI (aKS r s o):=by
 unfold aKS
 split
 ·exact hr.Active
 ·split
  ·exact hs.Version
  ·exact aFg
theorem aQF {p:M.bH} (h:aDZ p=true):(p.Version==0)=false:=by
 unfold aDZ inR at h
 simp only [qM,qL] at h
 have:=h.2.2.2.2.1.1
 rw [beq_eq_false_iff_ne]
 omega
theorem aJf {α:Type} {f:α→Bool} {l:List α} {k:Nat} (h:aAP f l=(k:Int)) : ∃hk:k<l.length,f l[k]=true:=by
 unfold aAP at h
 cases e:l.findIdx? f with
 | none=>rw [e] at h;simp only at h;omega
 | some i =>
  rw [e] at h
  simp only at h
  have:i=k:=by omega
  subst this
  obtain ⟨h1,h2,_⟩:=List.findIdx?_eq_some_iff_getElem.1 e
  exact ⟨h1,h2⟩
theorem aM9 {α:Type} {f:α→Bool} {l:List α} (h:aAP f l<0) : ∀x∈l,f x=false:=by
 have h2:=aGC f l
 rw [decide_eq_false (by omega)] at h2
 intro x hx
 cases hf:f x with
 | false=>rfl
 | true =>
  have:l.any f=true:=List.any_eq_true.2 ⟨x,hx,hf⟩
  rw [←h2] at this
  cases this
theorem aPT {α:Type} {f:α→Bool} {l:List α} {k:Nat} {x:α} (e:aAP f l=(k:Int)) (hx:f x=true):aAP f (l.set k x)=(k:Int)∧(l.set k x)[k]? = some x:=by
 obtain ⟨hk,hf⟩:=aJf e
 have h1:=aDw hk hf
 have hk2:k<(l.set k x).length:=by rw [qN];exact hk
 have hg:(l.set k x)[k]? = some x:=by rw [qF hk2,List.getElem_set_self]
 have h2:=aDw (f:=f) (xs:=l.set k x) hk2 (by rw [List.getElem_set_self];exact hx)
 rw [e,beq_self_eq_true] at h1
 refine ⟨eq_of_beq (h2.trans ?_),hg⟩
 rw [qP]
 intro j hj
 have h3:=(List.all_eq_true.1 h1.symm) j hj
 have hne:k≠j:=by have:=List.mem_range.1 hj;omega
 rw [List.getElem?_set_ne hne]
 exact h3
theorem aP0 {α:Type} {f:α→Bool} {l:List α} {p:Nat} {x:α} (hp:p≤l.length) (h : ∀y∈l,f y=false) (hx:f x=true):aAP f (l.take p++([x]++l.drop p))=(p:Int)∧(l.take p++([x]++l.drop p))[p]? = some x:=by
 have ht:(l.take p).length=p:=by rw [qS];omega
 have hl:p<(l.take p++([x]++l.drop p)).length:=by simp only [qE,ht,qJ,qK];omega
 have hg:(l.take p++([x]++l.drop p))[p]? = some x:=by
  rw [List.getElem?_append_right (by omega),ht,Nat.sub_self];rfl
 have hg2:(l.take p++([x]++l.drop p))[p]=x:=by
  rw [qF hl] at hg;exact Option.some.inj hg
 refine ⟨eq_of_beq ((aDw hl (by rw [hg2];exact hx)).trans ?_),hg⟩
 rw [qP]
 intro j hj
 have hj':=List.mem_range.1 hj
 rw [List.getElem?_append_left (by omega)]
 cases e:(l.take p)[j]? with
 | none=>rfl
 | some y =>
  rw [Option.any_some,h y (List.mem_of_mem_take (List.mem_of_getElem? e))]
  rfl
theorem aMj {s:M.aA} {b:M.aC} (hp:(aKU s b).2=true):(aKU s b).1=(⟨aCZ s b⟩:M.aA)∧kD (⟨aCZ s b⟩:M.aA)=true:=by
 unfold aKU aJr at hp ⊢
 by_cases h1:kD s=true
 ·by_cases h2:kD (⟨aCZ s b⟩:M.aA)=true
  ·rw [if_pos h1,if_pos h2]
   exact ⟨rfl,h2⟩
  ·rw [if_pos h1,if_neg h2] at hp
   cases hp
 ·rw [if_neg h1] at hp
  cases hp
theorem aMl (b:M.aC):nAt b.Site b.Top b=true:=by unfold nAt;simp
theorem aMR (s:M.aA) (b:M.aC) : ∃j:Nat,aAP (nAt b.Site b.Top) (aCZ s b)=(j:Int)∧(aCZ s b)[j]? = some b:=by
 unfold aCZ
 by_cases h:aAP (nAt b.Site b.Top) s.Buckets≥0
 ·rw [if_pos h]
  obtain ⟨k,e,hk⟩:=aBx (show ¬aAP (nAt b.Site b.Top) s.Buckets<0 by omega)
  rw [e,qH]
  exact ⟨k,aPT e (aMl b)⟩
 ·rw [if_neg h]
  exact ⟨aNX s b,aP0 (aKH s b) (aM9 (by omega)) (aMl b)⟩
theorem aRF {s:M.aA} (h:kD s=true) {x:M.aC} {j:Nat} (hx:s.Buckets[j]? = some x):aBK x=true:=by
 unfold kD at h
 rw [qM,qP] at h
 obtain ⟨hj,_⟩:=List.getElem?_eq_some_iff.1 hx
 have:=h.1 j (List.mem_range.2 hj)
 unfold aDd at this
 rw [hx,Option.any_some,qM] at this
 exact this.1
theorem aQN {s:M.aA} {b:M.aC} (hz:M.aA.sz s≤1048576) (zb:M.Database.sz b.bC.Base≤1048576) : ∀x∈(aKU s b).1.Buckets,M.Database.sz x.bC.Base≤1048576:=by
 have h0 : ∀x∈s.Buckets,M.Database.sz x.bC.Base≤1048576:=fun x hx=>aDn (aNv hz x hx)
 unfold aKU aJr
 split
 ·split
  ·exact aIp hz zb
  ·exact h0
 ·exact h0
theorem aPR (p:M.bH) (f:ByteArray) (x:M.Response):(aIs p f x).1.Id=p.Id:=by
 unfold aIs
 split
 ·rfl
 ·split
  ·rfl
  ·split
   ·split<;>rfl
   ·rfl
theorem aOd {w:M.World} {B:M.aC} {p:M.bH} {f:ByteArray} {k:Nat} (hw:w.ok) (hB:B.ok) (hz:M.World.sz w≤1048576) (hk:k<w.Sites.length) (ek:aDY p.Site=(k:Int)) (hp:(aKU w.aA B).2=true) (e:nAt p.Site p.Top=nAt B.Site B.Top) :
  jZ (⟨w.Now,w.Online,w.Device,(aKU w.aA B).1,w.Pages,w.NextPage,w.Locks,w.Channel,w.Sites,w.Servers⟩:M.World) p f=jP B.Caches w.Sites[k] p.Version f w.Online:=by
 have ho:=aNf hw.aA hB (aDh hz)
 obtain ⟨j,e1,e2⟩:=aMR w.aA B
 rw [(aMj hp).1] at ho ⊢
 unfold jZ
 rw [aAA ho,qA,aCO,qA,e,ek]
 show (if decide (aAP (nAt B.Site B.Top) (aCZ w.aA B)<0)=true then _ else _)=_
 rw [e1,if_neg (by simp),if_neg (by simp)]
 show ((idx (aCZ w.aA B) (j:Int)).bind _)=_
 rw [aBT e2,qA,aN hk,qA]
 cases jP B.Caches w.Sites[k] p.Version f w.Online<;>rfl
def oS (w:M.World) (B:M.aC) (k:Nat) (a b:ByteArray) (l:List M.Instr):Option (M.World×Int×Bool):=(mB w.aA B).bind fun x26=>((idx w.Sites (k:Int)).bind fun x57=>((kN B.Registration x57 w.Online).bind fun x62=>((mH w.NextPage a b x62 l).bind fun x64=>(if (!x26.2)=true then (some (w,0,false)) else (if (!x64.2)=true then (some (w,0,false)) else ((jZ (⟨w.Now,w.Online,w.Device,x26.1,w.Pages,w.NextPage,w.Locks,w.Channel,w.Sites,w.Servers⟩:M.World) x64.1 (⟨#[105,110,100,101,120]⟩:ByteArray)).bind fun x72=>((nX x64.1 (⟨#[105,110,100,101,120]⟩:ByteArray) x72).bind fun x74=>((app 144 w.Pages ([x74.1])).bind fun x76=>(if (!x74.2)=true then (some (w,0,false)) else ((lA (⟨w.Now,w.Online,w.Device,x26.1,(w.Pages++[x74.1]),(i64.wrap (w.NextPage+1)),w.Locks,w.Channel,w.Sites,w.Servers⟩:M.World)).bind fun x100=>(if (!x100)=true then (some (w,0,false)) else (some ((⟨w.Now,w.Online,w.Device,x26.1,(w.Pages++[x74.1]),(i64.wrap (w.NextPage+1)),w.Locks,w.Channel,w.Sites,w.Servers⟩:M.World),x64.1.Id,true)))))))))))))
def oI (w:M.World) (B:M.aC) (a b:ByteArray) (l:List M.Instr):Option (M.World×Int×Bool):=(vA w a).bind fun x18=>((kW B.Registration x18 w.Online).bind fun x20=>((mD w.NextPage a b x20 l).bind fun x22=>((jS B.Caches x18 x20 (⟨#[105,110,100,101,120]⟩:ByteArray) w.Online).bind fun x24=>((oE x22.1 (⟨#[105,110,100,101,120]⟩:ByteArray) x24).bind fun x26=>(if (x20==0)=true then (some (w,0,false)) else (if (!x22.2)=true then (some (w,0,false)) else (if (!x26.2)=true then (some (w,0,false)) else ((mC w.aA B).bind fun x54=>((app 144 w.Pages ([x26.1])).bind fun x56=>(if (!x54.2)=true then (some (w,0,false)) else ((kY (⟨w.Now,w.Online,w.Device,x54.1,(w.Pages++[x26.1]),(i64.wrap (w.NextPage+1)),w.Locks,w.Channel,w.Sites,w.Servers⟩:M.World)).bind fun x77=>(if (!x77)=true then (some (w,0,false)) else (some ((⟨w.Now,w.Online,w.Device,x54.1,(w.Pages++[x26.1]),(i64.wrap (w.NextPage+1)),w.Locks,w.Channel,w.Sites,w.Servers⟩:M.World),x26.1.Id,true))))))))))))))
theorem aKe {w:M.World} {B:M.aC} {k:Nat} {a b:ByteArray} {l:List M.Instr} (hw:w.ok) (hz:M.World.sz w≤1048576) (ha:a.size≤1048576) (hb:b.size≤1048576) (hl:aBj l) (zl:l.length+aF M.Instr.sz l≤1048576) (ek:aDY a=(k:Int)) (hk:k<w.Sites.length)
  (hB:B.ok) (zB:M.aC.sz B≤4194304) (zD:M.Database.sz B.bC.Base≤1048576) (zC:M.aO.sz B.Caches≤1048576) (H:nAt a b=nAt B.Site B.Top∨aBK B=false) : ∃R:M.World×Int×Bool,oS w B k a b l=some R∧oI w B a b l=some R∧R.1.ok∧M.World.sz R.1≤16777216:=by
 have hz':=hz
 simp only [M.World.sz] at hz'
 have z5:(⟨#[105,110,100,101,120]⟩:ByteArray).size=5:=rfl
 have m5:(⟨#[105,110,100,101,120]⟩:ByteArray).size≤maxLen:=aKV _ (by omega)
 have z2:=cF (f:=M.Site.sz) (qG hk)
 have ht:=hw.Sites.2 _ (qG hk)
 have hpg:=hw.Pages.1
 have hv:=aQq (r:=B.Registration) (s:=w.Sites[k]) (o:=w.Online) hB.Registration ht
 have sO:vA w a=some w.Sites[k]:=by
  unfold vA
  rw [aAB,qA,ek,if_neg (by simp),if_neg (by simp;omega),aN hk]
  rfl
 obtain ⟨r,e1,e2,e3⟩:=aJ6 (c:=B.Caches) (s:=w.Sites[k]) (f:=(⟨#[105,110,100,101,120]⟩:ByteArray)) (v:=aKS B.Registration w.Sites[k] w.Online) (o:=w.Online) hB.Caches ht hv zC (by omega) (by omega)
 have pk:=aOi (i:=w.NextPage) (v:=aKS B.Registration w.Sites[k] w.Online) hw.NextPage (aKV _ ha) (aKV _ hb) hv hl
 have pz:=aNc w.NextPage a b (aKS B.Registration w.Sites[k] w.Online) l
 have lk:=aQD (f:=(⟨#[105,110,100,101,120]⟩:ByteArray)) (x:=r) pk (by omega) m5 e3.Version
 have lz:=aPu (aCf w.NextPage a b (aKS B.Registration w.Sites[k] w.Online) l).1 (⟨#[105,110,100,101,120]⟩:ByteArray) r
 have lid:=aPR (aCf w.NextPage a b (aKS B.Registration w.Sites[k] w.Online) l).1 (⟨#[105,110,100,101,120]⟩:ByteArray) r
 have sw:=aNf hw.aA hB (aDh hz)
 have sz:=aQ0 w.aA B
 have sd:=aQN (b:=B) (aDh hz) zD
 have no : ∃R:M.World×Int×Bool,some (w,0,false)=some R∧some (w,0,false)=some R∧R.1.ok∧M.World.sz R.1≤16777216:=⟨(w,0,false),rfl,rfl,hw,by show M.World.sz w≤_;omega⟩
 unfold oS oI
 rw [aGs hw.aA hB (aDh hz) (by omega) zD,aN hk,sO]
 simp only [qA]
 rw [aGo,aHH]
 simp only [qA]
 rw [aHk hw.NextPage (aKV _ ha) (aKV _ hb) hv hl (by omega),aHu hw.NextPage (aKV _ ha) (aKV _ hb) hv hl (by omega),e2]
 simp only [qA]
 rw [aIi pk (by omega) (by omega) m5 e3.Version,aHE hw.aA hB (aDh hz) (by omega) zD]
 simp only [qA]
 cases hP:(aCf w.NextPage a b (aKS B.Registration w.Sites[k] w.Online) l).2 with
 | false =>
  simp only [qC,if_true,ite_self]
  exact no
 | true =>
  have hpp:aDZ (aCl w.NextPage a b (aKS B.Registration w.Sites[k] w.Online) l)=true:=by
   unfold aCf at hP
   split at hP
   ·assumption
   ·cases hP
  have hbp:(aCf w.NextPage a b (aKS B.Registration w.Sites[k] w.Online) l).1=aCl w.NextPage a b (aKS B.Registration w.Sites[k] w.Online) l:=by
   unfold aCf
   rw [if_pos hpp]
  have hv0:(aKS B.Registration w.Sites[k] w.Online==0)=false:=aQF hpp
  simp only [hv0,qB,qD,if_false]
  cases hp:(aKU w.aA B).2 with
  | false =>
   rw [oF (by simp only [qJ,qK];omega)]
   simp only [qC,if_true,qA,ite_self]
   exact no
  | true =>
   have e:nAt a b=nAt B.Site B.Top:=by
    rcases H with H | H
    ·exact H
    ·obtain ⟨j,_,e2⟩:=aMR w.aA B
     have:=aRF (aMj hp).2 e2
     rw [H] at this
     cases this
   have hA:jZ (⟨w.Now,w.Online,w.Device,(aKU w.aA B).1,w.Pages,w.NextPage,w.Locks,w.Channel,w.Sites,w.Servers⟩:M.World) (aCf w.NextPage a b (aKS B.Registration w.Sites[k] w.Online) l).1 (⟨#[105,110,100,101,120]⟩:ByteArray)=some r:=by
    rw [aOd hw hB hz hk (by rw [hbp];exact ek) hp (by rw [hbp];exact e),hbp]
    exact e1
   rw [hA]
   simp only [qB,qD,if_false,qA]
   rw [aIr pk (by omega) (by omega) m5 e3.Version]
   simp only [qA]
   rw [oF (by simp only [qJ,qK];omega)]
   simp only [qA,lid]
   generalize aIs (aCf w.NextPage a b (aKS B.Registration w.Sites[k] w.Online) l).1 (⟨#[105,110,100,101,120]⟩:ByteArray) r=X at lk lz
   cases hX:X.2 with
   | false =>
    simp only [qC,if_true]
    exact no
   | true =>
    simp only [qB,qD,if_false]
    have wo:M.World.ok (⟨w.Now,w.Online,w.Device,(aKU w.aA B).1,(w.Pages++[X.1]),(i64.wrap (w.NextPage+1)),w.Locks,w.Channel,w.Sites,w.Servers⟩:M.World):=⟨hw.Now,hw.Device,sw,⟨by
     show (w.Pages++[X.1]).length≤maxLen
     rw [qE]
     exact aKV _ (by simp only [qJ,qK];omega),fun y hy=>by
     have hy':y∈w.Pages++[X.1]:=hy
     rcases List.mem_append.1 hy' with h | h
     ·exact hw.Pages.2 y h
     ·rw [List.mem_singleton.1 h];exact lk⟩,aH5 _,hw.Locks,hw.Channel,hw.Sites,hw.Servers⟩
    rw [aEo wo sd,aEs wo sd]
    simp only [qA]
    generalize aFM _=c
    cases c with
    | false =>
     simp only [qC,if_true]
     exact no
    | true =>
     simp only [qB,qD,if_false]
     refine ⟨_,rfl,rfl,wo,?_⟩
     have:=aDg (f:=M.bH.sz) w.Pages [X.1]
     simp only [aF] at this
     simp only [M.World.sz,qE,qJ,qK]
     omega
theorem aRb (a b:ByteArray) (d:Int):M.aC.sz (aDo a b d)≤2*a.size+b.size+1000:=by
 have h3:(⟨#[97,112,112]⟩:ByteArray).size=3:=rfl
 have h5:(⟨#[110,111,116,101,115]⟩:ByteArray).size=5:=rfl
 simp only [aDo,M.aC.sz,M.Registration.sz,M.aO.sz,M.bC.sz,M.Database.sz,M.aH.sz,M.aD.sz,M.Sync.sz,M.aR.sz,aF,qJ,qK,h3,h5]
 omega
theorem aNV {w:M.World} {a b:ByteArray} {l:List M.Instr} (hw:w.ok) (hz:M.World.sz w≤1048576) (ha:a.size≤1048576) (hb:b.size≤1048576) (hl:aBj l) (zl:l.length+aF M.Instr.sz l≤1048576) : ∃R:M.World×Int×Bool,yN w a b l=some R∧sS w a b l=some R∧R.1.ok∧M.World.sz R.1≤16777216:=by
 have hz':=hz
 simp only [M.World.sz,M.aA.sz] at hz'
 have no : ∃R:M.World×Int×Bool,some (w,0,false)=some R∧some (w,0,false)=some R∧R.1.ok∧M.World.sz R.1≤16777216:=⟨(w,0,false),rfl,rfl,hw,by show M.World.sz w≤_;omega⟩
 unfold yN sS iB uX vD
 rw [aI8 w (by omega),aHy w (by omega),aI1 hw hz,aI9 hw hz,aCO (a:=a),aAB (a:=a),aCO (a:=b),aAB (a:=b)]
 simp only [qA]
 cases hn:aFM w with
 | false =>
  simp only [qC,if_true]
  exact no
 | true =>
  simp only [qB,qD,if_false]
  by_cases h1:aDY a<0
  ·simp only [h1,decide_true,if_true]
   exact no
  by_cases h2:aDY b<0
  ·simp only [h1,h2,decide_true,decide_false,if_true,qD,if_false]
   exact no
  simp only [h1,h2,decide_false,qD,if_false]
  obtain ⟨k,ek,hk⟩:=aMs h1
  have hk':k<w.Sites.length:=by rw [aKg hn];exact hk
  rw [aH2 (aKV _ ha) (aKV _ hb) (aH5 _),aAA hw.aA,aCQ hw.aA]
  simp only [qA,ek]
  by_cases h:aAP (nAt a b) w.aA.Buckets<0
  ·have h' : ¬aAP (nAt a b) w.aA.Buckets≥0:=by omega
   simp only [h,h',decide_true,decide_false,if_true,qD,if_false,qA]
   rw [aHs (aKV _ ha) (aKV _ hb) (aH5 _)]
   simp only [qA]
   have hd:=aH5 (i64.wrap (1000*w.Device)+w.NextPage)
   generalize i64.wrap (i64.wrap (1000*w.Device)+w.NextPage)=d at hd
   have ok0:=aPh (aKV _ ha) (aKV _ hb) hd
   refine aKe (B:=(⟨(aDE a b d).1.Site,(aDE a b d).1.Top,(aDE a b d).1.Registration,(aDE a b d).1.Caches,(aDE a b d).1.bC,(aDE a b d).1.aD,w.Now,(aDE a b d).1.Persistent⟩:M.aC)) hw hz ha hb hl zl ek hk' ⟨ok0.Site,ok0.Top,ok0.Registration,ok0.Caches,ok0.bC,ok0.aD,hw.Now⟩ ?_ ?_ ?_ ?_
   ·have:=aRb a b d
    show M.aC.sz (aDE a b d).1≤_
    unfold aDE
    split
    ·split
     ·show M.aC.sz (aDo a b d)≤_
      omega
     ·show M.aC.sz oC≤4194304
      decide
    ·show M.aC.sz oC≤4194304
     decide
   ·show M.Database.sz (aDE a b d).1.bC.Base≤_
    unfold aDE
    split
    ·split
     ·exact aJm a b d
     ·show M.Database.sz oC.bC.Base≤1048576
      decide
    ·show M.Database.sz oC.bC.Base≤1048576
     decide
   ·show M.aO.sz (aDE a b d).1.Caches≤_
    unfold aDE
    split
    ·split
     ·show M.aO.sz (⟨([]:List M.Cache)⟩:M.aO)≤1048576
      decide
     ·show M.aO.sz oC.Caches≤1048576
      decide
    ·show M.aO.sz oC.Caches≤1048576
     decide
   ·show nAt a b=nAt (aDE a b d).1.Site (aDE a b d).1.Top∨_
    have z : ∀n p,aBK (⟨oC.Site,oC.Top,oC.Registration,oC.Caches,oC.bC,oC.aD,n,p⟩:M.aC)=false:=fun _ _=>rfl
    unfold aDE
    split
    ·split
     ·exact .inl rfl
     ·exact .inr (z _ _)
    ·exact .inr (z _ _)
  ·obtain ⟨j,ej,hj⟩:=aBx h
   have h':aAP (nAt a b) w.aA.Buckets≥0:=by omega
   simp only [h,h',decide_true,decide_false,if_true,qD,if_false]
   rw [ej,aN hj]
   simp only [qA,if_true]
   have hq:=hw.aA.Buckets.2 _ (qG hj)
   have z1:=cF (f:=M.aC.sz) (qG hj)
   obtain ⟨_,hf⟩:=aJf ej
   generalize w.aA.Buckets[j]=q at hq z1 hf
   have zq:M.aC.sz q≤1048576:=by omega
   have z3:M.aO.sz q.Caches≤M.aC.sz q:=by simp only [M.aC.sz];omega
   rw [aCV q (by omega)]
   simp only [qA]
   refine aKe (B:=(⟨q.Site,q.Top,q.Registration,q.Caches,q.bC,q.aD,w.Now,q.Persistent⟩:M.aC)) hw hz ha hb hl zl ek hk' ⟨hq.Site,hq.Top,hq.Registration,hq.Caches,hq.bC,hq.aD,hw.Now⟩ ?_ (aDn zq) (by show M.aO.sz q.Caches≤_;omega) (.inl ?_)
   ·show M.aC.sz q≤_
    omega
   ·funext x
    unfold nAt at hf ⊢
    rw [qM] at hf
    show (_&&_)=((x.Site.toList==q.Site.toList)&&(x.Top.toList==q.Top.toList))
    rw [eq_of_beq hf.1,eq_of_beq hf.2]
end Go.Proofs.YtimblbmbfdopgaaGreat.gen
