/-
  Helper text. No conditions.
-/
import Derived.Test.YtjlnkcoeghonfaaGreatRunPageShR
import Derived.KernelRfl
import Derived.Laws.CopyRow
import Derived.Lib.Walk
import Derived.WalkKit
import Derived.Lib.AppendZerosOnto
import Derived.Lib.Overlaps
import Derived.Lib.SliceRun
import Derived.Laws.Externs
import Derived.Laws.OwnMore
import Derived.Shelf.RegionOpenPlain
import Derived.Lib.JoinLaws
set_option linter.all false
namespace Go.Sh
open Go.RowKit
def GG(P:Program)(T:K0)(N:Nat):List Oper->MSt->(MSt->Prop)->Prop
 |[],σ,K=>K σ
 |o::rest,σ,K=>o.guard=none/\Zk P T N o σ λσ'=>GG P T N rest σ' K
def mgo(P:Program)(T:K0)(N:Nat)(o:Oper)(σ:MSt)(p:MP)(rest:List Oper)(K:MSt->Prop):Prop:=aBr P T N o σ p λσ'=>GG P T N rest σ' K
def aAv(P:Program)(T:K0)(N:Nat)(j:Option Tmp)(σ:MSt)(rest:List Oper)(K:MSt->Prop)(s':St):Prop:=
 match j with
 |some d=>(s'=(⟨σ.t,hz,λ_=>.unk⟩:St).Hg d (s'.t d)/\Jq (s'.t d)=true/\d<N)/\GG P T N rest (σ.NK d (s'.t d)) K
 |none=>False
theorem UQ(P:Program)(T:K0)(N:Nat)(σ:MSt)(K:MSt->Prop):GG P T N [] σ K=K σ:=rfl
theorem Sf(P:Program)(T:K0)(N:Nat)(o:Oper)(rest:List Oper)(σ:MSt)(K:MSt->Prop):GG P T N (o::rest) σ K=(o.guard=none/\mgo P T N o σ (wI T N o σ) rest K):=rfl
theorem ZZ(P:Program)(T:K0)(N:Nat)(o:Oper)(σ σ':MSt)(c:Prop)(rest:List Oper)(K:MSt->Prop):mgo P T N o σ (.ret c σ') rest K=(c/\GG P T N rest σ' K):=rfl
theorem XM(P:Program)(T:K0)(N:Nat)(o:Oper)(σ:MSt)(f:FuncId)(ys:List (List D))(k:Int)(c:Prop)(g:List (List D)->Int->MSt)(rest:List Oper)(K:MSt->Prop):mgo P T N o σ (.mark f ys k c g) rest K=∃j C,tE P f false [.sl ys] [.sl j] k C/\c/\GG P T N rest (g j C) K:=rfl
theorem V9(P:Program)(T:K0)(N:Nat)(o:Oper)(σ:MSt)(f:FuncId)(ds:List D)(k:Int)(c:Prop)(g:List D->Int->MSt)(rest:List Oper)(K:MSt->Prop):mgo P T N o σ (.markS f ds k c g) rest K=∃es j,tE P f true ds es k j/\c/\GG P T N rest (g es j) K:=rfl
theorem Zm(P:Program)(T:K0)(N:Nat)(o:Oper)(σ:MSt)(rest:List Oper)(K:MSt->Prop):mgo P T N o σ .reg rest K=ex P (AU T N o) ⟨σ.t,hz,λ_=>.unk⟩ (aAv P T N o.dst σ rest K):=by simp only[mgo,aBr,Yo];congr 1
theorem Uj(P:Program)(T:K0)(N d:Nat)(σ:MSt)(rest:List Oper)(K:MSt->Prop)(s':St):aAv P T N (some d) σ rest K s'=((s'=(⟨σ.t,hz,λ_=>.unk⟩:St).Hg d (s'.t d)/\Jq (s'.t d)=true/\d<N)/\GG P T N rest (σ.NK d (s'.t d)) K):=rfl
def MW(P:Program)(c:MCx)(N:Nat)(x:Code)(σ:MSt)(Q:Exit->MSt->Prop):Prop:=
 ∀(a:Act) (w:World),Md c N σ a w->x.wp P (λe j C=>∃σ',Q e σ'/\Md c N σ' j C) a w
inductive MFr where
 |code (c:Code)
 |block (id:Nat)
 |inv (J:MSt->Prop)
def EP(P:Program)(c:MCx)(N:Nat)(Z:MSt->Prop):List MFr->Exit->MSt->Prop
 |[],.normal,s=>Z s
 |[],.ret,s=>Z s
 |[],_,_=>False
 | .code x::k,.normal,s=>MW P c N x s (EP P c N Z k)
 | .code _::k,e,s=>EP P c N Z k e s
 | .block id::k,.exit j,s=>if j=id then EP P c N Z k .normal s else EP P c N Z k (.exit j) s
 | .block _::k,e,s=>EP P c N Z k e s
 | .inv J::_,.normal,s=>J s
 | .inv _::k,e,s=>EP P c N Z k e s
section
variable {P:Program}{c:MCx}{N:Nat}{Z:MSt->Prop}{k:List MFr}{s s':MSt}
theorem Tm{Q:Exit->Act->World->Prop}{ops:Array Oper}{K:MSt->Prop}:∀(l:List Oper) (i:Nat) {s:MSt} {a:Act} {w:World},ops.toList.drop i=l->Md c N s a w->GG P (dJ P) N l s K->
  (∀U j w',K U->Md c N U j w'->Q .normal j w')->wpOps P ops Q (List.range' i l.length) a w
 |[],i,s,a,w,C,R,h,J=>by simp only[qK,List.range'_zero,wpOps];exact J s a w h R
 |o::l,i,s,a,w,C,R,h,J=>by
  simp only[qJ,List.range'_succ]
  rw[wpOps_cons]
  have hi:ops[i]? =some o:=by
   have:(ops.toList.drop i)[0]? =some o:=by rw[C];rfl
   rw[List.getElem?_drop]at this
   simpa using this
  have I:ops.toList.drop (i+1)=l:=by rw[<-List.drop_drop,C];rfl
  have h1:wpOp P ops Q i (aAG c N λσ'=>GG P (dJ P) N l σ' K) a w:=by unfold wpOp;simp only[hi];rw[if_pos (by simp[Region.wanted,h.1])];exact .inl (ZY R h.2)
  refine wpOp_mono ?_ h1
  rintro j w' ⟨U,k1,k2⟩
  exact Tm l (i+1) I k2 k1 J
theorem msq{x y:Code}(h:MW P c N x s (EP P c N Z (.code y::k))):MW P c N (.seq x y) s (EP P c N Z k):=by
 intro a w R
 refine wp_seq (wp_mono (h a w R) ?_)
 rintro e a' w' ⟨s',h1,h2⟩
 cases e with
 |normal=>exact h1 a' w' h2
 |_=>exact⟨s',h1,h2⟩
theorem mbk{id:Nat}{x:Code}(h:MW P c N x s (EP P c N Z (.block id::k))):MW P c N (.block id x) s (EP P c N Z k):=by
 intro a w R
 refine wp_block (wp_mono (h a w R) ?_)
 rintro e a' w' ⟨s',h1,h2⟩
 cases e with
 |exit j=>
  show if j=id then _ else _
  by_cases hid:j=id
  ·simp only[EP,hid,if_true]at h1⊢;exact⟨s',h1,h2⟩
  ·simp only[EP,hid,if_false]at h1⊢;exact⟨s',h1,h2⟩
 |_=>exact⟨s',h1,h2⟩
theorem M3:∀(k:List MFr),Z s->EP P c N Z k .ret s
 |[],h=>h
 | .code _::k,h=>M3 k h
 | .block _::k,h=>M3 k h
 | .inv _::k,h=>M3 k h
theorem mxt{id:Nat}(h:EP P c N Z k (.exit id) s):MW P c N (.exit id) s (EP P c N Z k):=λa w R=>wp_exit ⟨s,h,R⟩
theorem mrt(h:Z s):MW P c N .ret s (EP P c N Z k):=λa w R=>wp_ret ⟨s,M3 k h,R⟩
theorem msk(h:EP P c N Z k .normal s):MW P c N .skip s (EP P c N Z k):=λa w R=>wp_skip ⟨s,h,R⟩
def MIs(s t:MSt):Prop:=t=s
theorem MIs.mk(t:MSt):MIs t t:=rfl
theorem YU{id:Nat}{ops:Array Oper}(h:GG P (dJ P) N ops.toList s (MIs s'))(hk:EP P c N Z k .normal s'):MW P c N (.region id ops false) s (EP P c N Z k):=by
 intro a w R
 refine wp_region ?_
 have:=Tm (ops:=ops) (Q:=λe j C=>∃s',EP P c N Z k e s'/\Md c N s' j C) ops.toList 0 jF R h λs1 j C h1 h2=>⟨s1,by rw[show s1=s' from h1];exact hk,h2⟩
 rwa [qm,<-List.range_eq_range']at this
theorem man{x:Code}(h:MW P c N x s (EP P c N Z k)):EP P c N Z (.code x::k) .normal s:=h
theorem mab{id:Nat}(h:EP P c N Z k .normal s):EP P c N Z (.block id::k) .normal s:=h
theorem DH{id:Nat}(h:EP P c N Z k .normal s):EP P c N Z (.block id::k) (.exit id) s:=by simp only[EP,if_true];exact h
theorem zE{x:Code}{id:Nat}(h:EP P c N Z k (.exit id) s):EP P c N Z (.code x::k) (.exit id) s:=h
theorem aAb{J:MSt->Prop}(h:J s):EP P c N Z (.inv J::k) .normal s:=h
theorem zD{J:MSt->Prop}{id:Nat}(h:EP P c N Z k (.exit id) s):EP P c N Z (.inv J::k) (.exit id) s:=h
theorem VY{t:Nat}{x y:Code}{b:Bool}(hb:s.t t=.v false [.dat (.bool b)])(h1:b=true->MW P c N x s (EP P c N Z k))(h2:b=false->MW P c N y s (EP P c N Z k)):MW P c N (.cond (.tmp t) x y) s (EP P c N Z k):=by intro a w R;have j:=R.flat t;rw[hb]at j;have C:=(IF j rfl).1;simp only[Rep]at C;exact wp_cond_split (t:=b) (by simpa[Act.eval]using C.1) (λh=>h1 h a w R) (λh=>h2 h a w R)
theorem aBU{t:Nat}{x y:Code}(hb:s.t t=.v false [.dat (.bool true)])(h:MW P c N x s (EP P c N Z k)):MW P c N (.cond (.tmp t) x y) s (EP P c N Z k):=
 VY hb (λ_=>h) (λe=>by cases e)
theorem aBO{t:Nat}{x y:Code}(hb:s.t t=.v false [.dat (.bool false)])(h:MW P c N y s (EP P c N Z k)):MW P c N (.cond (.tmp t) x y) s (EP P c N Z k):=
 VY hb (λe=>by cases e) (λ_=>h)
theorem aAA{x:Code}(I:Nat->MSt->Prop)(n:Nat)(C:I n s)(h:∀m s,I m s->MW P c N x s (EP P c N Z (.inv (λs'=>∃j,j<m/\I j s')::k))):MW P c N (.loop x) s (EP P c N Z k):=by
 intro a w R
 refine wp_loop_ghost (λm a w=>∃s,I m s/\Md c N s a w) n ⟨s,C,R⟩ ?_
 rintro m a w ⟨s,h1,R⟩
 refine wp_mono (h m s h1 a w R) ?_
 rintro e a' w' ⟨s',h2,h3⟩
 cases e with
 |normal=>obtain⟨j,h4,h5⟩:=h2;exact⟨j,h4,s',h5,h3⟩
 |_=>exact⟨s',h2,h3⟩
def Xa(j:MV)(k:Int)(ds:List D):MSt:=⟨λi=>if i=1 then one (.int .i64 k)else .unk,λi=>if i=0 then some j else none,ds⟩
theorem R5(j:MV)(k:Int)(ds:List D)(i:Nat):(Xa j k ds).t i=if i=1 then one (.int .i64 k)else .unk:=rfl
theorem SE(j:MV)(k:Int)(ds:List D)(i:Nat):(Xa j k ds).m i=if i=0 then some j else none:=rfl
theorem TG(j:MV)(k:Int)(ds:List D):(Xa j k ds).ds=ds:=rfl
end
def aAK:Bool->MV
 |true=>.agg
 |false=>.top 0
theorem iD {P : Program} {f : FuncId} {fn : Func} {x : Code} {ag : Bool} {ds ds' : List D} {k k' : Int} {N r : Nat} (hf : P.funcs[f]? = some fn) (hb : fn.body = some x) (hN : fn.ntmps = N) (hv : fn.results.toList = [.tmp r]) (hnm : (fn.name == "runtime.NumGoroutine") = false) (hn : 2 <= N)
  (h : ∀c:MCx,MW P c N x (Xa (aAK ag) k ds) (EP P c N (λs=>s.t r=one (.int .i64 k')/\s.ds=ds') [])):tE P f ag ds ds' k k':=by
 refine ⟨⟨fn,x,hf,hb,hnm⟩,λw v Fs ha hnd hu=>calls_of_wp hf hb ?_⟩
 have hvals : ∃vals:List Value,E1 w ds vals Fs/\(∀c:MCx,c.vals=vals->Zo c w (aAK ag) v) /\ ∀w':World,E1 w' ds' vals Fs->ZU w' v ag ds' Fs:=by
  cases ag with
  | true=>obtain ⟨cs,rfl,hr⟩:=ha;exact ⟨cs.toList,hr,λc hc=>by show _=Value.agg c.vals.toArray;rw [hc],λw' hr'=>⟨cs,rfl,hr'⟩⟩
  | false=>exact ⟨[v],ha,λc hc=>by show c.vals[0]? = some v;rw [hc];rfl,λw' hr'=>hr'⟩
 obtain ⟨vals,hr,hm,hback⟩:=hvals
 have hsz:(#[v,Value.int .i64 k]++Array.replicate (fn.ntmps-(#[v,Value.int .i64 k]:Array Value).size) undef).size=N:=by simp;omega
 have R:Md ⟨vals,Fs,w⟩ N (Xa (aAK ag) k ds) { tmps := #[v,.int .i64 k]++Array.replicate (fn.ntmps-(#[v,Value.int .i64 k]:Array Value).size) undef,defers:=[] } w:=by
  refine ⟨rfl,hsz,Frm.refl _ _,hnd,hu,hr,λt => ?_,λt m hmm => ?_⟩
  ·rw [R5]
   by_cases ht:t=1
   ·subst ht
    simp only [if_true]
    have e1:(#[v,Value.int .i64 k]++Array.replicate (fn.ntmps-(#[v,Value.int .i64 k]:Array Value).size) undef).getD 1 undef = .int .i64 k:=by simp [Array.getElem?_append]
    show nN gz hz w _ ((#[v,Value.int .i64 k]++Array.replicate (fn.ntmps-(#[v,Value.int .i64 k]:Array Value).size) undef).getD 1 undef)
    rw [e1]
    exact ⟨_,[],rfl,⟨[],by simp [Rep],jF⟩,rfl⟩
   ·simp only [ht,if_false];trivial
  ·rw [SE] at hmm;by_cases ht:t=0;(subst ht;simp only [if_true,qb] at hmm;subst hmm;have:=hm ⟨vals,Fs,w⟩ rfl;simpa [Array.getElem?_append] using this);·simp [ht] at hmm
 refine wp_mono (h ⟨vals,Fs,w⟩ _ w R) ?_
 rintro e a' w' ⟨s',h1,R'⟩
 have fin:(s'.t r=one (.int .i64 k')/\s'.ds=ds')->a'.defers=[] /\ ∃u,(results fn a'.tmps).run P w' = .ok u w'/\(Ending.returned u = .returned (.int .i64 k')/\ZU w' v ag ds' Fs/\Frm Fs.flatten w w'):=by rintro ⟨e1,e2⟩;refine ⟨R'.defers,.int .i64 k',?_,rfl,hback w' (by rw [<-e2];exact R'.rep),R'.frm⟩;have e3:a'.tmps.getD r undef = .int .i64 k':=Tk R' e1;have hv':fn.results = #[.tmp r]:=SA hv;simp at e3;simp [results,hv',e3]
 cases e with
 | normal=>exact fin h1
 | ret=>exact fin h1
 | exit id=>exact h1.elim
 | goto l=>exact h1.elim
 | panic ch=>exact h1.elim
 | outgrown=>exact h1.elim
def Y5(h:Heap):List SC->List D->List D->Prop
 |[],ds,C=>ds=[]/\C=[]
 | .dat d::I,ds,C=>∃es j,d.flat=true/\ds=d::es/\C=d::j/\Y5 h I es j
 | .nil::I,ds,C=>∃es j,ds=.sl []::es/\C=.sl []::j/\Y5 h I es j
 | .row i ver::I,ds,C=>∃e sz U J es j,h i=(ver,.row e sz U true)/\(∀x∈J,x.length=sz)/\ds=.sl U::es/\C=.sl J::j/\Y5 h I es j
 |_,_,_=>False
def Dx:List SC->List Nat
 | .row i _::j=>i::Dx j
 |_::j=>Dx j
 |[]=>[]
def E9:List SC->List D->Nat->Option (List (List D))
 | .row i _::C,.sl I::ds,j=>if j=i then some I else E9 C ds j
 |_::C,_::ds,j=>E9 C ds j
 |_,_,_=>none
def mkObj(oR:List Nat)(o:Nat×Fo)(j:Nat)(xs:Option (List (List D))):Nat×Fo:=
 match xs,o.2 with
 |some C,.row e sz _ I=>(o.1,.row e sz C I)
 |_,x=>if j∈oR then(o.1,x)else(o.1,.none)
def Sd(s:St)(kt kh:List Nat)(cs:List SC)(C:List D):St:=
 { t:=λi=>if i∈kt then s.t i else .unk,h:=λj=>mkObj kh (s.h j) j (E9 cs C j) }
theorem Za(s:St)(kt kh:List Nat)(cs:List SC)(j:List D)(i:Nat):(Sd s kt kh cs j).t i=if i∈kt then s.t i else .unk:=rfl
theorem L8(s:St)(kt kh:List Nat)(cs:List SC)(C:List D)(j:Nat):(Sd s kt kh cs C).h j=mkObj kh (s.h j) j (E9 cs C j):=rfl
section
variable {P:Program}{base N:Nat}{w0:W0}{w:World}{g:Gh}{s:St}{a:Act}
theorem YD{h:Heap}(hL:g.Q.L=Kz)(I:Inv base g h w []){i ver:Nat}{e:TypeId}{sz:Nat}{xs:List (List D)}(hi:h i=(ver,.row e sz xs true)):
  ∃Fi,Rep w (.sl xs) (g.val i) Fi/\Fi.Nodup/\(∀b∈Fi,base<=b/\Qu w b)/\(∀b∈Fi,Dz (g.val i)=some b\/b∈g.fp i)/\
   ∀(F:List Nat) (w':World) (h':Heap) (C:List (List D)),Frm F w w'->(∀b,Dz (g.val i)=some b\/b∈g.fp i->b∈F->b∈Fi)->Rep w' (.sl C) (g.val i) Fi->(∀x∈C,x.length=sz)->Ck base g h' w' i (.row e sz C true):=by
 have h2:(h i).2=.row e sz xs true:=by rw[hi]
 have hl:live h i:=by unfold live;rw[h2];simp
 have ho:=I.obj i
 rw[h2]at ho
 obtain⟨cells,k1,k2,k3,k4,k5⟩:=ho
 have hown:=k5 rfl
 have hlen:∀{w':World} {C:List (List D)} {Fi:List Nat} {ad:Option Addr} {n c:Nat},g.val i=.slice ad n c->Rep w' (.sl C) (g.val i) Fi->C.length=n:=by intro w' C Fi ad n c U hr;rw[U]at hr;simp only[Rep]at hr;obtain⟨_,_,_,e1,e2,_⟩:=hr;cases e1;exact e2.symm
 have empty:xs.length=0->∃Fi,Rep w (.sl xs) (g.val i) Fi/\Fi.Nodup/\(∀b∈Fi,base<=b/\Qu w b)/\(∀b∈Fi,Dz (g.val i)=some b\/b∈g.fp i)/\
   ∀(F:List Nat) (w':World) (h':Heap) (C:List (List D)),Frm F w w'->(∀b,Dz (g.val i)=some b\/b∈g.fp i->b∈F->b∈Fi)->Rep w' (.sl C) (g.val i) Fi->(∀x∈C,x.length=sz)->Ck base g h' w' i (.row e sz C true):=by
  intro hn
  have hx:xs=[]:=qk hn
  subst hx
  have k3:=k3.rep
  simp only[aT]at k3
  obtain⟨rfl,hfp⟩:=k3
  refine⟨[],?_,List.nodup_nil,jF,jF,λF w' h' C hF hin hr hxs=> ?_⟩
  ·rcases k1.2 with⟨U,_⟩|⟨gg,cap,cur,U,hb,hh,hnc,_⟩;(rw[U];simp only[Rep];exact⟨none,0,0,rfl,rfl,qf _,.inl jF⟩);·rw[U];simp only[Rep];exact⟨_,0,cap,rfl,rfl,Nat.zero_le _,.inl jF⟩
  ·have hx':C=[]:=by
    rcases k1.2 with⟨U,_⟩|⟨gg,cap,cur,U,hb,hh,hnc,_⟩
    ·exact qk (hlen U hr)
    ·exact qk (hlen U hr)
   subst hx'
   refine⟨[],⟨jF,?_⟩,jF,by rw[hfp];exact dH.nil,k4,λ_=>by rw[hfp];exact Co.nil _ _⟩
   rcases k1.2 with k6|⟨gg,cap,cur,U,hb,hh,hnc,hr4⟩
   ·exact .inl k6
   ·have hgF:gg∉F:=λhm=>by simpa using hin gg (.inl (by rw[U];rfl)) hm
    exact .inr ⟨gg,cap,cur,U,hb,(hF.out gg (F7 hh) hgF).trans hh,hnc,hr4⟩
 rcases Nat.eq_zero_or_pos xs.length with hn|hn
 ·exact empty hn
 rcases k1.2 with⟨U,h0⟩|⟨gg,cap,cur,U,hb,hh,hnc,hcm,hcs,htk⟩
 ·omega
 have hgS:¬g.S gg:=I.mtb i gg hl (by rw[U];rfl)
 have hgfp:gg∉g.fp i:=λhm=>hgS (k4 gg hm)
 refine⟨gg::g.fp i,?_,List.nodup_cons.2 ⟨hgfp,hown.1⟩,?_,?_,λF w' h' C hF hin hr hxs=> ?_⟩
 ·rw[U];simp only[Rep];refine⟨_,_,cap,rfl,rfl,hnc,.inr ⟨gg,0,cells,sz,g.fp i,rfl,F7 hh,rfl,?_,k1.1,k2,k3.rep⟩⟩;intro j u hu;have:=k1.cells (g:=gg) (by rw[U];rfl) j u hu;rw[Addr.add_lit]at this;exact this
 ·intro b J;rcases qp.1 J with rfl|J;(exact⟨hb,cur,e,hh⟩);·exact hown.2 b J
 ·intro b J;rcases qp.1 J with rfl|J;(exact .inl (by rw[U];rfl));·exact .inr J
 ·have hl':C.length=xs.length:=hlen U hr
  rw[U]at hr
  simp only[Rep]at hr
  obtain⟨ad,n,c,e1,e2,e3,e4⟩:=hr
  cases e1
  rcases e4 with⟨e4,_⟩|⟨g',off,cells',sz',G,q1,q2,q3,q4,q5,q6,q7⟩
  ·omega
  cases q1
  simp only[List.cons.injEq,true_and]at q3
  subst q3
  have hsz:sz'=sz:=by
   match C,hl',q6,hxs with
   |x::_,_,q6,hxs=>rw[<-q6 x jF,hxs x jF]
   |[],hl',_,_=>simp at hl';omega
  subst hsz
  have hcur:∃cur',w'.heap[gg]? =some (.cells cur' e (0,0))/\cur'.size=cur.size:=by by_cases hm:gg∈F;(exact hF.ins gg hm cur e hh);·exact⟨cur,(hF.out gg (F7 hh) hm).trans hh,rfl⟩
  obtain⟨cur',hc1,hc2⟩:=hcur
  refine⟨cells',⟨by rw[hl'];exact q5,.inr ⟨gg,cap,cur',by rw[hl'];exact U,hb,hc1,jD,hcm,by rw[hc2];exact hcs,?_⟩⟩,hxs,by rw[hL];exact dH.Kz q7,k4,λ_=>⟨hown.1,λb J=>⟨(hown.2 b J).1,hF.Yk (hown.2 b J).2⟩⟩⟩
  apply List.ext_getElem?
  intro k
  rw[List.getElem?_take]
  by_cases hk:k<cells'.length
  ·have:=q4 k _ (qF hk);rw[cell_of_row w' gg _ cur' e (0,0) hc1,qo]at this;rw[if_pos (by rw[hl'];rw[q5]at hk;exact hk),Array.getElem?_toList,this,qF hk]
  ·rw[if_neg (by rw[hl'];rw[q5]at hk;exact hk),qY jD]
theorem Wt{h h':Heap}{w':World}{F:List Nat}(hF:Frm F w w')(hb:∀b∈F,base<=b)(hlt:∀b,g.S b->b<w.heap.size)(hver:∀i,(h' i).1=(h i).1)(hrow:∀i e sz xs dp,(h' i).2=.row e sz xs dp->∃J I,(h i).2=.row e sz J I)
  (hbox:∀i t cs,(h' i).2=.box t cs->∃U,(h i).2=.box t U){c:SC}{v:Value}(hc:yT g h w c v)(hcl:SC.clean base c):yT g h' w' c v:=by
 have cap:∀{c:Nat×Nat×Nat} {v:Value},KT g h c v->KT g h' c v:=by rintro c v ⟨h1,h2⟩;refine⟨by rw[hver];exact h1,λhv t cs hx=> ?_⟩;obtain⟨U,hx0⟩:=hbox _ _ _ hx;exact h2 (by rw[<-hver];exact hv) t U hx0
 have caps:∀{cs:List (Nat×Nat×Nat)} {vs:List Value},Dj g h cs vs->Dj g h' cs vs:=by
  intro cs
  induction cs with
  |nil=>intro vs h;exact h
  |cons c cs ih=>rintro vs ⟨v,vs',rfl,h1,h2⟩;exact⟨v,vs',rfl,cap h1,ih h2⟩
 cases c with
 |dat d=>
  obtain⟨F',h1,h2⟩:=hc
  have:=Ho h1 hcl
  subst this
  exact⟨[],Rep.oR d v [] h1 jF,jF⟩
 |nil=>exact hc
 |row i ver=>
  obtain⟨h0,h1,h2⟩:=hc
  refine⟨h0,by rw[hver];exact h1,λhv e sz xs dp hr=> ?_⟩
  obtain⟨J,I,C⟩:=hrow _ _ _ _ _ hr
  exact h2 (by rw[<-hver];exact hv) _ _ _ _ C
 |bp i ver off=>exact⟨hc.1,cap hc.2⟩
 |rp i ver j off=>
  obtain⟨h0,h1,h2⟩:=hc
  refine⟨h0,by rw[hver];exact h1,λhv e sz xs dp hr=> ?_⟩
  obtain⟨J,I,C⟩:=hrow _ _ _ _ _ hr
  exact h2 (by rw[<-hver];exact hv) _ _ _ _ C
 |clo f cs=>obtain⟨vs,h1,h2⟩:=hc;exact⟨vs,h1,caps h2⟩
 |old B d u=>
  obtain⟨F',h1,h2,h3⟩:=hc
  have hB:B<=base:=hcl
  exact⟨F',Rep.oR d v F' h1 λb hm=>hF.out b (hlt b (h2 b hm).1) λhf=>by have:=hb b hf;have:=(h2 b hm).2;omega,h2,h3⟩
 |part i ver lo n=>
  obtain⟨h0,h1,h2⟩:=hc
  refine⟨h0,by rw[hver];exact h1,λhv e sz xs dp hr=> ?_⟩
  obtain⟨J,I,C⟩:=hrow _ _ _ _ _ hr
  exact h2 (by rw[<-hver];exact hv) _ _ _ _ C
 |exa W d x=>exact hcl.elim
end
section
variable {P:Program}{base N:Nat}{w0:W0}{w:World}{g:Gh}{s:St}{a:Act}
theorem Wp:∀{cs:List SC} {ds:List D} {j:Nat} {xs:List (List D)},E9 cs ds j=some xs->j∈Dx cs:=by
 intro cs
 induction cs with
 |nil=>intro ds j xs h;simp[E9]at h
 |cons c cs C=>
  intro ds j xs h
  cases ds with
  |nil=>cases c<;>simp[E9]at h
  |cons d ds=>
   cases c with
   |row i ver=>
    cases d with
    |sl J=>
     simp only[E9]at h
     split at h
     ·rename_i I;subst I;simp[Dx]
     ·simp only[Dx,qp];exact .inr (C h)
    |_=>simp only[E9]at h;simp only[Dx,qp];exact .inr (C h)
   |_=>simp only[E9]at h;simp only[Dx];exact C h
theorem Vq{h:Heap}:∀{cs:List SC} {ds C:List D},Y5 h cs ds C->∀i∈Dx cs,gT h i:=by
 intro cs
 induction cs with
 |nil=>intro ds C _ i I;simp[Dx]at I
 |cons c cs U=>
  intro ds C h i I
  cases c with
  |dat d=>obtain⟨es,J,_,_,_,h⟩:=h;exact U h i I
  |nil=>obtain⟨es,J,_,_,h⟩:=h;exact U h i I
  |row j ver=>
   obtain⟨e,sz,xs,xs',es,J,h1,h2,h3,h4,h5⟩:=h
   rcases qp.1 I with rfl|I
   ·exact⟨e,sz,xs,by rw[h1]⟩
   ·exact U h5 i I
  |bp _ _ _=>exact h.elim
  |rp _ _ _ _=>exact h.elim
  |clo _ _=>exact h.elim
  |old _ _ _=>exact h.elim
  |part _ _ _ _=>exact h.elim
  |exa _ _ _=>exact h.elim
theorem ZH{h:Heap}(hL:g.Q.L=Kz)(I:Inv base g h w []):∀{cs:List SC} {vs:List Value} {ds U:List D},aQ g h w cs vs->Y5 h cs ds U->(Dx cs).Nodup->
  ∃Fs,E1 w ds vs Fs/\Fs.flatten.Nodup/\(∀b∈Fs.flatten,base<=b/\Qu w b)/\(∀b∈Fs.flatten,∃i∈Dx cs,b∈LF g i)/\
   ∀(F0:List Nat) (w':World) (h':Heap),(∀b∈F0,(∃i∈Dx cs,b∈LF g i)->b∈Fs.flatten)->Frm F0 w w'->E1 w' U vs Fs->∀i∈Dx cs,∃ver e sz xs J,h i=(ver,.row e sz xs true)/\E9 cs U i=some J/\Ck base g h' w' i (.row e sz J true):=by
 intro cs
 induction cs with
 |nil=>
  rintro vs ds U hc ⟨rfl,rfl⟩ _
  exact⟨[],⟨hc,rfl⟩,jF,jF,jF,λF0 w' h' _ _ _ i hi=>by simp[Dx]at hi⟩
 |cons c cs ih=>
  intro vs ds U hc hm hn
  obtain⟨v,vs',rfl,h1,h2⟩:=hc
  have one:∀(d:D),(∃es C,ds=d::es/\U=d::C/\Y5 h cs es C)->Dx (c::cs)=Dx cs->(∀C j,E9 (c::cs) (d::C) j=E9 cs C j)->Rep w d v []->
    ∃Fs,E1 w ds (v::vs') Fs/\Fs.flatten.Nodup/\(∀b∈Fs.flatten,base<=b/\Qu w b)/\(∀b∈Fs.flatten,∃i∈Dx (c::cs),b∈LF g i)/\
     ∀(F0:List Nat) (w':World) (h':Heap),(∀b∈F0,(∃i∈Dx (c::cs),b∈LF g i)->b∈Fs.flatten)->Frm F0 w w'->E1 w' U (v::vs') Fs->∀i∈Dx (c::cs),∃ver e sz xs J,h i=(ver,.row e sz xs true)/\E9 (c::cs) U i=some J/\Ck base g h' w' i (.row e sz J true):=by
   rintro d ⟨es,C,rfl,rfl,hm'⟩ hids hdat hd
   rw[hids]at hn
   obtain⟨Fs,k1,k2,k3,k4,k5⟩:=ih h2 hm' hn
   refine⟨[]::Fs,⟨v,vs',[],Fs,rfl,rfl,hd,k1⟩,by simpa using k2,by simpa using k3,by rw[hids];simpa using k4,λF0 w' h' hin hF hr i hi=> ?_⟩
   obtain⟨u,us,G1,G2,e1,e2,e3,e4⟩:=hr
   simp only[List.cons.injEq]at e1 e2
   obtain⟨rfl,rfl⟩:=e1
   obtain⟨rfl,rfl⟩:=e2
   rw[hids]at hin hi
   obtain⟨ver,e,sz,xs,J,m1,m2,m3⟩:=k5 F0 w' h' (by simpa using hin) hF e4 i hi
   exact⟨ver,e,sz,xs,J,m1,by rw[hdat];exact m2,m3⟩
  cases c with
  |dat d=>
   obtain⟨es,C,hf,e1,e2,h3⟩:=hm
   obtain⟨F,r1,_⟩:=h1
   have:=Ho r1 hf
   subst this
   exact one d ⟨es,C,e1,e2,h3⟩ rfl (λ_ _=>rfl) r1
  |nil=>
   obtain⟨es,C,e1,e2,h3⟩:=hm
   exact one (.sl []) ⟨es,C,e1,e2,h3⟩ rfl (λ_ _=>rfl) (by rw[show v=.slice none 0 0 from h1];simp only[Rep];exact⟨none,0,0,rfl,rfl,qf _,.inl jF⟩)
  |row i ver=>
   obtain⟨e,sz,xs,J,es,C,hi,hxs,rfl,rfl,h3⟩:=hm
   simp only[Dx,List.nodup_cons]at hn
   have hv:v=g.val i:=h1.2.2 (by rw[hi]) e sz xs true (by rw[hi])
   subst hv
   have hdi:gT h i:=⟨e,sz,xs,by rw[hi]⟩
   obtain⟨Fi,t1,t2,t3,t4,t5⟩:=YD hL I hi
   obtain⟨Fs,k1,k2,k3,k4,k5⟩:=ih h2 h3 hn.2
   have t4':∀b∈Fi,b∈LF g i:=λb hb=>by unfold LF;rcases t4 b hb with x|x;(simp[x]);·simp[x]
   have apart:∀b∈LF g i,∀j∈Dx cs,b∉LF g j:=λb hb j hj=>Lh I (show i≠j from λe=>hn.1 (by rw[e];exact hj)) hdi (Vq h3 j hj) b hb
   refine⟨Fi::Fs,⟨_,vs',Fi,Fs,rfl,rfl,t1,k1⟩,?_,?_,?_,λF0 w' h' hin hF hr j hj=> ?_⟩
   ·rw[List.flatten_cons,qt];refine⟨t2,k2,?_⟩;rintro x hx y hy rfl;obtain⟨j,hj,hxj⟩:=k4 x hy;exact apart x (t4' x hx) j hj hxj
   ·intro b hb;rw[List.flatten_cons]at hb;rcases qP.1 hb with hb|hb;(exact t3 b hb);·exact k3 b hb
   ·intro b hb;simp only[Dx];rw[List.flatten_cons]at hb;rcases qP.1 hb with hb|hb;(exact⟨i,jF,t4' b hb⟩);·obtain⟨j,hj,hx⟩:=k4 b hb;exact⟨j,by simp[hj],hx⟩
   ·rw[List.flatten_cons]at hin
    have hr':Rep w' (.sl J) (g.val i) Fi/\E1 w' C vs' Fs:=by obtain⟨u,us,G1,G2,e1,e2,e3,e4⟩:=hr;simp only[List.cons.injEq]at e1 e2;obtain⟨rfl,rfl⟩:=e1;obtain⟨rfl,rfl⟩:=e2;exact⟨e3,e4⟩
    simp only[Dx,qp]at hj
    rcases hj with rfl|hj
    ·refine⟨ver,e,sz,xs,J,hi,by simp[E9],t5 F0 w' h' J hF (λb hb hb0=> ?_) hr'.1 hxs⟩
     have hbf:b∈LF g j:=by unfold LF;rcases hb with x|x;(simp[x]);·simp[x]
     have:=hin b hb0 ⟨j,by simp[Dx],hbf⟩
     rcases qP.1 this with h|h
     ·exact h
     ·obtain⟨j',hj',hx⟩:=k4 b h;exact absurd hx (apart b hbf j' hj')
    ·have hne:j≠i:=λe=>hn.1 (e ▸ hj)
     obtain⟨ver2,e2,sz2,ys,ys',m1,m2,m3⟩:=k5 F0 w' h' (λb hb0 hx=>by have:=hin b hb0 (by obtain⟨j',hj',hx⟩:=hx;exact⟨j',by simp[Dx,hj'],hx⟩);rcases qP.1 this with h|h;(obtain⟨j',hj',hx⟩:=hx;exact absurd hx (apart b (t4' b h) j' hj'));·exact h) hF hr'.2 j hj
     exact⟨ver2,e2,sz2,ys,ys',m1,by simp only[E9,if_neg hne];exact m2,m3⟩
  |bp _ _ _=>exact hm.elim
  |rp _ _ _ _=>exact hm.elim
  |clo _ _=>exact hm.elim
  |old _ _ _=>exact hm.elim
  |part _ _ _ _=>exact hm.elim
  |exa _ _ _=>exact hm.elim
theorem WO(oR:List Nat)(o:Nat×Fo)(j:Nat)(xs:Option (List (List D))):(mkObj oR o j xs).1=o.1:=by unfold mkObj;split;(rfl);·split<;>rfl
theorem QV{oR:List Nat}{o:Nat×Fo}{j:Nat}{xs:Option (List (List D))}{e:TypeId}{sz:Nat}{ys:List (List D)}{dp:Bool}(h:(mkObj oR o j xs).2=.row e sz ys dp):∃C,o.2=.row e sz C dp:=by unfold mkObj at h;split at h;(rename_i e' U C I J;cases h;exact⟨C,J⟩);·split at h;(exact⟨ys,h⟩);·cases h
theorem VW{oR:List Nat}{o:Nat×Fo}{j:Nat}{xs:Option (List (List D))}{t:TypeId}{cs:List SC}(h:(mkObj oR o j xs).2=.box t cs):o.2=.box t cs:=by unfold mkObj at h;split at h;(cases h);·split at h;(exact h);·cases h
theorem US{oR:List Nat}{o:Nat×Fo}{j:Nat}{xs:Option (List (List D))}(h:(mkObj oR o j xs).2≠ .none):o.2≠ .none:=by unfold mkObj at h;split at h;(rename_i C;rw[C];simp);·split at h;(exact h);·exact absurd rfl h
theorem XV{kt kh:List Nat}{cs:List SC}{vs:List Value}{ds I:List D}(R:lI P base w0 N g s a w [])(hc:aQ g s.h w cs vs)(hm:Y5 s.h cs ds I)(hn:(Dx cs).Nodup)
  (hkt:∀i∈kt,SV.clean base (s.t i))(hkh:∀i∈kh,Fo.clean base (s.h i).2)(hK:(∀b,¬w0.K b)/\w0.Q.lent=none/\w0.Q.L=Kz):
  ∃Fs,E1 w ds vs Fs/\Fs.flatten.Nodup/\(∀b∈Fs.flatten,Qu w b)/\∀w',E1 w' I vs Fs->Frm Fs.flatten w w'->lI P base w0 N g (Sd s kt kh cs I) a w' []:=by
 obtain⟨Fs,k1,k2,k3,k4,k5⟩:=ZH (R.lab.1.trans hK.2.2) R.inv hc hm hn
 refine⟨Fs,k1,k2,λb hb=>(k3 b hb).2,λw' hr hF=> ?_⟩
 have hdeep:=Vq hm
 have hbase:∀b∈Fs.flatten,base<=b:=λb hb=>(k3 b hb).1
 have hrow:∀i e sz xs dp,((Sd s kt kh cs I).h i).2=.row e sz xs dp->∃xs0 dp0,(s.h i).2=.row e sz xs0 dp0:=λi e sz xs dp hh=>by rw[L8]at hh;obtain⟨zs,hz⟩:=QV hh;exact⟨zs,dp,hz⟩
 have hbox:∀i t J,((Sd s kt kh cs I).h i).2=.box t J->∃cs1,(s.h i).2=.box t cs1:=λi t J hh=>by rw[L8]at hh;exact⟨_,VW hh⟩
 have hver:∀i,((Sd s kt kh cs I).h i).1=(s.h i).1:=λi=>by rw[L8];exact WO _ _ _ _
 have hcl:∀{c:SC} {v:Value},yT g s.h w c v->SC.clean base c->yT g (Sd s kt kh cs I).h w' c v:=λh1 h2=>Wt hF hbase R.inv.S_lt hver hrow hbox h1 h2
 have hcls:∀{J:List SC} {us:List Value},aQ g s.h w J us->(∀c∈J,SC.clean base c)->aQ g (Sd s kt kh cs I).h w' J us:=by
  intro J
  induction J with
  |nil=>intro us h _;exact h
  |cons c J ih=>
   rintro us ⟨v,vs',rfl,h1,h2⟩ C
   exact⟨v,vs',rfl,hcl h1 (C c jF),ih h2 λc' hc'=>C c' (by simp[hc'])⟩
 have hlv:∀i,live (Sd s kt kh cs I).h i->live s.h i:=λi hl=>by unfold live at*;rw[L8]at hl;exact US hl
 have hdp:∀i,gT (Sd s kt kh cs I).h i->gT s.h i:=by rintro i ⟨e,sz,xs,hh⟩;rw[L8]at hh;obtain⟨zs,hz⟩:=QV hh;exact⟨e,sz,zs,hz⟩
 refine⟨R.defers,R.size,R.bel ⟨hF.os,hF.tape,hF.output,hF.size,λk hk=>hF.out k (qw hk R.inv.base_le) λhm=>by have:=hbase k hm;omega⟩,
  ⟨R.q.1,R.q.2.1,λb hb=>by rw[hK.2.1]at hb;cases hb⟩,λb hb=>absurd hb (hK.1 b),⟨qg R.inv.base_le hF.size,R.inv.S_old,λb hb=>qw (R.inv.S_lt b hb) hF.size,λi=> ?_,λi b hl=>R.inv.mtb i b (hlv i hl),λi j b hne hi hj=>R.inv.inj i j b hne (hlv i hi) (hlv j hj),λi j hne hi hj=>R.inv.dis i j hne (hdp i hi) (hdp j hj),Co.nil _ _,jF,λ_ _ _ _=>by simp,R.inv.fb⟩,λt=> ?_,R.lab,λ_=>trivial⟩
 ·by_cases hi:i∈Dx cs
  ·obtain⟨ver,e,sz,xs,xs',m1,m2,m3⟩:=k5 Fs.flatten w' (Sd s kt kh cs I).h (λb hb _=>hb) hF hr i hi;rw[L8,m1,m2];exact m3
  ·have hnone:E9 cs I i=none:=by
    cases hx:E9 cs I i with
    |none=>rfl
    |some xs=>exact absurd (Wp hx) hi
   rw[L8,hnone]
   have hob:=R.inv.obj i
   by_cases hk:i∈kh
   ·have C:=hkh i hk
    have key:(mkObj kh (s.h i) i none).2=(s.h i).2:=by unfold mkObj;simp[hk]
    rw[key]
    cases hh:(s.h i).2 with
    |none=>trivial
    |pin j v u=>rw[hh]at C;exact C.elim
    |box t cells=>
     rw[hh]at hob C
     obtain⟨b,vals,h1,h2,h3,h4⟩:=hob
     have hl:live s.h i:=by unfold live;rw[hh];simp
     have hbF:b∉Fs.flatten:=by
      intro hm
      obtain⟨j,hj,hbj⟩:=k4 b hm
      have hdj:=hdeep j hj
      have hij:i≠j:=λe=>hi (e ▸ hj)
      unfold LF at hbj
      rcases qP.1 hbj with hx|hx
      ·exact R.inv.inj i j b hij hl (IW hdj) (by rw[h1];rfl) (by simpa using hx)
      ·have hob':=R.inv.obj j;obtain⟨e,sz,xs,hjr⟩:=hdj;rw[hjr]at hob';obtain⟨_,_,_,_,h4',_⟩:=hob';exact R.inv.mtb i b hl (by rw[h1];rfl) (h4' b hx)
     exact⟨b,vals,h1,h2,(hF.out b (F7 h3) hbF).trans h3,hcls h4 C⟩
    |row e sz xs dp=>
     rw[hh]at hob C
     have hdp':dp=true:=C
     subst hdp'
     have hdi:gT s.h i:=⟨e,sz,xs,hh⟩
     have hout:∀b∈LF g i,b∉Fs.flatten:=by intro b hb hm;obtain⟨j,hj,hbj⟩:=k4 b hm;exact Lh R.inv (show i≠j from λe=>hi (by rw[e];exact hj)) hdi (hdeep j hj) b hb hbj
     obtain⟨cells,h1,h2,h3,h4,h5⟩:=hob
     have hfp:∀b∈g.fp i,w'.heap[b]? =w.heap[b]? :=λb hb=>hF.out b (R.inv.S_lt b (h4 b hb)) (hout b (by unfold LF;simp[hb]))
     refine⟨cells,⟨h1.1,?_⟩,h2,h3.oR hfp,h4,λhd=>(h5 hd).oR hfp⟩
     rcases h1.2 with h6|⟨gg,cap,cur,h6,h7,h8,h9⟩
     ·exact .inl h6
     ·exact .inr ⟨gg,cap,cur,h6,h7,(hF.out gg (F7 h8) (hout gg (by unfold LF;rw[h6];simp[Dz]))).trans h8,h9⟩
   ·have key:(mkObj kh (s.h i) i none).2=.none:=by
     unfold mkObj
     simp[hk]
    rw[key];trivial
 ·rw[Za]
  by_cases ht:t∈kt
  ·simp only[ht,if_true]
   have U:=R.tmp t
   have C:=hkt t ht
   cases hx:s.t t with
   |unk=>trivial
   |undef=>rw[hx]at U;exact U
   |v ag J=>
    rw[hx]at U C
    cases ag with
    |false=>exact hcls U C
    |true=>obtain⟨us,h1,h2⟩:=U;exact⟨us,h1,hcls h2 C⟩
   |tup xs=>
    rw[hx]at U C
    obtain⟨us,h1,h2⟩:=U
    refine⟨us,h1,?_⟩
    revert h2 C
    generalize us.toList=vl
    intro C h2
    clear hx h1
    induction xs generalizing vl with
    |nil=>exact h2
    |cons x xs ih=>
     obtain⟨v,vs',rfl,q1,q2⟩:=h2
     refine⟨v,vs',rfl,?_,ih vs' (λy hy=>C y (by simp[hy])) q2⟩
     obtain⟨ag,cs1⟩:=x
     have hcx:=C (ag,cs1) jF
     cases ag with
     |false=>exact hcls q1 hcx
     |true=>obtain⟨us',r1,r2⟩:=q1;exact⟨us',r1,hcls r2 hcx⟩
  ·simp only[ht,if_false];trivial
theorem WB{Z:St->Prop}{kf:List Fr}{id n f x y d:Nat}{ops:Array Oper}{o:Oper}{asx:Array Operand}{ts:Array TypeId}{ag:Bool}{cs:List SC}{ds ds':List D}{k k':Int}{s1 s3:St}(kt kh:List Nat)
  (ho:ops.toList[n]? =some o)(hop:o.op=.call { callee:=.value (.func f),args:=asx,argTypes:=ts })(hg:o.guard=none)(has:asx.toList=[.tmp x,.tmp y])(hd:o.dst=some d)(hdN:d<N)
  (h1:En P (dJ P) N ops (ops.toList.take n) s (Is s1))(hx:s1.t x=.v ag cs)(hy:s1.t y=.v false [.dat (.int .i64 k)])(hc:tE P f ag ds ds' k k')(hok:Y5 s1.h cs ds ds')(hnd:(Dx cs).Nodup)
  (hkt:∀i∈kt,SV.clean base (s1.t i))(hkh:∀i∈kh,Fo.clean base (s1.h i).2)
  (h3:En P (dJ P) N ops (ops.toList.drop (n+1)) ((Sd s1 kt kh cs ds').Hg d (one (.int .i64 k'))) (Is s3))(hk:aft P base w0 N Z kf .normal s3)(hK:(∀b,¬w0.K b)/\w0.Q.lent=none/\w0.Q.L=Kz:=by exact⟨λ_ x=>x,rfl,rfl⟩):SW P base w0 N (.region id ops false) s (aft P base w0 N Z kf):=by
 intro a w R
 refine wp_region ?_
 have hlt:n<ops.toList.length:=(qd.1 ho).1
 have hoi:ops[n]? =some o:=by simpa using ho
 have hsz:ops.size=ops.toList.length:=by simp
 have htl:(ops.toList.take n).length=n:=by rw[qU];omega
 rw[List.range_eq_range',hsz,show ops.toList.length=(ops.toList.take n).length+((ops.toList.drop (n+1)).length+1)from by rw[htl,qV];omega]
 refine Sb _ (ops.toList.take n) 0 (by rw[htl];simp) R h1 λs' a' w' hs R'=> ?_
 rw[show s'=s1 from hs]at R'
 rw[htl,qo,List.range'_succ,wpOps_cons]
 have hmid:wpOp P ops (λe a' w'=>∃s',aft P base w0 N Z kf e s'/\Rel P base w0 N s' a' w') n (λa2 w2=>Rel P base w0 N ((Sd s1 kt kh cs ds').Hg d (one (.int .i64 k'))) a2 w2) a' w':=by
  obtain⟨g,R'⟩:=R'
  unfold wpOp
  simp only[hoi]
  rw[if_pos (by simp[Region.wanted,hg])]
  refine .inl ?_
  have hxv:=R'.tmp x
  rw[hx]at hxv
  have hyv:=R'.tmp y
  rw[hy]at hyv
  have hyv:=lB hyv
  have hvals:∃vs,aQ g s1.h w' cs vs/\(∀w2 Fs ds0,E1 w2 ds0 vs Fs->ZU w2 (a'.tmps.getD x undef) ag ds0 Fs)/\∀w2 Fs ds0,ZU w2 (a'.tmps.getD x undef) ag ds0 Fs->E1 w2 ds0 vs Fs:=by
   cases ag with
   |false=>exact⟨[a'.tmps.getD x undef],hxv,λ_ _ _ h=>h,λ_ _ _ h=>h⟩
   |true=>
    obtain⟨us,e1,e2⟩:=hxv
    rw[e1]
    refine⟨us.toList,e2,λ_ _ _ h=>⟨us,rfl,h⟩,λw2 Fs ds0 h=> ?_⟩
    obtain⟨us',e3,e4⟩:=h
    cases e3
    exact e4
  obtain⟨vs,v1,v2,v3⟩:=hvals
  obtain⟨Fs,m1,m2,m3,m4⟩:=XV (kt:=kt) (kh:=kh) R' v1 hok hnd hkt hkh hK
  unfold Oper.wp
  have has':asx= #[.tmp x,.tmp y]:=RY has
  have hrun:(execOp a'.eval o).run P w'=.ok (.enter f #[a'.tmps.getD x undef,.int .i64 k]) w':=by
   have e1:a'.eval (.tmp x)=a'.tmps.getD x undef:=tC a' x
   have e2:a'.eval (.tmp y)=.int .i64 k:=by rw[tC,hyv]
   subst has'
   simp only[execOp,hop,resolve,Deferred.ofValue,invoke]
   simp[Dn hc.1,Act.eval]at e1 e2⊢
   simp[e2]
  rw[hrun]
  unfold Oper.upon
  refine(hc.2 w' _ Fs (v2 _ _ _ m1) m2 m3).mono ?_
  rintro e w2 ⟨rfl,q2,q3⟩
  show Rel P base w0 N _ (a'.put o.dst (.int .i64 k')) w2
  rw[hd]
  have R2:=m4 w2 (v3 _ _ _ q2) q3
  have hput:ex P (put N (some d) (one (.int .i64 k'))) (Sd s1 kt kh cs ds') λτ=>τ=(Sd s1 kt kh cs ds').Hg d (one (.int .i64 k')):=by unfold put;simp only[hdN,if_true];rfl
  obtain⟨s4,r1,r2⟩:=DF R2 (v:=.int .i64 k') DM hput
  rw[r1]at r2
  exact⟨g,r2⟩
 refine wpOp_mono (λa2 w2 R2=> ?_) hmid
 have:=Qd (Q:=λe a' w'=>∃s',aft P base w0 N Z kf e s'/\Rel P base w0 N s' a' w') (ops.toList.drop (n+1)) (n+1) rfl R2 h3 λs' a' w' h1 h2=>⟨s',by rw[show s'=s3 from h1];exact hk,h2⟩
 exact this
end
end Go.Sh
namespace Go.Sh
theorem O1(d:D):Jq (.v false [.dat d])=d.flat:=rfl
theorem RB:MV.oR none=none:=rfl
theorem Tp(i:Nat):MV.oR (some (.top i))=some (.top i):=rfl
theorem TP:MV.oR (some .agg)=some .agg:=rfl
theorem U8(i z j o:Nat):MV.oR (some (.el i z j o))=some (.el i z j o):=rfl
theorem U7(o:Nat):MV.oR (some (.bx o))=some (.bx o):=rfl
theorem T4(i z j o:Nat):MV.oR (some (.sub i z j o))=none:=rfl
theorem QX(o n:Nat):MV.oR (some (.tops o n))=some (.tops o n):=rfl
theorem Y3:aAK true=.agg:=rfl
theorem YL:aAK false=.top 0:=rfl
theorem Ut(oR:List Nat)(v:Nat)(e:TypeId)(sz:Nat)(ys xs:List (List D))(dp:Bool)(j:Nat):mkObj oR (v,.row e sz ys dp) j (some xs)=(v,.row e sz xs dp):=rfl
theorem UT(oR:List Nat)(o:Nat×Fo)(j:Nat):mkObj oR o j none=if j∈oR then o else(o.1,.none):=by obtain⟨v,x⟩:=o;cases x<;>rfl
theorem Um(j:Nat)(o:Nat×Fo):mkObj [] o j none=(o.1,.none):=by obtain⟨v,x⟩:=o;cases x<;>rfl
theorem VD(i v:Nat)(cs:List SC)(xs:List (List D))(ds:List D)(j:Nat):E9 (.row i v::cs) (.sl xs::ds) j=if j=i then some xs else E9 cs ds j:=rfl
theorem VK(d e:D)(cs:List SC)(ds:List D)(j:Nat):E9 (.dat d::cs) (e::ds) j=E9 cs ds j:=rfl
theorem XB(e:D)(cs:List SC)(ds:List D)(j:Nat):E9 (.nil::cs) (e::ds) j=E9 cs ds j:=rfl
theorem VA(ds:List D)(j:Nat):E9 [] ds j=none:=rfl
theorem Ix(k:IntKind)(n:Int):strOf [[.int k n]]=bF [n]:=rfl
theorem HY{α:Type}{f:α->List D}{n:Nat}(j:∀x,(f x).length=n)(l:List α):∀x∈l.map f,x.length=n:=by intro x C;obtain⟨y,_,rfl⟩:=qx.1 C;exact j y
def aEj:=PLift.up (qI @UQ (qI @Sf (qI @wI.eq_1 (qI @ZZ (qI @XM (qI @V9 (qI @Zm (qI @Uj (qI @Yh.eq_1 (qI @Yh.eq_2 (qI @O1 (qI @RB (qI @Tp (qI @TP (qI @U8 (qI @U7 (qI @T4 (qI @QX (qI @MSt.Vr (qI @MSt.Wb (qI @MSt.Xb (qI @MSt.Vm (qI @MSt.Vx (qI @MSt.VO (qI @MSt.Y1 (qI @MSt.VI (qI @MSt.Vo (qI @R5 (qI @SE (qI @TG (qI Y3 (qI YL (qI @one.eq_1 (qI @List.set_cons_zero.{0} @List.set_cons_succ.{0}))))))))))))))))))))))))))))))))))
theorem ME:type_of% aEj.down:=aEj.down
def aG6:=PLift.up (qI @O1 (qI @RB (qI @Tp (qI @TP (qI @U8 (qI @U7 (qI @T4 (qI @QX (qI @MSt.Vr (qI @MSt.Wb (qI @MSt.Xb (qI @MSt.Vm (qI @MSt.Vx (qI @MSt.VO (qI @MSt.Y1 (qI @MSt.VI (qI @MSt.Vo (qI @R5 (qI @SE (qI @TG (qI Y3 (qI YL (qI @one.eq_1 (qI @List.set_cons_zero.{0} @List.set_cons_succ.{0}))))))))))))))))))))))))
theorem MF:type_of% aG6.down:=aG6.down
def aH2:=PLift.up (qI @Za (qI @L8 (qI @WU (qI @VX (qI @Tv (qI @Rh (qI @T9 (qI @VV (qI @Ut (qI @UT (qI @Um (qI @VD (qI @VK (qI @XB (qI @VA @Ra)))))))))))))))
theorem LX:type_of% aH2.down:=aH2.down
def KB:Int:=4611686018427387904
theorem yX{α:Type}(pre post:List α)(x:α):idx (pre++x::post) (pre.length:Int)=some x:=by unfold idx;rw[if_pos jD];simp
theorem yW{α:Type}(pre post:List α)(x y:α):List.set (pre++x::post) (pre.length:Int).toNat y=pre++y::post:=by simp
theorem DS{α:Type}{l:List α}{i:Nat}{x:α}(h:l[i]? =some x):idx l (i:Int)=some x:=by unfold idx;rw[if_pos jD];simpa using h
theorem wk{k:Int}(j:0<=k)(h:k<9223372036854775807):IntKind.i64.wrap (k+1)=k+1:=bI jD jD
theorem dk{a:Int}(h:0<=a):(decide (a<0))=false:=by simp;omega
theorem DR{α:Type}(pre post:List α)(x:α):(decide ((pre.length:Int)<((pre++x::post).length:Int)))=true:=by simp;omega
theorem Hm{α:Type}{l:List α}{i:Nat}{x:α}(h:l[i]? =some x):(decide ((i:Int)<(l.length:Int)))=true:=by have:=(qd.1 h).1;simp;omega
theorem KV{α:Type}{ML:Nat->Int->Int->List α->Option (List α×Int)}{HL:List α->Nat->Int->Int->Option Int}{c:α->Nat}{ok:α->Prop}
  (hstep:∀x,ok x->∀k:Int,0<=k->k+(c x:Nat)<=KB->∃C,(∀n (pre post:List α),(pre++x::post).length<=maxLen->ML (n+1) k pre.length (pre++x::post)=ML n (k+(c x:Nat)) ((pre.length+1:Nat):Int) (pre++C::post))/\
   ∀n (l:List α) (i:Nat),l[i]? =some C->l.length<=maxLen->HL l (n+1) k i=HL l n (k+(c x:Nat)) ((i+1:Nat):Int))
  (hend:∀n k (l:List α),ML (n+1) k l.length l=some (l,k))(hendH:∀n k (l:List α),HL l (n+1) k l.length=some k):
  ∀(j pre:List α) (n:Nat) (k:Int),(pre++j).length<=maxLen->j.length<n->(∀x∈j,ok x)->0<=k->k+(bA c j:Nat)<=KB->
   ∃I,I.length=j.length/\ML n k pre.length (pre++j)=some (pre++I,k+(bA c j:Nat))/\∀m,j.length<m->HL (pre++I) m k pre.length=some (k+(bA c j:Nat))
 |[],pre,n,k,U,hn,hx,h0,hB=>by refine⟨[],rfl,?_,λm hm=> ?_⟩;(obtain⟨n,rfl⟩:∃J,n=J+1:=⟨n-1,by simp at hn;omega⟩;have:=hend n k (pre++[]);simpa[bA]using this);·obtain⟨m,rfl⟩:∃J,m=J+1:=⟨m-1,by simp at hm;omega⟩;have:=hendH m k (pre++[]);simpa[bA]using this
 |x::j,pre,n,k,U,hn,hx,h0,hB=>by
  simp only[bA]at hB⊢
  obtain⟨n,rfl⟩:∃J,n=J+1:=⟨n-1,by simp at hn;omega⟩
  obtain⟨C,h1,h2⟩:=hstep x (hx x jF) k h0 jD
  obtain⟨I,k1,k2,k3⟩:=KV hstep hend hendH j (pre++[C]) n (k+(c x:Nat)) (by simpa using U) (by simp at hn;omega) (λy hy=>hx y (by simp[hy])) jD jD
  refine⟨C::I,by simp[k1],?_,λm hm=> ?_⟩
  ·rw[h1 n pre j U]
   have e:(pre++[C])++j=pre++C::j:=by simp
   rw[e]at k2
   have e2:((pre++[C]).length:Int)=((pre.length+1:Nat):Int):=by simp
   rw[e2]at k2
   rw[k2]
   simp only[qT,List.cons_append,List.nil_append,qb,qa,true_and]
   omega
  ·obtain⟨m,rfl⟩:∃J,m=J+1:=⟨m-1,by simp at hm;omega⟩
   rw[h2 m (pre++C::I) pre.length jF (by simp at U⊢;omega)]
   have:=k3 m (by simp at hm;omega)
   have e:(pre++[C])++I=pre++C::I:=by simp
   rw[e]at this
   have e2:((pre++[C]).length:Int)=((pre.length+1:Nat):Int):=by simp
   rw[e2]at this
   rw[this]
   simp only[qb]
   omega
theorem sR{α:Type}{c z:α->Nat}{A:Nat}:∀{xs:List α},(∀x∈xs,c x<=A+A*z x)->bA c xs<=A*(xs.length+bA z xs)
 |[],_=>by simp[bA]
 |x::xs,h=>by
  have h1:=h x jF
  have h2:=sR (xs:=xs) λy j=>h y (by simp[j])
  simp only[bA,qJ]
  rw[show A*(xs.length+1+(z x+bA z xs))=(A+A*z x)+A*(xs.length+bA z xs)from by simp only[Nat.mul_add];omega]
  omega
theorem JL{α:Type}{c:α->Nat}{A:Nat}:∀{xs:List α},(∀x∈xs,c x<=A)->bA c xs<=A*xs.length
 |[],_=>by simp[bA]
 |x::xs,h=>by
  have h1:=h x jF
  have h2:=JL (xs:=xs) λy j=>h y (by simp[j])
  simp only[bA,qJ,Nat.mul_add]
  omega
theorem Yt(n:Int):0<=IntKind.u8.wrap n/\IntKind.u8.wrap n<256:=by have h1:IntKind.u8.wrap n=n%256\/True:=.inr trivial;unfold IntKind.wrap;simp[IntKind.signed,IntKind.bits];omega
def MH{α:Type}(c:α->Nat)(ML:Nat->Int->Int->List α->Option (List α×Int))(HL:List α->Nat->Int->Int->Option Int)(x:α)(k:Int):Prop:=
 ∃j,(∀n (pre post:List α),(pre++x::post).length<=maxLen->ML (n+1) k pre.length (pre++x::post)=ML n (k+(c x:Nat)) ((pre.length+1:Nat):Int) (pre++j::post))/\
  ∀n (l:List α) (i:Nat),l[i]? =some j->l.length<=maxLen->HL l (n+1) k i=HL l n (k+(c x:Nat)) ((i+1:Nat):Int)
theorem MH.mk{α:Type}{c:α->Nat}{ML:Nat->Int->Int->List α->Option (List α×Int)}{HL:List α->Nat->Int->Int->Option Int}{x:α}{k:Int}(C:Int)(I:α)(e:C=k+(c x:Nat))
  (h1:∀n (pre post:List α),pre.length<9223372036854775807->ML (n+1) k pre.length (pre++x::post)=ML n C ((pre.length+1:Nat):Int) (pre++I::post))
  (h2:∀n (l:List α) (i:Nat),l[i]? =some I->i<9223372036854775807->HL l (n+1) k i=HL l n C ((i+1:Nat):Int)):MH c ML HL x k:=by
 subst e
 refine⟨I,λn pre post j=>h1 n pre post ?_,λn l i J j=>h2 n l i J ?_⟩
 ·have:=le_max j;simp at this;omega
 ·have:=le_max j;have:=(qd.1 J).1;omega
def MT{α:Type}(c:α->Nat)(ok:α->Prop)(ML:Nat->Int->Int->List α->Option (List α×Int))(HL:List α->Nat->Int->Int->Option Int):Prop:=∀x,ok x->∀k:Int,0<=k->k+(c x:Nat)<=KB->MH c ML HL x k
def MPS{α:Type}(c:α->Nat)(ok:α->Prop)(M:List α->Int->Option (List α×Int))(H:List α->Int->Option Int):Prop:=∀xs,(xs.length<=maxLen/\∀y∈xs,ok y)->∀k:Int,0<=k->k+(bA c xs:Nat)<=KB->∃j,M xs k=some (j,k+(bA c xs:Nat))/\H j k=some (k+(bA c xs:Nat))/\j.length=xs.length
theorem MT.all{α:Type}{c:α->Nat}{ok:α->Prop}{ML:Nat->Int->Int->List α->Option (List α×Int)}{HL:List α->Nat->Int->Int->Option Int}{M:List α->Int->Option (List α×Int)}{H:List α->Int->Option Int}(t:MT c ok ML HL)
  (e1:∀n k (l:List α),ML (n+1) k l.length l=some (l,k))(e2:∀n k (l:List α),HL l (n+1) k l.length=some k)(e3:∀l k,M l k=ML fuel k 0 l)(e4:∀l k,H l k=HL l fuel k 0):MPS c ok M H:=by
 intro J j k C I
 have hm:=le_max j.1
 obtain⟨U,h1,h2,h3⟩:=KV (c:=c) (ok:=ok) t e1 e2 J [] fuel k (by simpa using j.1) jI j.2 C I
 refine⟨U,?_,?_,jD⟩
 ·rw[e3];simpa using h2
 ·rw[e4];simpa using h3 fuel jI
theorem Vw{α σ R:Type}{xs:List α}{step:σ->α->σ}{I:Nat->σ->Prop}{E:σ->Option R}{L:Nat->Int->σ->Option R}
  (C:∀s (k:Nat) (hk:k<xs.length),I k s->I (k+1) (step s xs[k]))
  (h1:∀n s (k:Nat) (hk:k<xs.length),I k s->L (n+1) (k:Int) s=L n ((k+1:Nat):Int) (step s xs[k]))(h2:∀n s,I xs.length s->L (n+1) (xs.length:Int) s=E s):
  ∀(n k:Nat) (s:σ),xs.length-k<n->k<=xs.length->I k s->L n (k:Int) s=E ((xs.drop k).foldl step s)/\I xs.length ((xs.drop k).foldl step s)
 |0,k,s,J,_,_=>by omega
 |n+1,k,s,J,hk,j=>by
  rcases Nat.lt_or_ge k xs.length with h|h
  ·have U:=Vw C h1 h2 n (k+1) _ jD h (C s k h j);rw[h1 n s k h j,qW h,List.foldl_cons];exact U
  ·have:k=xs.length:=by omega
   subst this
   rw[h2 n s j]
   simpa using j
theorem QE{α σ R:Type}{xs:List α}{step:σ->α->σ}{I:Nat->σ->Prop}{E:σ->Option R}{L:Nat->Int->σ->Option R}(J:xs.length<=maxLen)
  (C:∀s (k:Nat) (hk:k<xs.length),I k s->I (k+1) (step s xs[k]))
  (h1:∀n s (k:Nat) (hk:k<xs.length),I k s->L (n+1) (k:Int) s=L n ((k+1:Nat):Int) (step s xs[k]))(h2:∀n s,I xs.length s->L (n+1) (xs.length:Int) s=E s)(s:σ)(j:I 0 s):
  L fuel 0 s=E (xs.foldl step s)/\I xs.length (xs.foldl step s):=by
 have U:=le_max J
 have:=Vw C h1 h2 fuel 0 s jI jD j
 simpa using this
theorem W5{α R:Type}{xs:List α}{f:α->Bool}{b:Nat}{E:List α->Option R}{L:Nat->Int->List α->Option R}(J:xs.length<=maxLen)(hb:xs.length*b<=140737488355328)
  (h1:∀n (r:List α) (k:Nat) (hk:k<xs.length),L (n+1) (k:Int) r=if f xs[k]=true then(app b r [xs[k]]).bind λ_=>L n ((k+1:Nat):Int) (r++[xs[k]])else L n ((k+1:Nat):Int) r)(h2:∀n r,L (n+1) (xs.length:Int) r=E r):
  L fuel 0 []=E (xs.filter f):=by
 have key:=QE (L:=λn k r=>L n k r) (step:=λr x=>if f x=true then r++[x]else r) (I:=λk r=>r.length<=k) (E:=E) J
  (λs k hk j=>by have C:s.length<=k:=j;split<;>(try simp only[qE,qJ,qK])<;>omega) (λn s k hk j=>by rw[h1 n s k hk];by_cases h:f xs[k]=true;(rw[if_pos h,if_pos h,eH,qA];simp only[qJ,qK];refine qg (qi b (show s.length+(0+1)<=xs.length by omega)) hb);·rw[if_neg h,if_neg h]) (λn s _=>h2 n s) [] jF
 have e:∀(l:List α) (r:List α),l.foldl (λr x=>if f x=true then r++[x]else r) r=r++l.filter f:=by
  intro l
  induction l with
  |nil=>intro r;simp
  |cons x l U=>
   intro r
   rw[List.foldl_cons,U,List.filter_cons]
   split<;>simp
 rw[key.1,e]
 simp
theorem Cm{α R:Type}{xs:List α}{b:Nat}{E:List α->Option R}{L:Nat->Int->List α->Option R}(j:xs.length<=1073741824)(hb:b<=65536)
  (h1:∀n (r:List α) (k:Nat) (hk:k<xs.length),L (n+1) (k:Int) r=(app b r [xs[k]]).bind λ_=>L n ((k+1:Nat):Int) (r++[xs[k]]))(h2:∀n r,L (n+1) (xs.length:Int) r=E r):
  L fuel 0 []=E xs:=by
 have:=W5 (xs:=xs) (f:=λ_=>true) (b:=b) (E:=E) (L:=L) jJ (qg (Nat.mul_le_mul j hb) jD) (λn r k hk=>by rw[if_pos rfl];exact h1 n r k hk) h2
 rw[this,List.filter_eq_self.2 (λ_ _=>rfl)]
theorem JX{α:Type}{b:Nat}{ys:List α}(h:ys.length<=1073741824)(hb:b<=65536):app b [] ys=some ys:=by rw[eH];(simp);·simp only[qK,qo];exact qg (Nat.mul_le_mul h hb) jD
def KO{α:Type}(b:Nat)(xs:List α)(i:Int)(ys:List α):Option (List α):=
 if 0<=i/\i.toNat<=xs.length/\0<ys.length/\(xs.length+ys.length)*b<=140737488355328 then some (xs.take i.toNat++(ys++xs.drop i.toNat))else none
theorem K5{α:Type}{b:Nat}{xs ys zs:List α}{i:Int}(h:KO b xs i ys=some zs):0<=i/\i.toNat<=xs.length/\0<ys.length/\(xs.length+ys.length)*b<=140737488355328:=by unfold KO at h;split at h;(assumption);·cases h
theorem MZ{α:Type}{b:Nat}{xs ys:List α}{i:Int}(h:0<=i/\i.toNat<=xs.length/\0<ys.length/\(xs.length+ys.length)*b<=140737488355328):KO b xs i ys=some (xs.take i.toNat++(ys++xs.drop i.toNat)):=by unfold KO;rw[if_pos h]
def aAY{α:Type}(xs:List α)(i j:Int):Option (List α):=if 0<=i/\i<=j/\j.toNat<=xs.length then some (xs.take i.toNat++xs.drop j.toNat)else none
theorem Lv{α:Type}{xs zs:List α}{i j:Int}(h:aAY xs i j=some zs):0<=i/\i<=j/\j.toNat<=xs.length:=by unfold aAY at h;split at h;(assumption);·cases h
theorem Ob{α:Type}{xs z:List α}{i:Int}(h:Ea xs i=some z):0<=i/\i.toNat<=xs.length:=by unfold Ea at h;split at h;(assumption);·cases h
theorem Qq{α:Type}{xs z:List α}{i:Int}(h:GR xs i=some z):0<=i/\i.toNat<=xs.length:=by unfold GR at h;split at h;(assumption);·cases h
section
variable {P:Program}{base N:Nat}{w0:W0}{Z:St->Prop}{k:List Fr}{s s':St}
theorem rn{id:Nat}{ops:Array Oper}(hk:aft P base w0 N Z k .normal s')(h:En P (dJ P) N ops ops.toList s (Is s'):=by(simp +decide only[E,reduceIte,Nat.reduceAdd,Nat.reduceMul,Int.reduceEq,Int.reduceLT,qB,qC,L,TB,EN, *,-h];exact Is.mk _)):SW P base w0 N (.region id ops false) s (aft P base w0 N Z k):=iT (h) hk
theorem rd(hm:P.follows .mixedOrders=true){id:Nat}{ops:Array Oper}(hk:aft P base w0 N Z k .normal s')(h:F6 P (dJ P) N ops ops.toList s [] (λt fps=>QT ops fps/\Is s' t):=by(simp +decide only[E,reduceIte,Nat.reduceAdd,Nat.reduceMul,Int.reduceEq,Int.reduceLT,qB,qC,L,TB,EN, *,-h];exact⟨.mk jH,Is.mk _⟩)):SW P base w0 N (.region id ops true) s (aft P base w0 N Z k):=K6 hm (h) hk
theorem rn1{X1:Prop}{id:Nat}{ops:Array Oper}(c1:X1)(hk:aft P base w0 N Z k .normal s')(h:X1->En P (dJ P) N ops ops.toList s (Is s'):=by(intro hc1;simp +decide only[E,reduceIte,Nat.reduceAdd,Nat.reduceMul,Int.reduceEq,Int.reduceLT,qB,qC,L,TB,EN, *,-h,-hc1];(try (first | refine⟨_,hc1,?_⟩| refine⟨hc1,?_⟩| refine⟨by(have hb:=zH hc1);simp[EN,qE,aR]at hb ⊢ <;> omega,?_⟩| refine⟨by(have hb:=sM hc1);simp[EN,qE,aR]at hb ⊢ <;> omega,?_⟩| (simp only[List.map_append,List.map_cons,List.map_nil,EN]at hc1;refine⟨_,hc1,?_⟩)| (simp only[List.map_append,List.map_cons,List.map_nil,EN, *,-h]at hc1;refine⟨_,hc1,?_⟩)));(try simp +decide only[E,reduceIte,Nat.reduceAdd,Nat.reduceMul,Int.reduceEq,Int.reduceLT,qB,qC,L,TB,EN, *,-h,-hc1]);exact Is.mk _)):SW P base w0 N (.region id ops false) s (aft P base w0 N Z k):=iT (h c1) hk
theorem rd1(hm:P.follows .mixedOrders=true){X1:Prop}{id:Nat}{ops:Array Oper}(c1:X1)(hk:aft P base w0 N Z k .normal s')(h:X1->F6 P (dJ P) N ops ops.toList s [] (λt fps=>QT ops fps/\Is s' t):=by(intro hc1;simp +decide only[E,reduceIte,Nat.reduceAdd,Nat.reduceMul,Int.reduceEq,Int.reduceLT,qB,qC,L,TB,EN, *,-h,-hc1];(try (first | refine⟨_,hc1,?_⟩| refine⟨hc1,?_⟩| refine⟨by(have hb:=zH hc1);simp[EN,qE,aR]at hb ⊢ <;> omega,?_⟩| refine⟨by(have hb:=sM hc1);simp[EN,qE,aR]at hb ⊢ <;> omega,?_⟩| (simp only[List.map_append,List.map_cons,List.map_nil,EN]at hc1;refine⟨_,hc1,?_⟩)| (simp only[List.map_append,List.map_cons,List.map_nil,EN, *,-h]at hc1;refine⟨_,hc1,?_⟩)));(try simp +decide only[E,reduceIte,Nat.reduceAdd,Nat.reduceMul,Int.reduceEq,Int.reduceLT,qB,qC,L,TB,EN, *,-h,-hc1]);exact⟨.mk jH,Is.mk _⟩)):SW P base w0 N (.region id ops true) s (aft P base w0 N Z k):=K6 hm (h c1) hk
theorem rn2{X1:Prop}{X2:Prop}{id:Nat}{ops:Array Oper}(c1:X1)(c2:X2)(hk:aft P base w0 N Z k .normal s')(h:X1->X2->En P (dJ P) N ops ops.toList s (Is s'):=by(intro hc1 hc2;simp +decide only[E,reduceIte,Nat.reduceAdd,Nat.reduceMul,Int.reduceEq,Int.reduceLT,qB,qC,L,TB,EN, *,-h,-hc1,-hc2];(try (first | refine⟨_,hc1,?_⟩| refine⟨hc1,?_⟩| refine⟨by(have hb:=zH hc1);simp[EN,qE,aR]at hb ⊢ <;> omega,?_⟩| refine⟨by(have hb:=sM hc1);simp[EN,qE,aR]at hb ⊢ <;> omega,?_⟩| (simp only[List.map_append,List.map_cons,List.map_nil,EN]at hc1;refine⟨_,hc1,?_⟩)| (simp only[List.map_append,List.map_cons,List.map_nil,EN, *,-h]at hc1;refine⟨_,hc1,?_⟩)));(try simp +decide only[E,reduceIte,Nat.reduceAdd,Nat.reduceMul,Int.reduceEq,Int.reduceLT,qB,qC,L,TB,EN, *,-h,-hc1,-hc2]);(try (first | refine⟨_,hc2,?_⟩| refine⟨hc2,?_⟩| refine⟨by(have hb:=zH hc2);simp[EN,qE,aR]at hb ⊢ <;> omega,?_⟩| refine⟨by(have hb:=sM hc2);simp[EN,qE,aR]at hb ⊢ <;> omega,?_⟩| (simp only[List.map_append,List.map_cons,List.map_nil,EN]at hc2;refine⟨_,hc2,?_⟩)| (simp only[List.map_append,List.map_cons,List.map_nil,EN, *,-h]at hc2;refine⟨_,hc2,?_⟩)));(try simp +decide only[E,reduceIte,Nat.reduceAdd,Nat.reduceMul,Int.reduceEq,Int.reduceLT,qB,qC,L,TB,EN, *,-h,-hc1,-hc2]);exact Is.mk _)):SW P base w0 N (.region id ops false) s (aft P base w0 N Z k):=iT (h c1 c2) hk
theorem rd2(hm:P.follows .mixedOrders=true){X1:Prop}{X2:Prop}{id:Nat}{ops:Array Oper}(c1:X1)(c2:X2)(hk:aft P base w0 N Z k .normal s')(h:X1->X2->F6 P (dJ P) N ops ops.toList s [] (λt fps=>QT ops fps/\Is s' t):=by(intro hc1 hc2;simp +decide only[E,reduceIte,Nat.reduceAdd,Nat.reduceMul,Int.reduceEq,Int.reduceLT,qB,qC,L,TB,EN, *,-h,-hc1,-hc2];(try (first | refine⟨_,hc1,?_⟩| refine⟨hc1,?_⟩| refine⟨by(have hb:=zH hc1);simp[EN,qE,aR]at hb ⊢ <;> omega,?_⟩| refine⟨by(have hb:=sM hc1);simp[EN,qE,aR]at hb ⊢ <;> omega,?_⟩| (simp only[List.map_append,List.map_cons,List.map_nil,EN]at hc1;refine⟨_,hc1,?_⟩)| (simp only[List.map_append,List.map_cons,List.map_nil,EN, *,-h]at hc1;refine⟨_,hc1,?_⟩)));(try simp +decide only[E,reduceIte,Nat.reduceAdd,Nat.reduceMul,Int.reduceEq,Int.reduceLT,qB,qC,L,TB,EN, *,-h,-hc1,-hc2]);(try (first | refine⟨_,hc2,?_⟩| refine⟨hc2,?_⟩| refine⟨by(have hb:=zH hc2);simp[EN,qE,aR]at hb ⊢ <;> omega,?_⟩| refine⟨by(have hb:=sM hc2);simp[EN,qE,aR]at hb ⊢ <;> omega,?_⟩| (simp only[List.map_append,List.map_cons,List.map_nil,EN]at hc2;refine⟨_,hc2,?_⟩)| (simp only[List.map_append,List.map_cons,List.map_nil,EN, *,-h]at hc2;refine⟨_,hc2,?_⟩)));(try simp +decide only[E,reduceIte,Nat.reduceAdd,Nat.reduceMul,Int.reduceEq,Int.reduceLT,qB,qC,L,TB,EN, *,-h,-hc1,-hc2]);exact⟨.mk jH,Is.mk _⟩)):SW P base w0 N (.region id ops true) s (aft P base w0 N Z k):=K6 hm (h c1 c2) hk
theorem rn3{X1:Prop}{X2:Prop}{X3:Prop}{id:Nat}{ops:Array Oper}(c1:X1)(c2:X2)(c3:X3)(hk:aft P base w0 N Z k .normal s')(h:X1->X2->X3->En P (dJ P) N ops ops.toList s (Is s'):=by(intro hc1 hc2 hc3;simp +decide only[E,reduceIte,Nat.reduceAdd,Nat.reduceMul,Int.reduceEq,Int.reduceLT,qB,qC,L,TB,EN, *,-h,-hc1,-hc2,-hc3];(try (first | refine⟨_,hc1,?_⟩| refine⟨hc1,?_⟩| refine⟨by(have hb:=zH hc1);simp[EN,qE,aR]at hb ⊢ <;> omega,?_⟩| refine⟨by(have hb:=sM hc1);simp[EN,qE,aR]at hb ⊢ <;> omega,?_⟩| (simp only[List.map_append,List.map_cons,List.map_nil,EN]at hc1;refine⟨_,hc1,?_⟩)| (simp only[List.map_append,List.map_cons,List.map_nil,EN, *,-h]at hc1;refine⟨_,hc1,?_⟩)));(try simp +decide only[E,reduceIte,Nat.reduceAdd,Nat.reduceMul,Int.reduceEq,Int.reduceLT,qB,qC,L,TB,EN, *,-h,-hc1,-hc2,-hc3]);(try (first | refine⟨_,hc2,?_⟩| refine⟨hc2,?_⟩| refine⟨by(have hb:=zH hc2);simp[EN,qE,aR]at hb ⊢ <;> omega,?_⟩| refine⟨by(have hb:=sM hc2);simp[EN,qE,aR]at hb ⊢ <;> omega,?_⟩| (simp only[List.map_append,List.map_cons,List.map_nil,EN]at hc2;refine⟨_,hc2,?_⟩)| (simp only[List.map_append,List.map_cons,List.map_nil,EN, *,-h]at hc2;refine⟨_,hc2,?_⟩)));(try simp +decide only[E,reduceIte,Nat.reduceAdd,Nat.reduceMul,Int.reduceEq,Int.reduceLT,qB,qC,L,TB,EN, *,-h,-hc1,-hc2,-hc3]);(try (first | refine⟨_,hc3,?_⟩| refine⟨hc3,?_⟩| refine⟨by(have hb:=zH hc3);simp[EN,qE,aR]at hb ⊢ <;> omega,?_⟩| refine⟨by(have hb:=sM hc3);simp[EN,qE,aR]at hb ⊢ <;> omega,?_⟩| (simp only[List.map_append,List.map_cons,List.map_nil,EN]at hc3;refine⟨_,hc3,?_⟩)| (simp only[List.map_append,List.map_cons,List.map_nil,EN, *,-h]at hc3;refine⟨_,hc3,?_⟩)));(try simp +decide only[E,reduceIte,Nat.reduceAdd,Nat.reduceMul,Int.reduceEq,Int.reduceLT,qB,qC,L,TB,EN, *,-h,-hc1,-hc2,-hc3]);exact Is.mk _)):SW P base w0 N (.region id ops false) s (aft P base w0 N Z k):=iT (h c1 c2 c3) hk
theorem ln{id:Nat}{ops:Array Oper}(hk:aft P base w0 N Z k .normal s')(h:En P (dJ P) N ops ops.toList s (Is s'):=by(simp +decide only[LX,E,reduceIte,Nat.reduceAdd,Nat.reduceMul,Int.reduceEq,Int.reduceLT,qB,qC,L,TB,EN, *,-h];exact Is.mk _)):SW P base w0 N (.region id ops false) s (aft P base w0 N Z k):=iT (h) hk
theorem ln1{X1:Prop}{id:Nat}{ops:Array Oper}(c1:X1)(hk:aft P base w0 N Z k .normal s')(h:X1->En P (dJ P) N ops ops.toList s (Is s'):=by(intro hc1;simp +decide only[LX,E,reduceIte,Nat.reduceAdd,Nat.reduceMul,Int.reduceEq,Int.reduceLT,qB,qC,L,TB,EN, *,-h,-hc1];(try (first | refine⟨_,hc1,?_⟩| refine⟨hc1,?_⟩| refine⟨by(have hb:=zH hc1);simp[EN,qE,aR]at hb ⊢ <;> omega,?_⟩| refine⟨by(have hb:=sM hc1);simp[EN,qE,aR]at hb ⊢ <;> omega,?_⟩| (simp only[List.map_append,List.map_cons,List.map_nil,EN]at hc1;refine⟨_,hc1,?_⟩)| (simp only[List.map_append,List.map_cons,List.map_nil,EN, *,-h]at hc1;refine⟨_,hc1,?_⟩)));(try simp +decide only[LX,E,reduceIte,Nat.reduceAdd,Nat.reduceMul,Int.reduceEq,Int.reduceLT,qB,qC,L,TB,EN, *,-h,-hc1]);exact Is.mk _)):SW P base w0 N (.region id ops false) s (aft P base w0 N Z k):=iT (h c1) hk
theorem ln2{X1:Prop}{X2:Prop}{id:Nat}{ops:Array Oper}(c1:X1)(c2:X2)(hk:aft P base w0 N Z k .normal s')(h:X1->X2->En P (dJ P) N ops ops.toList s (Is s'):=by(intro hc1 hc2;simp +decide only[LX,E,reduceIte,Nat.reduceAdd,Nat.reduceMul,Int.reduceEq,Int.reduceLT,qB,qC,L,TB,EN, *,-h,-hc1,-hc2];(try (first | refine⟨_,hc1,?_⟩| refine⟨hc1,?_⟩| refine⟨by(have hb:=zH hc1);simp[EN,qE,aR]at hb ⊢ <;> omega,?_⟩| refine⟨by(have hb:=sM hc1);simp[EN,qE,aR]at hb ⊢ <;> omega,?_⟩| (simp only[List.map_append,List.map_cons,List.map_nil,EN]at hc1;refine⟨_,hc1,?_⟩)| (simp only[List.map_append,List.map_cons,List.map_nil,EN, *,-h]at hc1;refine⟨_,hc1,?_⟩)));(try simp +decide only[LX,E,reduceIte,Nat.reduceAdd,Nat.reduceMul,Int.reduceEq,Int.reduceLT,qB,qC,L,TB,EN, *,-h,-hc1,-hc2]);(try (first | refine⟨_,hc2,?_⟩| refine⟨hc2,?_⟩| refine⟨by(have hb:=zH hc2);simp[EN,qE,aR]at hb ⊢ <;> omega,?_⟩| refine⟨by(have hb:=sM hc2);simp[EN,qE,aR]at hb ⊢ <;> omega,?_⟩| (simp only[List.map_append,List.map_cons,List.map_nil,EN]at hc2;refine⟨_,hc2,?_⟩)| (simp only[List.map_append,List.map_cons,List.map_nil,EN, *,-h]at hc2;refine⟨_,hc2,?_⟩)));(try simp +decide only[LX,E,reduceIte,Nat.reduceAdd,Nat.reduceMul,Int.reduceEq,Int.reduceLT,qB,qC,L,TB,EN, *,-h,-hc1,-hc2]);exact Is.mk _)):SW P base w0 N (.region id ops false) s (aft P base w0 N Z k):=iT (h c1 c2) hk
theorem ld2(hm:P.follows .mixedOrders=true){X1:Prop}{X2:Prop}{id:Nat}{ops:Array Oper}(c1:X1)(c2:X2)(hk:aft P base w0 N Z k .normal s')(h:X1->X2->F6 P (dJ P) N ops ops.toList s [] (λt fps=>QT ops fps/\Is s' t):=by(intro hc1 hc2;simp +decide only[LX,E,reduceIte,Nat.reduceAdd,Nat.reduceMul,Int.reduceEq,Int.reduceLT,qB,qC,L,TB,EN, *,-h,-hc1,-hc2];(try (first | refine⟨_,hc1,?_⟩| refine⟨hc1,?_⟩| refine⟨by(have hb:=zH hc1);simp[EN,qE,aR]at hb ⊢ <;> omega,?_⟩| refine⟨by(have hb:=sM hc1);simp[EN,qE,aR]at hb ⊢ <;> omega,?_⟩| (simp only[List.map_append,List.map_cons,List.map_nil,EN]at hc1;refine⟨_,hc1,?_⟩)| (simp only[List.map_append,List.map_cons,List.map_nil,EN, *,-h]at hc1;refine⟨_,hc1,?_⟩)));(try simp +decide only[LX,E,reduceIte,Nat.reduceAdd,Nat.reduceMul,Int.reduceEq,Int.reduceLT,qB,qC,L,TB,EN, *,-h,-hc1,-hc2]);(try (first | refine⟨_,hc2,?_⟩| refine⟨hc2,?_⟩| refine⟨by(have hb:=zH hc2);simp[EN,qE,aR]at hb ⊢ <;> omega,?_⟩| refine⟨by(have hb:=sM hc2);simp[EN,qE,aR]at hb ⊢ <;> omega,?_⟩| (simp only[List.map_append,List.map_cons,List.map_nil,EN]at hc2;refine⟨_,hc2,?_⟩)| (simp only[List.map_append,List.map_cons,List.map_nil,EN, *,-h]at hc2;refine⟨_,hc2,?_⟩)));(try simp +decide only[LX,E,reduceIte,Nat.reduceAdd,Nat.reduceMul,Int.reduceEq,Int.reduceLT,qB,qC,L,TB,EN, *,-h,-hc1,-hc2]);exact⟨.mk jH,Is.mk _⟩)):SW P base w0 N (.region id ops true) s (aft P base w0 N Z k):=K6 hm (h c1 c2) hk
theorem ct{t:Nat}{x y:Code}(h0:SW P base w0 N x s (aft P base w0 N Z k))(hb:s.t t = .v false [.dat (.bool true)]:=by(simp +decide only[F,reduceIte,Nat.reduceAdd,qB,qC,EN, *,-h])):SW P base w0 N (.cond (.tmp t) x y) s (aft P base w0 N Z k):=Fz hb h0
theorem cf{t:Nat}{x y:Code}(h0:SW P base w0 N y s (aft P base w0 N Z k))(hb:s.t t = .v false [.dat (.bool false)]:=by(simp +decide only[F,reduceIte,Nat.reduceAdd,qB,qC,EN, *,-h])):SW P base w0 N (.cond (.tmp t) x y) s (aft P base w0 N Z k):=Gb hb h0
theorem cu{c:Code}{Q:Exit->St->Prop}(J:St->Prop)(h0 : ∀s,J s->SW P base w0 N c s Q)(hj:J s:=by((repeat' (with_reducible refine⟨?_,?_⟩))<;>(first | trivial | (simp +decide only[F,reduceIte,Nat.reduceAdd,qB,qC,EN, *,-h])))):SW P base w0 N c s Q:=h0 s hj
theorem lct{t:Nat}{x y:Code}(h0:SW P base w0 N x s (aft P base w0 N Z k))(hb:s.t t = .v false [.dat (.bool true)]:=by(simp +decide only[LX,F,reduceIte,Nat.reduceAdd,qB,qC,EN, *,-h])):SW P base w0 N (.cond (.tmp t) x y) s (aft P base w0 N Z k):=Fz hb h0
theorem lcf{t:Nat}{x y:Code}(h0:SW P base w0 N y s (aft P base w0 N Z k))(hb:s.t t = .v false [.dat (.bool false)]:=by(simp +decide only[LX,F,reduceIte,Nat.reduceAdd,qB,qC,EN, *,-h])):SW P base w0 N (.cond (.tmp t) x y) s (aft P base w0 N Z k):=Gb hb h0
theorem lcu{c:Code}{Q:Exit->St->Prop}(J:St->Prop)(h0 : ∀s,J s->SW P base w0 N c s Q)(hj:J s:=by((repeat' (with_reducible refine⟨?_,?_⟩))<;>(first | trivial | (simp +decide only[LX,F,reduceIte,Nat.reduceAdd,qB,qC,EN, *,-h])))):SW P base w0 N c s Q:=h0 s hj
theorem ghB(b c K j:Nat){vb vj:Nat}{t:TypeId}{cells:List SC}{e:TypeId}{sz:Nat}{xs:List (List D)}{dp:Bool}(h0:s.h b=(vb,.box t cells):=by(simp +decide only[F,reduceIte,Nat.reduceAdd,qB,qC,EN, *,-h];rfl))(h1:cells[c]? = some (.row j vj):=by rfl)(h2:s.h j=(vj,.row e sz xs dp):=by(simp +decide only[F,reduceIte,Nat.reduceAdd,qB,qC,EN, *,-h];rfl))(hk:b≠K:=by decide):Gho P base w0 N s (((s.fK j (vj,.none)).fK K ((s.h K).1+1,.row e sz xs dp)).fK b (vb,.box t (cells.set c (.row K ((s.h K).1+1))))):=Gho.aAm h0 h1 h2 hk
theorem ghT(i K j:Nat){vj:Nat}{e:TypeId}{sz:Nat}{xs:List (List D)}{dp:Bool}(h1:s.t i = .v false [.row j vj]:=by(simp +decide only[F,reduceIte,Nat.reduceAdd,qB,qC,EN, *,-h];rfl))(h2:s.h j=(vj,.row e sz xs dp):=by(simp +decide only[F,reduceIte,Nat.reduceAdd,qB,qC,EN, *,-h];rfl)):Gho P base w0 N s (((s.fK j (vj,.none)).fK K ((s.h K).1+1,.row e sz xs dp)).Hg i (.v false [.row K ((s.h K).1+1)])):=Gho.aAW h1 h2
end
section
variable {P:Program}{c:MCx}{N:Nat}{Z:MSt->Prop}{k:List MFr}{s s':MSt}
theorem mrn{id:Nat}{ops:Array Oper}(hk:EP P c N Z k .normal s')(h:GG P (dJ P) N ops.toList s (MIs s'):=by(simp +decide only[ME,E,reduceIte,Nat.reduceAdd,Nat.reduceMul,Int.reduceEq,Int.reduceLT,qB,qC,L,TB,EN, *,-h];exact MIs.mk _)):MW P c N (.region id ops false) s (EP P c N Z k):=YU (h) hk
theorem FK{X1:Prop}{id:Nat}{ops:Array Oper}(c1:X1)(hk:EP P c N Z k .normal s')(h:X1->GG P (dJ P) N ops.toList s (MIs s'):=by(intro hc1;simp +decide only[ME,E,reduceIte,Nat.reduceAdd,Nat.reduceMul,Int.reduceEq,Int.reduceLT,qB,qC,L,TB,EN, *,-h,-hc1];(first | refine⟨_,_,hc1,?_⟩| refine⟨_,hc1,?_⟩| (simp only[EN]at hc1;refine⟨_,_,hc1,?_⟩));(try simp +decide only[ME,E,reduceIte,Nat.reduceAdd,Nat.reduceMul,Int.reduceEq,Int.reduceLT,qB,qC,L,TB,EN, *,-h,-hc1]);exact MIs.mk _)):MW P c N (.region id ops false) s (EP P c N Z k):=YU (h c1) hk
theorem mct{t:Nat}{x y:Code}(h0:MW P c N x s (EP P c N Z k))(hb:s.t t = .v false [.dat (.bool true)]:=by(simp +decide only[MF,F,reduceIte,Nat.reduceAdd,qB,qC,EN, *,-h])):MW P c N (.cond (.tmp t) x y) s (EP P c N Z k):=aBU hb h0
theorem mcf{t:Nat}{x y:Code}(h0:MW P c N y s (EP P c N Z k))(hb:s.t t = .v false [.dat (.bool false)]:=by(simp +decide only[MF,F,reduceIte,Nat.reduceAdd,qB,qC,EN, *,-h])):MW P c N (.cond (.tmp t) x y) s (EP P c N Z k):=aBO hb h0
theorem mcu{x:Code}{Q:Exit->MSt->Prop}(J:MSt->Prop)(h0 : ∀s,J s->MW P c N x s Q)(hj:J s:=by((repeat' (with_reducible refine⟨?_,?_⟩))<;>(first | trivial | (simp +decide only[MF,F,reduceIte,Nat.reduceAdd,qB,qC,EN, *,-h])))):MW P c N x s Q:=h0 s hj
theorem mcv{α:Type}{x:Code}{Q:Exit->MSt->Prop}(A B:Int)(E:α->List D)(l:List α)(h0 : ∀s,(s.t 0 = .unk/\s.m 0=some (.top 0)/\s.t 1 = .v false [.dat (.int .i64 A)]/\s.t 5 = .v false [.dat (.int .i64 B)]/\s.ds=[.sl (List.map E l)])->MW P c N x s Q)(hj:s.t 0 = .unk/\s.m 0=some (.top 0)/\s.t 1 = .v false [.dat (.int .i64 A)]/\s.t 5 = .v false [.dat (.int .i64 B)]/\s.ds=[.sl (List.map E l)]:=by((repeat' (with_reducible refine⟨?_,?_⟩))<;>(first | trivial | (simp +decide only[MF,F,reduceIte,Nat.reduceAdd,qB,qC,EN, *,-h])))):MW P c N x s Q:=h0 s hj
theorem mls{α R:Type}(E:α->List D){L:Nat->Int->Int->List α->Option R}{r:R}{x:Code}{p0:List α}{p1:Int}{n:Nat}(h:L n p1 0 p0=some r)(hz : ∀a b l,L 0 a b l=none)(hb : ∀m s v1 v5 l,(s.t 0 = .unk/\s.m 0=some (.top 0)/\s.t 1 = .v false [.dat (.int .i64 v1)]/\s.t 5 = .v false [.dat (.int .i64 v5)]/\s.ds=[.sl (List.map E l)])->L (m+1) v1 v5 l=some r->MW P c N x s (EP P c N Z (.inv (λs'=>∃m',m'<m+1 /\ ∃(v1 v5:Int) (l:List α),(s'.t 0 = .unk/\s'.m 0=some (.top 0)/\s'.t 1 = .v false [.dat (.int .i64 v1)]/\s'.t 5 = .v false [.dat (.int .i64 v5)]/\s'.ds=[.sl (List.map E l)])/\L m' v1 v5 l=some r)::k)))(hj:s.t 0 = .unk/\s.m 0=some (.top 0)/\s.t 1 = .v false [.dat (.int .i64 p1)]/\s.t 5 = .v false [.dat (.int .i64 0)]/\s.ds=[.sl (List.map E p0)]:=by((repeat' (with_reducible refine⟨?_,?_⟩))<;>(first | trivial | (simp +decide only[MF,F,reduceIte,Nat.reduceAdd,qB,qC,EN, *,-h])))):MW P c N (.loop x) s (EP P c N Z k):=by
 refine aAA (λm s=>∃(v1 v5:Int) (l:List α),(s.t 0 = .unk/\s.m 0=some (.top 0)/\s.t 1 = .v false [.dat (.int .i64 v1)]/\s.t 5 = .v false [.dat (.int .i64 v5)]/\s.ds=[.sl (List.map E l)])/\L m v1 v5 l=some r) n ⟨p1,0,p0,hj,h⟩ ?_
 rintro m s ⟨v1,v5,l,j,e⟩
 cases m with
 | zero =>
  rw[hz]at e
  cases e
 | succ m=>exact hb m s v1 v5 l j e
theorem mbe{α R:Type}{E:α->List D}{L:Nat->Int->Int->List α->Option R}{r:R}{m:Nat}(A B:Int)(l:List α)(h:L m A B l=some r)(hj:s.t 0 = .unk/\s.m 0=some (.top 0)/\s.t 1 = .v false [.dat (.int .i64 A)]/\s.t 5 = .v false [.dat (.int .i64 B)]/\s.ds=[.sl (List.map E l)]:=by((repeat' (with_reducible refine⟨?_,?_⟩))<;>(first | trivial | (simp +decide only[MF,F,reduceIte,Nat.reduceAdd,qB,qC,EN, *,-h])))):EP P c N Z (.inv (λs'=>∃m',m'<m+1 /\ ∃(v1 v5:Int) (l:List α),(s'.t 0 = .unk/\s'.m 0=some (.top 0)/\s'.t 1 = .v false [.dat (.int .i64 v1)]/\s'.t 5 = .v false [.dat (.int .i64 v5)]/\s'.ds=[.sl (List.map E l)])/\L m' v1 v5 l=some r)::k) .normal s:=aAb ⟨m,Nat.lt_succ_self m,A,B,l,hj,h⟩
theorem mfi{a b:Prop}(h:a/\b:=by(refine⟨?_,?_⟩<;>(try simp +decide only[MF,F,ME,reduceIte,Nat.reduceAdd,EN, *]))):a/\b:=h
end
open Go Go.RowKit Go.Lib
theorem I5{P:Program}(w:World)(dT sT ty elem:TypeId)(I:TypeInfo)(g o dLen dCap:Nat)(a:Addr)(sLen sCap:Nat)(cur:Array Value)(t:TypeId)(cs:List Value)
  (hu:P.underlying dT=some (.slice elem))(hs:P.info? elem=some I)(J:w.heap[g]? =some (.cells cur t (0,0)))(hn:cs.length=Nat.min sLen dLen*I.size)
  (hsrc:∀j v,cs[j]? =some v->w.cell? (a.add j)=some v)(hfit:o+cs.length<=cur.size)(h1:∀v∈cs,v.oneCell'=true):
  (Builtin.copy_ #[dT,sT] ty #[.slice (some ⟨g,o,none⟩) dLen dCap,.slice (some a) sLen sCap]).run P w=
   .ok (goInt (Nat.min sLen dLen)) (w.setRow g (cur.toList.take o++cs++cur.toList.drop (o+cs.length)).toArray):=by
 have U:=run_loadCells_list (P:=P) w a cs hsrc
 have C:=run_storeCells_at P g o t cs 0 cur w J (by simpa using hfit) h1
 simp[Builtin.copy_,run_underlying hu,Builtin.lenOf,Builtin.firstCells,sizeOf,typeInfo,hs,<-hn,U,C]
theorem QY{P:Program}(w:World){o:Oper}{a:Act}{K:Act->World->Prop}{Q:Exit->Act->World->Prop}(d s:Operand)(t t':TypeId)
  (ho:o.op=.call { callee:=.builtin .copy,args:= #[d,s],argTypes:= #[t,t'] })(v u:Value)(hd:a.eval d=v)(hs:a.eval s=u){v':Value}{w':World}
  (hr:(Builtin.copy_ #[t,t'] o.type #[v,u]).run P w=.ok v' w')(h:K (a.put o.dst v') w'):o.wp P a w K Q:=by
 unfold Oper.wp execOp
 simp only[ho,resolve,invoke,builtin,qs,qu,qh,List.map_toArray,List.map_cons,List.map_nil,hd,hs,hr]
 exact h
theorem tN{P:Program}(w:World){ops:Array Oper}{rest:List Oper}{o:Oper}{a:Act}{Q:Exit->Act->World->Prop}(hgd:o.guard=none)(d s:Operand)(t t':TypeId)
  (ho:o.op=.call { callee:=.builtin .copy,args:= #[d,s],argTypes:= #[t,t'] })(v u:Value)(hd:a.eval d=v)(hs:a.eval s=u){v':Value}{w':World}
  (hr:(Builtin.copy_ #[t,t'] o.type #[v,u]).run P w=.ok v' w')(h:wpList P ops Q rest (a.put o.dst v') w'):wpList P ops Q (o::rest) a w:=
 wpList_plain hgd λ_ hK=>QY w d s t t' ho v u hd hs hr (hK _ _ h)
theorem Ax{P:Program}{ops:Array Oper}{o:Oper}{a:Act}{w:World}{K:Act->World->Prop}{Q:Exit->Act->World->Prop}{E:Prop}
  (hg:o.guard=none)(d x:Operand)(dT sT:TypeId)(hop:o.op=Op.call { callee:=Callee.builtin Builtin.copy,args:= #[d,x],argTypes:= #[dT,sT] })
  (v u:Value)(hd:a.eval d=v)(hx:a.eval x=u){v':Value}{w':World}(hr:(Builtin.copy_ #[dT,sT] o.type #[v,u]).run P w=.ok v' w')(hK:K (a.put o.dst v') w'):
  if Region.wanted o (yielded ops a.tmps)=true then Oper.wp P o a w K Q else E:=by
 have hw:Region.wanted o (yielded ops a.tmps)=true:=by simp[Region.wanted,hg]
 rw[if_pos hw]
 unfold Oper.wp
 simp[execOp,hop,resolve,invoke,builtin,hd,hx,hr,Result.andThen]
 exact hK
theorem XS{cur:List Value}{cs vs:List Value}{n m c i sz:Nat}(hi:i<n)(hroom:n+m<=c)(C:cs.length=n*sz)(I:vs.length=m*sz)(hcur:cur.length=c*sz)(htk:cur.take (n*sz)=cs){j J:Array Value}
  (h1:j=(cur.take ((i+m)*sz)++cs.drop (i*sz)++cur.drop ((i+m)*sz+(cs.drop (i*sz)).length)).toArray)
  (h2:J=(j.toList.take (i*sz)++vs++j.toList.drop (i*sz+vs.length)).toArray):
  j.size=c*sz/\J.size=c*sz/\J.toList.take ((n+m)*sz)=cs.take (i*sz)++(vs++cs.drop (i*sz)):=by
 have e1:i*sz<=n*sz:=qi _ jD
 have e2:(i+m)*sz=i*sz+m*sz:=Nat.add_mul _ _ _
 have e3:(n+m)*sz=n*sz+m*sz:=Nat.add_mul _ _ _
 have e4:(n+m)*sz<=c*sz:=qi _ hroom
 have U:(cs.drop (i*sz)).length=n*sz-i*sz:=by rw[qV,C]
 have s1:j.size=c*sz:=by rw[h1];simp only[List.size_toArray,qE,qU,qV,hcur,C];omega
 have s2:J.size=c*sz:=by rw[h2];simp only[List.size_toArray,qE,qU,qV,qm,s1,I];omega
 refine⟨s1,s2,?_⟩
 have l1:(cur.take ((i+m)*sz)).length=(i+m)*sz:=by rw[qU,hcur];omega
 have p1:j.toList.take (i*sz)=cs.take (i*sz):=by rw[h1];simp only[qT];rw[List.take_append_of_le_length (by rw[l1];omega),List.take_take,<-htk,List.take_take];congr 1;omega
 have p2:j.toList.drop (i*sz+vs.length)=cs.drop (i*sz)++cur.drop ((i+m)*sz+(cs.drop (i*sz)).length):=by rw[h1];simp only[qT];rw[I,<-e2];exact List.drop_left' l1
 rw[h2,p1,p2]
 simp only[qT]
 have l2:(cs.take (i*sz)++(vs++cs.drop (i*sz))).length=(n+m)*sz:=by simp only[qE,qU,U,I,C];omega
 rw[<-qT vs,<-qT (cs.take (i*sz)),<-l2,List.take_left]
set_option maxRecDepth 20000
def aBV(P:Program)(ts C I k j:Nat):Prop:=P.underlying ts=some (.slice C)/\P.underlying I=some (.int .i64)/\∃z i,P.info? C=some i/\i.zero=some z/\i.size=k/\i.bytes=j/\z.cells.size=k
set_option maxHeartbeats 16000000 in
theorem SH{P:Program}{ts J ti k by0:Nat}(hT:aBV P ts J ti k by0)(hk:0<k)(b n c i vb m vc:Nat)(cs vs:List Value)(cur:Array Value)(w:World)(hi:i<n)(hm:0<m)(hroom:n+m<=c)(hc63:c<=9223372036854775807)(hvb:vb≠b)
  (hcl:cs.length=n*k)(hvl:vs.length=m*k)(hb:w.heap[b]? =some (.cells cur J (0,0)))(hcur:cur.size=c*k)(htk:cur.toList.take (n*k)=cs)(vcur:Array Value)(hv:w.heap[vb]? =some (.cells vcur J (0,0)))(hvtk:vcur.toList.take (m*k)=vs)
  (h1c:∀v∈cs,v.oneCell'=true)(h1v:∀v∈vs,v.oneCell'=true):∃C I,(∀ty U sc,(Builtin.copy_ #[ts,ts] ty #[.slice (some ⟨b,(i+m)*k,none⟩) (n+m-(i+m)) U,.slice (some ⟨b,i*k,none⟩) (n+m-i) sc]).run P w.drew=.ok (goInt (Nat.min (n+m-i) (n+m-(i+m)))) (w.drew.setRow b C))/\(∀ty U,(Builtin.copy_ #[ts,ts] ty #[.slice (some ⟨b,i*k,none⟩) (n+m-i) U,.slice (some ⟨vb,0,none⟩) m vc]).run P (w.drew.setRow b C)=.ok (goInt (Nat.min m (n+m-i))) ((w.drew.setRow b C).setRow b I))/\(∃A,A.toList.take ((n+m)*k)=cs.take (i*k)++(vs++cs.drop (i*k))/\A.size=c*k/\((w.drew.setRow b C).setRow b I).heap[b]? =some (.cells A J (0,0))/\w.grownBy ((w.drew.setRow b C).setRow b I) (some b)):=by
 have f1:=Nat.add_mul i m k
 have f2:=Nat.add_mul n m k
 have f3:=Nat.sub_mul n i k
 have f4:=qi k (Nat.le_of_lt hi)
 have f5:=qi k hroom
 obtain⟨u79,u3,ze,ie,hie,hze,hsz,hby,hzz⟩:=hT
 have hdl:(cs.drop (i*k)).length=(n-i)*k:=by rw[qV,hcl];omega
 obtain⟨C,hA1⟩:∃C,C=(cur.toList.take ((i+m)*k)++cs.drop (i*k)++cur.toList.drop ((i+m)*k+(cs.drop (i*k)).length)).toArray:=⟨_,rfl⟩
 have hcp1:∀ty U sc,(Builtin.copy_ #[ts,ts] ty #[.slice (some ⟨b,(i+m)*k,none⟩) (n+m-(i+m)) U,.slice (some ⟨b,i*k,none⟩) (n+m-i) sc]).run P w.drew=.ok (goInt (Nat.min (n+m-i) (n+m-(i+m)))) (w.drew.setRow b C):=λty U sc=>by
  rw[hA1]
  exact I5 w.drew ts ts ty J ie b ((i+m)*k) (n+m-(i+m)) U ⟨b,i*k,none⟩ (n+m-i) sc cur J (cs.drop (i*k)) u79 hie hb (by rw[hdl,hsz];congr 1;simp only[Nat.min_def];split<;>omega)
   (λj v hj=>by
    rw[Addr.add_lit]
    have hj':cs[i*k+j]? =some v:=by rwa [List.getElem?_drop]at hj
    have:cur.toList[i*k+j]? =some v:=by rw[<-htk,List.getElem?_take]at hj';split at hj';(exact hj');·cases hj'
    show w.cell? _=_
    simp[World.cell?,hb]
    simpa using this) (by rw[hdl];omega) (λv hv=>h1c v (qv hv))
 obtain⟨I,hA2⟩:∃I,I=(C.toList.take (i*k)++vs++C.toList.drop (i*k+vs.length)).toArray:=⟨_,rfl⟩
 obtain⟨s1,s2,s3⟩:=XS (cur:=cur.toList) (n:=n) (m:=m) (c:=c) hi hroom hcl hvl (by simpa using hcur) htk hA1 hA2
 have hbw:b<w.heap.size:=(ql.1 hb).1
 have hbA:(w.drew.setRow b C).heap[b]? =some (.cells C J (0,0)):=setRow_heap w.drew b cur C J _ hb
 have hbA2:((w.drew.setRow b C).drew.setRow b I).heap[b]? =some (.cells I J (0,0)):=setRow_heap _ b C I J _ hbA
 have hcp2:∀ty U,(Builtin.copy_ #[ts,ts] ty #[.slice (some ⟨b,i*k,none⟩) (n+m-i) U,.slice (some ⟨vb,0,none⟩) m vc]).run P (w.drew.setRow b C)=.ok (goInt (Nat.min m (n+m-i))) ((w.drew.setRow b C).setRow b I):=λty U=>by
  rw[hA2]
  exact I5 _ ts ts ty J ie b (i*k) (n+m-i) U ⟨vb,0,none⟩ m vc C J vs u79 hie hbA (by rw[hvl,hsz];congr 1;simp only[Nat.min_def];split<;>omega)
   (λj v hj=>by
    rw[Addr.add_lit]
    have:vcur.toList[j]? =some v:=by rw[<-hvtk,List.getElem?_take]at hj;split at hj;(exact hj);·cases hj
    have hv':(w.drew.setRow b C).heap[vb]? =some (.cells vcur J (0,0)):=(setRow_other w.drew b vb C hvb).trans hv
    simp only[World.cell?,hv',qo]
    simpa using this) (by rw[hvl,s1];omega) h1v
 have hfin:∃A,A.toList.take ((n+m)*k)=cs.take (i*k)++(vs++cs.drop (i*k))/\A.size=c*k/\((w.drew.setRow b C).setRow b I).heap[b]? =some (.cells A J (0,0))/\w.grownBy ((w.drew.setRow b C).setRow b I) (some b):=
  ⟨I,s3,s2,hbA2,⟨rfl,rfl,rfl,by simp[World.setRow],λk _ hk=>(setRow_other _ b k I (λe=>hk (by rw[e]))).trans (setRow_other _ b k C (λe=>hk (by rw[e])))⟩⟩
 exact⟨C,I,hcp1,hcp2,hfin⟩
set_option maxHeartbeats 16000000 in
theorem Se{P:Program}{ts U ti k by0:Nat}(hT:aBV P ts U ti k by0)(hk:0<k)(hy0:0<by0)(b n c i vb m vc:Nat)(cs vs:List Value)(cur:Array Value)(w:World)(hi:i<n)(hm:0<m)(hnc:n<=c)(hroom:c<n+m)(hbig:(n+m)*by0<=140737488355328)(hc63:c<=9223372036854775807)
  (hcl:cs.length=n*k)(hvl:vs.length=m*k)(hb:w.heap[b]? =some (.cells cur U (0,0)))(htk:cur.toList.take (n*k)=cs)(vcur:Array Value)(hv:w.heap[vb]? =some (.cells vcur U (0,0)))(hvtk:vcur.toList.take (m*k)=vs)
  (h1c:∀v∈cs,v.oneCell'=true)(h1v:∀v∈vs,v.oneCell'=true):∃G C I A2,n+m<=G/\G<=maxLen/\(∀ty,(Builtin.append_ #[ts,ti] ty #[.slice (some ⟨b,0,none⟩) i c,.int .i64 ((n:Int)+(m:Int)-(i:Int))]).run P w=.ok (.slice (some ⟨w.heap.size,0,none⟩) (n+m) G) C)/\(∀ty dc,(Builtin.copy_ #[ts,ts] ty #[.slice (some ⟨w.heap.size,i*k,none⟩) (n+m-i) dc,.slice (some ⟨vb,0,none⟩) m vc]).run P C=.ok (goInt (Nat.min m (n+m-i))) (C.setRow w.heap.size I))/\(∀ty dc sc,(Builtin.copy_ #[ts,ts] ty #[.slice (some ⟨w.heap.size,(i+m)*k,none⟩) (n+m-(i+m)) dc,.slice (some ⟨b,i*k,none⟩) (n-i) sc]).run P (C.setRow w.heap.size I).drew=.ok (goInt (Nat.min (n-i) (n+m-(i+m)))) ((C.setRow w.heap.size I).drew.setRow w.heap.size A2))/\(∃A,A.toList.take ((n+m)*k)=cs.take (i*k)++(vs++cs.drop (i*k))/\n+m<=G/\G<=maxLen/\A.size=G*k/\((C.setRow w.heap.size I).drew.setRow w.heap.size A2).heap[w.heap.size]? =some (.cells A U (0,0))/\w.grownBy ((C.setRow w.heap.size I).drew.setRow w.heap.size A2) none):=by
 have f1:=Nat.add_mul i m k
 have f2:=Nat.add_mul n m k
 have f3:=Nat.sub_mul n i k
 have f4:=qi k (Nat.le_of_lt hi)
 have f5:=qi k hnc
 have f6:n+m<=140737488355328:=qg (Nat.le_mul_of_pos_right _ hy0) hbig
 have f7:=qi by0 (Nat.sub_le (n+m) i)
 have f8:=Nat.sub_mul (n+m) i k
 have f9:=qi k (show i<=n+m by omega)
 obtain⟨u79,u3,ze,ie,hie,hze,hsz,hby,hzz⟩:=hT
 have hbw:b<w.heap.size:=(ql.1 hb).1
 have hvw:vb<w.heap.size:=(ql.1 hv).1
 have hkk:(n:Int)+(m:Int)-(i:Int)=((n+m-i:Nat):Int):=by omega
 have hik:i+(n+m-i)=n+m:=by omega
 have hcell:∀j v,cs[j]? =some v->w.cell? ⟨b,j,none⟩=some v:=λj v hj=>by rw[<-htk,List.getElem?_take]at hj;split at hj;(simp only[World.cell?,hb];simpa using hj);·cases hj
 have hvcell:∀j v,vs[j]? =some v->w.cell? ⟨vb,j,none⟩=some v:=λj v hj=>by rw[<-hvtk,List.getElem?_take]at hj;split at hj;(simp only[World.cell?,hv];simpa using hj);·cases hj
 have hold:(Builtin.firstCells ie.size i (.slice (some ⟨b,0,none⟩) i c)).run P w.drew=.ok (cs.take (i*k)).toArray w.drew:=by rw[hsz];exact run_firstCells_some w.drew k i ⟨b,0,none⟩ i c (cs.take (i*k)) (by rw[qU,hcl];omega) (λj v hj=>by rw[Addr.add_lit,qo];rw[List.getElem?_take]at hj;split at hj;(exact hcell j v hj);·cases hj)
 have hrz:∀ty,(Builtin.append_ #[ts,ti] ty #[.slice (some ⟨b,0,none⟩) i c,.int .i64 ((n:Int)+(m:Int)-(i:Int))]).run P w=
   .ok (.slice (some ⟨w.heap.size,0,none⟩) (n+m) (grownCap w (n+m) c U)) (w.drew.alloc (.cells ((cs.take (i*k)).toArray++Builtin.zeroCells ze.cells (n+m-i)++Builtin.zeroCells ze.cells (grownCap w (n+m) c U-(n+m))) U)):=λty=>by
  have h:=Lib.run_append_grow_zeros w ts ti ty U ie ze .i64 .i64 u79 u3 hie hze (some ⟨b,0,none⟩) i c (cs.take (i*k)) hold (n+m-i) jD jD jD jD (by rw[hby];omega) (by rw[hby,hik];exact growslice_fits hroom hbig)
  rw[hik]at h
  rw[hkk]
  exact h
 obtain⟨G,hG⟩:∃G,G=grownCap w (n+m) c U:=⟨_,rfl⟩
 have hGn:n+m<=G:=by rw[hG];exact grownCap_ge w _ _ _
 have f10:=Nat.sub_mul G (n+m) k
 have f11:=qi k hGn
 have hG63':G<=maxLen:=by rw[hG];exact grownCap_le_maxLen w (n+m) c U jJ
 have hG63:G<=9223372036854775807:=by have:=hG63';unfold maxLen at this;omega
 obtain⟨J,hROW⟩:∃J:Array Value,J=(cs.take (i*k)).toArray++Builtin.zeroCells ze.cells (n+m-i)++Builtin.zeroCells ze.cells (G-(n+m)):=⟨_,rfl⟩
 rw[<-hG,<-hROW]at hrz
 have hRs:J.size=G*k:=by rw[hROW];simp only[Array.size_append,List.size_toArray,qU,hcl,EC,hzz];omega
 have hRt:J.toList.take (i*k)=cs.take (i*k):=by
  rw[hROW]
  simp only[Array.toList_append,qT]
  have hl:(cs.take (i*k)).length=i*k:=by rw[qU,hcl];omega
  exact List.take_left' hl
 have hN:w.drew.heap.size=w.heap.size:=rfl
 obtain⟨C,hW1⟩:∃C,C=w.drew.alloc (.cells J U):=⟨_,rfl⟩
 have hW1b:C.heap[w.heap.size]? =some (.cells J U (0,0)):=by rw[hW1];show(w.drew.heap.push _)[w.drew.heap.size]? =_;exact Array.getElem?_push_size
 have hW1o:∀k,k<w.heap.size->C.heap[k]? =w.heap[k]? :=λk hk=>by rw[hW1];show(w.drew.heap.push _)[k]? =_;rw[Array.getElem?_push_lt (by exact hk)];exact(Array.getElem?_eq_getElem hk).symm
 rw[<-hW1]at hrz
 obtain⟨I,hA1⟩:∃I,I=(J.toList.take (i*k)++vs++J.toList.drop (i*k+vs.length)).toArray:=⟨_,rfl⟩
 have hA1s:I.size=G*k:=by rw[hA1];simp only[List.size_toArray,qE,qU,qV,qm,hRs,hvl];omega
 have hcpA:∀ty dc,(Builtin.copy_ #[ts,ts] ty #[.slice (some ⟨w.heap.size,i*k,none⟩) (n+m-i) dc,.slice (some ⟨vb,0,none⟩) m vc]).run P C=.ok (goInt (Nat.min m (n+m-i))) (C.setRow w.heap.size I):=λty dc=>by
  rw[hA1]
  exact I5 _ ts ts ty U ie w.heap.size (i*k) (n+m-i) dc ⟨vb,0,none⟩ m vc J U vs u79 hie hW1b (by rw[hvl,hsz];congr 1;simp only[Nat.min_def];split<;>omega)
   (λj v hj=>by rw[Addr.add_lit,qo];exact(World.cell?_of_block (w:=w) (w':=C) (a:=⟨vb,j,none⟩) (hW1o vb hvw)).trans (hvcell j v hj)) (by rw[hvl,hRs];omega) h1v
 have hA1b:(C.setRow w.heap.size I).heap[w.heap.size]? =some (.cells I U (0,0)):=setRow_heap C _ J I U _ hW1b
 obtain⟨A2,hA2⟩:∃A2,A2=(I.toList.take ((i+m)*k)++cs.drop (i*k)++I.toList.drop ((i+m)*k+(cs.drop (i*k)).length)).toArray:=⟨_,rfl⟩
 have hdl:(cs.drop (i*k)).length=(n-i)*k:=by rw[qV,hcl];omega
 have hA2s:A2.size=G*k:=by rw[hA2];simp only[List.size_toArray,qE,qU,qV,qm,hA1s,hcl];omega
 have hA2t:A2.toList.take ((n+m)*k)=cs.take (i*k)++(vs++cs.drop (i*k)):=by
  have hl:(cs.take (i*k)++vs).length=(i+m)*k:=by rw[qE,qU,hcl,hvl];omega
  have e1:I.toList.take ((i+m)*k)=cs.take (i*k)++vs:=by rw[hA1,hRt];exact List.take_left' hl
  rw[hA2,e1]
  have hl2:(cs.take (i*k)++vs++cs.drop (i*k)).length=(n+m)*k:=by rw[qE,hl,hdl];omega
  rw[<-qT]
  exact List.take_left' hl2
 have hcpB:∀ty dc sc,(Builtin.copy_ #[ts,ts] ty #[.slice (some ⟨w.heap.size,(i+m)*k,none⟩) (n+m-(i+m)) dc,.slice (some ⟨b,i*k,none⟩) (n-i) sc]).run P (C.setRow w.heap.size I).drew=.ok (goInt (Nat.min (n-i) (n+m-(i+m)))) ((C.setRow w.heap.size I).drew.setRow w.heap.size A2):=λty dc sc=>by
  rw[hA2]
  exact I5 _ ts ts ty U ie w.heap.size ((i+m)*k) (n+m-(i+m)) dc ⟨b,i*k,none⟩ (n-i) sc I U (cs.drop (i*k)) u79 hie hA1b (by rw[hdl,hsz];congr 1;simp only[Nat.min_def];split<;>omega)
   (λj v hj=>by
    rw[Addr.add_lit]
    have hj':cs[i*k+j]? =some v:=by rwa [List.getElem?_drop]at hj
    have h1:(C.setRow w.heap.size I).drew.heap[b]? =w.heap[b]? :=(setRow_other C w.heap.size b I jD).trans (hW1o b hbw)
    exact(World.cell?_of_block (w:=w) (a:=⟨b,i*k+j,none⟩) h1).trans (hcell _ v hj')) (by rw[hdl,hA1s];omega) (λv hv=>h1c v (qv hv))
 have hfin:∃A,A.toList.take ((n+m)*k)=cs.take (i*k)++(vs++cs.drop (i*k))/\n+m<=G/\G<=maxLen/\A.size=G*k/\((C.setRow w.heap.size I).drew.setRow w.heap.size A2).heap[w.heap.size]? =some (.cells A U (0,0))/\w.grownBy ((C.setRow w.heap.size I).drew.setRow w.heap.size A2) none:=by
  refine⟨A2,hA2t,hGn,hG63',hA2s,setRow_heap _ _ I A2 U _ hA1b,⟨?_,?_,?_,?_,λk hk _=> ?_⟩⟩
  ·rw[hW1];rfl
  ·rw[hW1];rfl
  ·rw[hW1];rfl
  ·have h1:C.heap.size=w.heap.size+1:=by
    rw[hW1]
    show(w.drew.heap.push _).size=_
    rw[Array.size_push];rfl
   have h2:((C.setRow w.heap.size I).drew.setRow w.heap.size A2).heap.size=C.heap.size:=(setRow_size _ _ _).trans (setRow_size C _ _)
   omega
  ·exact(setRow_other _ w.heap.size k A2 jD).trans ((setRow_other C w.heap.size k I jD).trans (hW1o k hk))
 exact⟨G,C,I,A2,hGn,hG63',hrz,hcpA,hcpB,hfin⟩
theorem WK{P:Program}{ts I ti k C:Nat}(hT:aBV P ts I ti k C)(hk:0<k)(hy0:0<C)(base b0 n m i:Nat)(v v2:Value)(cells cells2:List Value)(w:World)(hb:base<=w.heap.size)(hown:w.ownsRow base I k v n cells)(hown2:w.ownsRow base I k v2 m cells2)(hm:0<m)(hbig:(n+m)*C<=140737488355328)(h1v:∀u∈cells2,u.oneCell'=true):(∃J U,(∀ty,(Builtin.append_ #[ts,ts] ty #[v,v2]).run P w=.ok J U)/\Pr base I k w v (n+m) (cells++cells2) (.returned J) U):=by
 obtain⟨u79,u3,ze,ie,hie,hze,hsz,hby,hzz⟩:=hT
 have f6:n+m<=140737488355328:=qg (Nat.le_mul_of_pos_right _ hy0) hbig
 have hk0:=hk
 rcases hown2.2 with⟨_,h0⟩|⟨vb,vc,vcur,rfl,hv1,hv,hv3,hv4,hv5,hvtk⟩
 ·omega
 obtain⟨J,U,q1,q2,q3,q4,q5⟩:=run_append_own_at (P:=P) w base ts ts I ie ze k C u79 hie hze hsz hby (by rw[hzz]) jD v n cells hown ⟨vb,0,none⟩ m vc cells2 hown2.1
  (λj u hu=>by rw[Addr.add_lit,qo];have:=hown2.cellAt j (by rw[<-hown2.1];exact(qd.1 hu).1);rw[this];exact hu) h1v (by simp only[maxLen];omega) hbig hb
 exact⟨J,U,λty=>q1,J,rfl,q2,q3,q5.elim .inl λh=>.inr ⟨_,qf _,h⟩⟩
end Go.Sh
namespace Go.Sh
class aW (n:Nat) (T:outParam Prop):Prop where
 pf:T
theorem nns{α:Type}{r:α}{p:Prop}(h:none=some r):p:=by cases h
theorem aAM{α:Type}{b:Bool}{x y r:α}{G:Prop}(h:(if b=true then x else y)=r)(hb:b=true)(k:x=r->G):G:=k (bK hb h)
theorem aAo{α:Type}{b:Bool}{x y r:α}{G:Prop}(h:(if b=true then x else y)=r)(hb:b=false)(k:y=r->G):G:=k (bJ hb h)
theorem ZF{P:Program}{n:FuncId}{args:List (Bool×List D)}{T:Prop}{Q:List (Bool×List RC)->Prop}[c:aW n T](h:T->∃j,pH P n args j/\Q j):∃j,pH P n args j/\Q j:=h c.pf
def Hin(I:Nat->St->Prop):Prop:=True
theorem inv(I:Nat->St->Prop):Hin I:=trivial
def aI(x:Int):Bool×List D:=(false,[.int .i64 x])
def aB(x:Bool):Bool×List D:=(false,[.bool x])
def aS(x:ByteArray):Bool×List D:=(false,[.str x])
def aL{α:Type}(f:α->List D)(x:List α):Bool×List D:=(false,[.sl (List.map f x)])
def aX(x:List D):Bool×List D:=(true,x)
def cI(x:Int):SC:=.dat (.int .i64 x)
def cB(x:Bool):SC:=.dat (.bool x)
def cS(x:ByteArray):SC:=.dat (.str x)
def cL{α:Type}(f:α->List D)(x:List α):SC:=.dat (.sl (List.map f x))
def vI(x:Int):SV:=.v false [.dat (.int .i64 x)]
def vB(x:Bool):SV:=.v false [.dat (.bool x)]
def vS(x:ByteArray):SV:=.v false [.dat (.str x)]
def vL{α:Type}(f:α->List D)(x:List α):SV:=.v false [.dat (.sl (List.map f x))]
def vR(i ver:Nat):SV:=.v false [.row i ver]
def vP(i ver o:Nat):SV:=.v false [.bp i ver o]
def oX(t:TypeId)(l:List D):Fo:=.box t (l.map .dat)
def oB(t:TypeId)(l:List SC):Fo:=.box t l
def oW{α:Type}(e:TypeId)(z:Nat)(f:α->List D)(x:List α):Fo:=.row e z (List.map f x) true
def rI(x:Int):Bool×List RC:=(false,[.ro (.int .i64 x)])
def rB(x:Bool):Bool×List RC:=(false,[.ro (.bool x)])
def rS(x:ByteArray):Bool×List RC:=(false,[.ro (.str x)])
def rW{α:Type}(e:TypeId)(z:Nat)(f:α->List D)(x:List α):Bool×List RC:=(false,[.own e z (List.map f x)])
section
variable {P:Program}{base N:Nat}{w0:W0}{Z:St->Prop}{k:List Fr}{s:St}
theorem lpI{c:Code}{I:Nat->St->Prop}(i:Hin I)(n:Nat)(C:I n s)(h:∀m s,I m s->SW P base w0 N c s (aft P base w0 N Z (.inv (λs'=>∃j,j<m/\I j s')::k))):SW P base w0 N (.loop c) s (aft P base w0 N Z k):=GJ I n C h
inductive Mv where
 |t (i K:Nat) (e:TypeId) (sz:Nat)
 |b (b c K:Nat) (e:TypeId) (sz:Nat)
def aFj(ms:List Mv)(I:Nat->St->Prop):Prop:=True
theorem Mt(ms:List Mv)(I:Nat->St->Prop):aFj ms I:=trivial
def GX(P:Program)(base:Nat)(w0:W0)(N:Nat)(ms:List Mv)(s:St)(Q:St->Prop):Prop:=∃j,Gho P base w0 N s j/\Q j
section
variable {ms:List Mv}{Q:St->Prop}
theorem gx0(h:Q s):GX P base w0 N [] s Q:=⟨s,Gho.refl s,h⟩
theorem gx1{m:Mv}{s':St}(j:Gho P base w0 N s s')(h:GX P base w0 N ms s' Q):GX P base w0 N (m::ms) s Q:=by obtain⟨t,h1,h2⟩:=h;exact⟨t,Gho.trans j h1,h2⟩
theorem RZ{i K:Nat}{e:TypeId}{sz:Nat}(h:GX P base w0 N ms ((s.fK K ((s.h K).1+1,.row e sz [] true)).Hg i (.v false [.row K ((s.h K).1+1)])) Q)(h1:s.t i=.v false [.nil]):GX P base w0 N (.t i K e sz::ms) s Q:=gx1 (Gho.aCB e sz h1) h
theorem Sy{i K j vj:Nat}{e I:TypeId}{sz C:Nat}{xs:List (List D)}{dp:Bool}(h:GX P base w0 N ms (((s.fK j (vj,.none)).fK K ((s.h K).1+1,.row I C xs dp)).Hg i (.v false [.row K ((s.h K).1+1)])) Q)(h1:s.t i=.v false [.row j vj])(h2:s.h j=(vj,.row I C xs dp)):GX P base w0 N (.t i K e sz::ms) s Q:=gx1 (Gho.aAW h1 h2) h
theorem SP{b vb c K:Nat}{t:TypeId}{cells:List SC}{e:TypeId}{sz:Nat}(h:GX P base w0 N ms ((s.fK K ((s.h K).1+1,.row e sz [] true)).fK b (vb,.box t (cells.set c (.row K ((s.h K).1+1))))) Q)(j:s.h b=(vb,.box t cells))(h1:cells[c]? =some .nil)(hk:b≠K):GX P base w0 N (.b b c K e sz::ms) s Q:=gx1 (Gho.aBu e sz j h1 hk) h
theorem SK{b vb c j K vj:Nat}{t:TypeId}{cells:List SC}{e I:TypeId}{sz C:Nat}{xs:List (List D)}{dp:Bool}(h:GX P base w0 N ms (((s.fK j (vj,.none)).fK K ((s.h K).1+1,.row I C xs dp)).fK b (vb,.box t (cells.set c (.row K ((s.h K).1+1))))) Q)(J:s.h b=(vb,.box t cells))(h1:cells[c]? =some (.row j vj))(h2:s.h j=(vj,.row I C xs dp))(hk:b≠K):GX P base w0 N (.b b c K e sz::ms) s Q:=gx1 (Gho.aAm J h1 h2 hk) h
theorem lpM{c:Code}{I:Nat->St->Prop}(i:aFj ms I)(n:Nat)(J:GX P base w0 N ms s (I n))(h:∀m s,I m s->SW P base w0 N c s (aft P base w0 N Z (.inv (λs'=>GX P base w0 N ms s' (λj=>∃C,C<m/\I C j))::k))):SW P base w0 N (.loop c) s (aft P base w0 N Z k):=by obtain⟨s',h1,h2⟩:=J;exact Iz h1 (PR I n h2 h)
theorem aAs{m:Nat}{I:Nat->St->Prop}(h:GX P base w0 N ms s (λj=>∃C,C<m/\I C j)):aft P base w0 N Z (.inv (λJ=>GX P base w0 N ms J (λj=>∃C,C<m/\I C j))::k) .normal s:=h
end
theorem frb{c:Code}{Q:Exit->St->Prop}{vb vj:Nat}{t:TypeId}{cells:List SC}{e:TypeId}{sz:Nat}{xs:List (List D)}{dp:Bool}(b i j:Nat)(h:SW P base w0 N c ((s.fK j (vj,.none)).fK b (vb,.box t (cells.set i (.dat (.sl xs))))) Q)(h0:s.h b=(vb,.box t cells):=by(first | (simp +decide only[F,reduceIte,Nat.reduceAdd,qB,qC,EN, *,-h];rfl)| (simp +decide only[LN,LI,F,reduceIte,Nat.reduceAdd,qB,qC,EN, *,-h];rfl)))(h1:cells[i]? = some (.row j vj):=by rfl)(h2:s.h j=(vj,.row e sz xs dp):=by(first | (simp +decide only[F,reduceIte,Nat.reduceAdd,qB,qC,EN, *,-h];rfl)| (simp +decide only[LN,LI,F,reduceIte,Nat.reduceAdd,qB,qC,EN, *,-h];rfl))):SW P base w0 N c s Q:=Iz (Gho.aCZ h0 h1 h2) h
theorem frt{c:Code}{Q:Exit->St->Prop}{vj:Nat}{ag:Bool}{cs:List SC}{e:TypeId}{sz:Nat}{xs:List (List D)}{dp:Bool}(t i j:Nat)(h:SW P base w0 N c ((s.fK j (vj,.none)).Hg t (.v ag (cs.set i (.dat (.sl xs))))) Q)(h0:s.t t = .v ag cs:=by(first | (simp +decide only[F,reduceIte,Nat.reduceAdd,qB,qC,EN, *,-h];rfl)| (simp +decide only[LN,LI,F,reduceIte,Nat.reduceAdd,qB,qC,EN, *,-h];rfl)))(h1:cs[i]? = some (.row j vj):=by rfl)(h2:s.h j=(vj,.row e sz xs dp):=by(first | (simp +decide only[F,reduceIte,Nat.reduceAdd,qB,qC,EN, *,-h];rfl)| (simp +decide only[LN,LI,F,reduceIte,Nat.reduceAdd,qB,qC,EN, *,-h];rfl))):SW P base w0 N c s Q:=Iz (Gho.aCL h0 h1 h2) h
theorem rgK{id:Nat}{ops:Array Oper}(h:∀K:St->Prop,(∀t,aft P base w0 N Z k .normal t->K t)->En P (dJ P) N ops ops.toList s K):SW P base w0 N (.region id ops false) s (aft P base w0 N Z k):=Rm (h _ λ_ x=>x)
theorem rgD(C:P.follows .mixedOrders=true){id:Nat}{ops:Array Oper}(h:∀K:St->Prop,(∀t,aft P base w0 N Z k .normal t->K t)->F6 P (dJ P) N ops ops.toList s [] (λt j=>QT ops j/\K t)):SW P base w0 N (.region id ops true) s (aft P base w0 N Z k):=VL C (h (λt=>aft P base w0 N Z k .normal t) λ_ x=>x)
theorem aAL{α:Type}{b:Bool}{x y z:α}(h:(if b=true then x else y)=z):b=true/\x=z\/b=false/\y=z:=by cases b;(exact .inr ⟨rfl,by simpa using h⟩);·exact .inl ⟨rfl,by simpa using h⟩
theorem rz(h:Z s):aft P base w0 N Z [] .normal s:=h
def Yes(A:Prop)(b c:Bool):Prop:=b=c->A
theorem yes{A:Prop}{b c:Bool}(h:b=c->A):Yes A b c:=h
theorem cnd{t:Nat}{x y:Code}{b:Bool}(hb:s.t t=.v false [.dat (.bool b)])(h1:Yes (SW P base w0 N x s (aft P base w0 N Z k)) b true)(h2:Yes (SW P base w0 N y s (aft P base w0 N Z k)) b false):SW P base w0 N (.cond (.tmp t) x y) s (aft P base w0 N Z k):=So hb h1 h2
end
theorem sgo {P : Program} {f : FuncId} {fn : Func} {c : Code} {args : List (Bool × List D)} {rs : List (Bool × List RC)} (N : Nat) (vars : List ResultVar) (hf : P.funcs[f]? = some fn) (hb : fn.body = some c := by exact rfl) (hN : fn.ntmps = N := by exact rfl) (hv : fn.results.toList = vars := by exact rfl) (hnm : (fn.name == "runtime.NumGoroutine") = false := by decide +kernel) (hn : args.length <= N := by exact Nat.le_of_ble_eq_true rfl)
  (h : ∀(base:Nat) (w0:W0),SW P base w0 N c (init args) (aft P base w0 N (Ret (dJ P) vars rs) []):=by
 intro base wd
 (try simp only [EN])
 repeat' (first
  | (with_reducible refine an ?_)
  | (with_reducible refine sq ?_)
  | (with_reducible refine bk ?_)
  | (with_reducible refine ab ?_)
  | (with_reducible refine sk ?_)
  | (with_reducible refine xt ?_)
  | (with_reducible refine E2 ?_)
  | (with_reducible refine IA ?_)
  | ((with_reducible refine EW ?_);(try dsimp only at h))
  | (with_reducible refine aCM jG ?_)
  | ((with_reducible refine hK _ ?_);clear hK;clear K)
  | ((with_reducible refine rgK λK hK => ?_);simp +decide only [E,reduceIte,Nat.reduceAdd,Nat.reduceMul,Int.reduceEq,Int.reduceLT,qB,qC,<-List.map_take,<-List.map_drop,Nat.sub_zero,Ee,D7,L,TB,EN, *,-h,-hK])
  | ((with_reducible refine rgD mixed λK hK => ?_);simp +decide only [E,reduceIte,Nat.reduceAdd,Nat.reduceMul,Int.reduceEq,Int.reduceLT,qB,qC,<-List.map_take,<-List.map_drop,Nat.sub_zero,Ee,D7,L,TB,EN, *,-h,-hK])
  | ((with_reducible refine rt ?_);cases h;simp [Ret,TB,EN, *];done)
  | ((with_reducible refine rz ?_);cases h;simp [Ret,TB,EN, *];done)
  | (with_reducible refine And.intro (.mk jH) ?_)
  | ((with_reducible refine jX ⟨_,Nat.lt_add_one _,?_⟩);(repeat (with_reducible apply Exists.intro));(with_reducible refine And.intro ?_ h);(repeat' (with_reducible refine And.intro ?_ ?_));(all_goals first | (simp +decide only [F,reduceIte,Nat.reduceAdd,qB,qC,EN, *,-h];done) | (simp +decide only [F,reduceIte,Nat.reduceAdd,qB,qC,EN, *,-h];rfl) | rfl))
  | ((with_reducible refine aAs ?_);(repeat (first | (refine RZ ?_ jR) | (refine Sy ?_ jR jR) | (refine SP ?_ jR (by rfl) jG) | (refine SK ?_ jR (by rfl) jR jG)));refine gx0 ⟨_,Nat.lt_add_one _,?_⟩;(repeat (with_reducible apply Exists.intro));(with_reducible refine And.intro ?_ h);(repeat' (with_reducible refine And.intro ?_ ?_));(all_goals first | (simp +decide only [F,reduceIte,Nat.reduceAdd,qB,qC,EN, *,-h];done) | (simp +decide only [F,reduceIte,Nat.reduceAdd,qB,qC,EN, *,-h];rfl) | rfl))
  | (refine cnd (b:=_) (by (simp +decide only [F,reduceIte,Nat.reduceAdd,qB,qC,EN, *,-h]);exact rfl) ?_ ?_)
  | ((with_reducible refine yes λhb => ?_);(first | exact absurd hb jG | (replace h:=bK hb h) | (replace h:=bJ hb h) | clear hb))
  | ((with_reducible refine And.intro (by first | exact YR (Qq (by assumption)).1 | exact (YR (Qq (by assumption)).1).2) ?_);(try simp +decide only [E,reduceIte,Nat.reduceAdd,Nat.reduceMul,Int.reduceEq,Int.reduceLT,qB,qC,<-List.map_take,<-List.map_drop,Nat.sub_zero,Ee,D7,L,TB,EN, *,-h,-hK]))
  | (with_reducible exact nns h)
  | (obtain ⟨x,hb,h⟩:=bind_some h;(first | (obtain ⟨q1,q2,q3⟩:=aU hb;simp +decide only [E,reduceIte,Nat.reduceAdd,Nat.reduceMul,Int.reduceEq,Int.reduceLT,qB,qC,<-List.map_take,<-List.map_drop,Nat.sub_zero,Ee,D7,L,TB,EN, *,-h,-hK]) | (obtain ⟨q1,q2⟩:=Va hb;simp +decide only [E,reduceIte,Nat.reduceAdd,Nat.reduceMul,Int.reduceEq,Int.reduceLT,qB,qC,<-List.map_take,<-List.map_drop,Nat.sub_zero,Ee,D7,L,TB,EN, *,-h,-hK]) | (refine ZF λhC => ?_;(first | refine ⟨_,hC (h:=hb),?_⟩ | (have hc:=hC (h:=hb);simp only [List.map_append,List.map_cons,List.map_nil,List.map_set,EN] at hc;refine ⟨_,hc,?_⟩) | (have hc:=hC (h:=hb);simp only [List.map_append,List.map_cons,List.map_nil,List.map_set,EN, *,-h,-hK,-hC] at hc;refine ⟨_,hc,?_⟩));(try clear hC);(try simp +decide only [E,reduceIte,Nat.reduceAdd,Nat.reduceMul,Int.reduceEq,Int.reduceLT,qB,qC,<-List.map_take,<-List.map_drop,Nat.sub_zero,Ee,D7,L,TB,EN, *,-h,-hK])) | (refine ⟨_,hp1 _ _ hb,?_⟩;(try simp +decide only [E,reduceIte,Nat.reduceAdd,Nat.reduceMul,Int.reduceEq,Int.reduceLT,qB,qC,<-List.map_take,<-List.map_drop,Nat.sub_zero,Ee,D7,L,TB,EN, *,-h,-hK])) | (refine ⟨_,hp2 _ _ _ hb,?_⟩;(try simp +decide only [E,reduceIte,Nat.reduceAdd,Nat.reduceMul,Int.reduceEq,Int.reduceLT,qB,qC,<-List.map_take,<-List.map_drop,Nat.sub_zero,Ee,D7,L,TB,EN, *,-h,-hK])) | (refine ⟨Yg hb,?_⟩;(try simp +decide only [E,reduceIte,Nat.reduceAdd,Nat.reduceMul,Int.reduceEq,Int.reduceLT,qB,qC,<-List.map_take,<-List.map_drop,Nat.sub_zero,Ee,D7,L,TB,EN, *,-h,-hK])) | (refine ⟨Lg hb,?_⟩;(try simp +decide only [E,reduceIte,Nat.reduceAdd,Nat.reduceMul,Int.reduceEq,Int.reduceLT,qB,qC,<-List.map_take,<-List.map_drop,Nat.sub_zero,Ee,D7,L,TB,EN, *,-h,-hK])) | (refine ⟨by (have hb:=zH hb;first | (simp [EN,qE,aR] at hb ⊢ <;> omega) | (simp [EN,Tf,W8,qE,aR,<-List.map_take,<-List.map_drop,-List.map_take,-List.map_drop] at hb ⊢ <;> omega)),?_⟩;(try simp +decide only [E,reduceIte,Nat.reduceAdd,Nat.reduceMul,Int.reduceEq,Int.reduceLT,qB,qC,<-List.map_take,<-List.map_drop,Nat.sub_zero,Ee,D7,L,TB,EN, *,-h,-hK])) | (refine ⟨by (have hb:=sM hb;simp [EN,qE,aR] at hb ⊢ <;> omega),?_⟩;(try simp +decide only [E,reduceIte,Nat.reduceAdd,Nat.reduceMul,Int.reduceEq,Int.reduceLT,qB,qC,<-List.map_take,<-List.map_drop,Nat.sub_zero,Ee,D7,L,TB,EN, *,-h,-hK])) | (have hb:=Xv hb;refine ⟨hb,?_⟩;(try simp +decide only [E,reduceIte,Nat.reduceAdd,Nat.reduceMul,Int.reduceEq,Int.reduceLT,qB,qC,<-List.map_take,<-List.map_drop,Nat.sub_zero,Ee,D7,L,TB,EN, *,-h,-hK])) | (refine ⟨by first | exact Pe (λ_=>rfl) hb | exact O4 (λ_=>rfl) hb | exact Lc (λ_=>rfl) hb | exact And.right (Pe (λ_=>rfl) hb) | exact And.right (O4 (λ_=>rfl) hb) | exact And.right (Lc (λ_=>rfl) hb) | exact And.right (And.right (Lc (λ_=>rfl) hb)) | exact Ob hb | exact Qq hb | exact (Ob hb).2 | exact (Qq hb).2,?_⟩;(try simp +decide only [E,reduceIte,Nat.reduceAdd,Nat.reduceMul,Int.reduceEq,Int.reduceLT,qB,qC,<-List.map_take,<-List.map_drop,Nat.sub_zero,Ee,D7,L,TB,EN, *,-h,-hK])) | (with_reducible refine And.intro (by first | (have hb:=K5 hb;simp [EN,qE,aR] at hb ⊢ <;> omega) | (have hb:=Lv hb;simp [EN,qE,aR] at hb ⊢ <;> omega)) ?_;(try simp +decide only [E,reduceIte,Nat.reduceAdd,Nat.reduceMul,Int.reduceEq,Int.reduceLT,qB,qC,<-List.map_take,<-List.map_drop,Nat.sub_zero,Ee,D7,L,TB,EN, *,-h,-hK])) | (refine ZF λhC => ?_;refine ⟨_,hC _,?_⟩;(try simp +decide only [E,reduceIte,Nat.reduceAdd,Nat.reduceMul,Int.reduceEq,Int.reduceLT,qB,qC,<-List.map_take,<-List.map_drop,Nat.sub_zero,Ee,D7,L,TB,EN, *,-h,-hK]);with_reducible refine And.intro (by first | (have hb:=K5 hb;simp [EN,qE,aR] at hb ⊢ <;> omega) | (have hb:=Lv hb;simp [EN,qE,aR] at hb ⊢ <;> omega)) ?_;(try simp +decide only [E,reduceIte,Nat.reduceAdd,Nat.reduceMul,Int.reduceEq,Int.reduceLT,qB,qC,<-List.map_take,<-List.map_drop,Nat.sub_zero,Ee,D7,L,TB,EN, *,-h,-hK])) | ((first | have hb2:=Lv hb | have hb2:=K5 hb);refine ZF λhC => ?_;refine ⟨_,hC _,?_⟩;simp +decide only [E,reduceIte,Nat.reduceAdd,Nat.reduceMul,Int.reduceEq,Int.reduceLT,qB,qC,<-List.map_take,<-List.map_drop,Nat.sub_zero,Ee,D7,L,TB,EN, *,-h,-hK];clear hC;clear hb2)))
  | (refine aAo h ?_ λh => ?_;focus (simp only [qB,qC, *,-h];done))
  | (refine aAM h ?_ λh => ?_;focus (simp only [qB,qC, *,-h];done))
  | (revert hK;intro hK;(rcases aAL h with ⟨hb,h⟩ | ⟨hb,h⟩)<;>simp +decide only [E,reduceIte,Nat.reduceAdd,Nat.reduceMul,Int.reduceEq,Int.reduceLT,qB,qC,<-List.map_take,<-List.map_drop,Nat.sub_zero,Ee,D7,L,TB,EN, *,-h,-hK])
  | ((with_reducible apply lpI (i1 ..) fuel);(· ((repeat (with_reducible apply Exists.intro));(with_reducible refine And.intro ?_ h);(repeat' (with_reducible refine And.intro ?_ ?_));(all_goals first | (simp +decide only [F,reduceIte,Nat.reduceAdd,qB,qC,EN, *,-h];done) | (simp +decide only [F,reduceIte,Nat.reduceAdd,qB,qC,EN, *,-h];rfl) | rfl)));clear i1;intro m s1 hI;clear h;(repeat (obtain ⟨v,hI⟩:=hI));have h:=hI;clear hI;rcases m with _ | m;(· cases (show none=some _ from h));(simp only [e1] at h))
  | ((with_reducible apply lpI (i2 ..) fuel);(· ((repeat (with_reducible apply Exists.intro));(with_reducible refine And.intro ?_ h);(repeat' (with_reducible refine And.intro ?_ ?_));(all_goals first | (simp +decide only [F,reduceIte,Nat.reduceAdd,qB,qC,EN, *,-h];done) | (simp +decide only [F,reduceIte,Nat.reduceAdd,qB,qC,EN, *,-h];rfl) | rfl)));clear i2;intro m s1 hI;clear h;(repeat (obtain ⟨v,hI⟩:=hI));have h:=hI;clear hI;rcases m with _ | m;(· cases (show none=some _ from h));(simp only [e2] at h))
  | ((with_reducible apply lpI (i3 ..) fuel);(· ((repeat (with_reducible apply Exists.intro));(with_reducible refine And.intro ?_ h);(repeat' (with_reducible refine And.intro ?_ ?_));(all_goals first | (simp +decide only [F,reduceIte,Nat.reduceAdd,qB,qC,EN, *,-h];done) | (simp +decide only [F,reduceIte,Nat.reduceAdd,qB,qC,EN, *,-h];rfl) | rfl)));clear i3;intro m s1 hI;clear h;(repeat (obtain ⟨v,hI⟩:=hI));have h:=hI;clear hI;rcases m with _ | m;(· cases (show none=some _ from h));(simp only [e3] at h))
  | ((with_reducible apply lpI (i4 ..) fuel);(· ((repeat (with_reducible apply Exists.intro));(with_reducible refine And.intro ?_ h);(repeat' (with_reducible refine And.intro ?_ ?_));(all_goals first | (simp +decide only [F,reduceIte,Nat.reduceAdd,qB,qC,EN, *,-h];done) | (simp +decide only [F,reduceIte,Nat.reduceAdd,qB,qC,EN, *,-h];rfl) | rfl)));clear i4;intro m s1 hI;clear h;(repeat (obtain ⟨v,hI⟩:=hI));have h:=hI;clear hI;rcases m with _ | m;(· cases (show none=some _ from h));(simp only [e4] at h))
  | ((with_reducible apply lpI (i5 ..) fuel);(· ((repeat (with_reducible apply Exists.intro));(with_reducible refine And.intro ?_ h);(repeat' (with_reducible refine And.intro ?_ ?_));(all_goals first | (simp +decide only [F,reduceIte,Nat.reduceAdd,qB,qC,EN, *,-h];done) | (simp +decide only [F,reduceIte,Nat.reduceAdd,qB,qC,EN, *,-h];rfl) | rfl)));clear i5;intro m s1 hI;clear h;(repeat (obtain ⟨v,hI⟩:=hI));have h:=hI;clear hI;rcases m with _ | m;(· cases (show none=some _ from h));(simp only [e5] at h))
  | ((with_reducible apply lpI (i6 ..) fuel);(· ((repeat (with_reducible apply Exists.intro));(with_reducible refine And.intro ?_ h);(repeat' (with_reducible refine And.intro ?_ ?_));(all_goals first | (simp +decide only [F,reduceIte,Nat.reduceAdd,qB,qC,EN, *,-h];done) | (simp +decide only [F,reduceIte,Nat.reduceAdd,qB,qC,EN, *,-h];rfl) | rfl)));clear i6;intro m s1 hI;clear h;(repeat (obtain ⟨v,hI⟩:=hI));have h:=hI;clear hI;rcases m with _ | m;(· cases (show none=some _ from h));(simp only [e6] at h))
  | ((with_reducible apply lpM (i1 ..) fuel);(· ((repeat (first | (refine RZ ?_ jR) | (refine Sy ?_ jR jR) | (refine SP ?_ jR (by rfl) jG) | (refine SK ?_ jR (by rfl) jR jG)));refine gx0 ?_;(repeat (with_reducible apply Exists.intro));(with_reducible refine And.intro ?_ h);(repeat' (with_reducible refine And.intro ?_ ?_));(all_goals first | (simp +decide only [F,reduceIte,Nat.reduceAdd,qB,qC,EN, *,-h];done) | (simp +decide only [F,reduceIte,Nat.reduceAdd,qB,qC,EN, *,-h];rfl) | rfl)));clear i1;intro m s1 hI;clear h;(repeat (obtain ⟨v,hI⟩:=hI));have h:=hI;clear hI;rcases m with _ | m;(· cases (show none=some _ from h));(simp only [e1] at h))
  | ((with_reducible apply lpM (i2 ..) fuel);(· ((repeat (first | (refine RZ ?_ jR) | (refine Sy ?_ jR jR) | (refine SP ?_ jR (by rfl) jG) | (refine SK ?_ jR (by rfl) jR jG)));refine gx0 ?_;(repeat (with_reducible apply Exists.intro));(with_reducible refine And.intro ?_ h);(repeat' (with_reducible refine And.intro ?_ ?_));(all_goals first | (simp +decide only [F,reduceIte,Nat.reduceAdd,qB,qC,EN, *,-h];done) | (simp +decide only [F,reduceIte,Nat.reduceAdd,qB,qC,EN, *,-h];rfl) | rfl)));clear i2;intro m s1 hI;clear h;(repeat (obtain ⟨v,hI⟩:=hI));have h:=hI;clear hI;rcases m with _ | m;(· cases (show none=some _ from h));(simp only [e2] at h))
  | ((with_reducible apply lpM (i3 ..) fuel);(· ((repeat (first | (refine RZ ?_ jR) | (refine Sy ?_ jR jR) | (refine SP ?_ jR (by rfl) jG) | (refine SK ?_ jR (by rfl) jR jG)));refine gx0 ?_;(repeat (with_reducible apply Exists.intro));(with_reducible refine And.intro ?_ h);(repeat' (with_reducible refine And.intro ?_ ?_));(all_goals first | (simp +decide only [F,reduceIte,Nat.reduceAdd,qB,qC,EN, *,-h];done) | (simp +decide only [F,reduceIte,Nat.reduceAdd,qB,qC,EN, *,-h];rfl) | rfl)));clear i3;intro m s1 hI;clear h;(repeat (obtain ⟨v,hI⟩:=hI));have h:=hI;clear hI;rcases m with _ | m;(· cases (show none=some _ from h));(simp only [e3] at h))
  | ((with_reducible apply lpM (i4 ..) fuel);(· ((repeat (first | (refine RZ ?_ jR) | (refine Sy ?_ jR jR) | (refine SP ?_ jR (by rfl) jG) | (refine SK ?_ jR (by rfl) jR jG)));refine gx0 ?_;(repeat (with_reducible apply Exists.intro));(with_reducible refine And.intro ?_ h);(repeat' (with_reducible refine And.intro ?_ ?_));(all_goals first | (simp +decide only [F,reduceIte,Nat.reduceAdd,qB,qC,EN, *,-h];done) | (simp +decide only [F,reduceIte,Nat.reduceAdd,qB,qC,EN, *,-h];rfl) | rfl)));clear i4;intro m s1 hI;clear h;(repeat (obtain ⟨v,hI⟩:=hI));have h:=hI;clear hI;rcases m with _ | m;(· cases (show none=some _ from h));(simp only [e4] at h))
  | ((with_reducible apply lpM (i5 ..) fuel);(· ((repeat (first | (refine RZ ?_ jR) | (refine Sy ?_ jR jR) | (refine SP ?_ jR (by rfl) jG) | (refine SK ?_ jR (by rfl) jR jG)));refine gx0 ?_;(repeat (with_reducible apply Exists.intro));(with_reducible refine And.intro ?_ h);(repeat' (with_reducible refine And.intro ?_ ?_));(all_goals first | (simp +decide only [F,reduceIte,Nat.reduceAdd,qB,qC,EN, *,-h];done) | (simp +decide only [F,reduceIte,Nat.reduceAdd,qB,qC,EN, *,-h];rfl) | rfl)));clear i5;intro m s1 hI;clear h;(repeat (obtain ⟨v,hI⟩:=hI));have h:=hI;clear hI;rcases m with _ | m;(· cases (show none=some _ from h));(simp only [e5] at h))
  | ((with_reducible apply lpM (i6 ..) fuel);(· ((repeat (first | (refine RZ ?_ jR) | (refine Sy ?_ jR jR) | (refine SP ?_ jR (by rfl) jG) | (refine SK ?_ jR (by rfl) jR jG)));refine gx0 ?_;(repeat (with_reducible apply Exists.intro));(with_reducible refine And.intro ?_ h);(repeat' (with_reducible refine And.intro ?_ ?_));(all_goals first | (simp +decide only [F,reduceIte,Nat.reduceAdd,qB,qC,EN, *,-h];done) | (simp +decide only [F,reduceIte,Nat.reduceAdd,qB,qC,EN, *,-h];rfl) | rfl)));clear i6;intro m s1 hI;clear h;(repeat (obtain ⟨v,hI⟩:=hI));have h:=hI;clear hI;rcases m with _ | m;(· cases (show none=some _ from h));(simp only [e6] at h)))):pH P f args rs:=PQ hf hb hN hv hnm hn h
theorem sgn {P : Program} {f : FuncId} {fn : Func} {c : Code} {args : List (Bool × List D)} {rs : List (Bool × List RC)} (N : Nat) (vars : List ResultVar) (hf : P.funcs[f]? = some fn) (h : ∀ (base : Nat) (w0 : W0), SW P base w0 N c (init args) (aft P base w0 N (Ret (dJ P) vars rs) [])) (hb : fn.body = some c := by exact rfl) (hN : fn.ntmps = N := by exact rfl) (hv : fn.results.toList = vars := by exact rfl) (hnm : (fn.name == "runtime.NumGoroutine") = false := by decide +kernel) (hn : args.length <= N := by exact Nat.le_of_ble_eq_true rfl) : pH P f args rs := PQ hf hb hN hv hnm hn h
