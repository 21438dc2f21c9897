/-
  Helper text. No conditions.
-/
import Derived.Test.YtipmihbgjolaaaaGreatCompleteCachesPd9
set_option linter.unusedVariables false
set_option linter.unusedSimpArgs false
namespace Go.Proofs.YtipmihbgjolaaaaGreat.gen
open Go Go.Sh
theorem VG {p0:List Int} (hl:p0.length<=1048576) (hb : ∀x∈p0,0<=x/\x<=255) : ∃x,jZ p0=some x/\wdG 10 11 720000 x.1:=by unfold jZ;obtain ⟨h,e,c0⟩:=Vf hl hb;rw [e,qA];obtain ⟨i1,v1,w,e1,c1,q1⟩:=Xd c0;rw [e1,qA];dsimp only;obtain ⟨i2,v2,r2,e2,c2,q2⟩:=Bl (l:=[(⟨#[98,97,110,107]⟩:ByteArray),(⟨#[110,101,119,115]⟩:ByteArray),(⟨#[115,104,111,112]⟩:ByteArray),(⟨#[122,122,122]⟩:ByteArray)]) (λ_=>True) qe (λ_ _=>trivial) c1;rw [e2,qA];exact ⟨_,rfl,q1⟩
theorem Xt {α:Type} {f:α->α->Bool} (hf : ∀x y,f x y=true->x=y) : ∀ {l r:List α},eqL f l r=true->l=r
 | [],[],_=>rfl
 | [],_::_,h=>by simp [eqL] at h
 | _::_,[],h=>by simp [eqL] at h
 | x::l,y::r,h=>by simp only [eqL,qM] at h;rw [hf x y h.1,Xt hf h.2]
theorem TW {l:List Int} (hl:l.length<=1000000):yM l l=some true:=by
 unfold yM
 rw [if_neg qd]
 have key : ∀(n k:Nat),l.length-k<n->k<=l.length->oH l l n (k:Int)=some true:=by
  intro n
  induction n with
  | zero=>intro k h _;omega
  | succ n ih =>
   intro k hn hk
   simp only [oH]
   rcases Nat.lt_or_ge k l.length with h6 | h6
   ·rw [if_pos (aY h6),aK h6,qA,qA,if_neg qd,bD qb];exact ih (k+1) qb qb
   ·rw [if_neg qc]
 exact key fuel 0 (kE qb) qb
set_option maxHeartbeats 4000000 in
theorem ZG (p0:List Int) (hb : ∀b∈p0,0<=b/\b<=255):nF p0=some true:=by
 unfold nF Gf
 rw [qA]
 by_cases hl:(p0.length:Int)>1048576
 ·rw [if_pos (by simpa using hl)]
 rw [if_neg (by simpa using hl)]
 have hl':p0.length<=1048576:=by omega
 obtain ⟨⟨s,t,v⟩,ed,hS,hT,hV⟩:=X9 hl' hb
 rw [ed,qA]
 dsimp only at hS hT hV ⊢
 have zs:=hS.2
 have zt:=hT.2
 rw [Gv hS.1 hT.1 qb qb,qA,Gl hS.1 hT.1 qb qb,qA,if_neg qd]
 have hfl:t.aG8.length<=100:=by simp only [M.aGl.sz] at zt;omega
 have fin:((jZ p0).bind λaa=>((nA aa.1 aa.2).bind λae=>((fL aa.1 aa.2).bind λaf=>((if (ae.2==af.2)=true then ((rF ae.1 af.1).bind λah=>(some ah)) else (some false)).bind λai=>(some ai)))))=some true:=by obtain ⟨⟨w,a⟩,er,hW⟩:=VG hl' hb;rw [er,qA];have hlit:lit 10 11 720000:=⟨qb,qb,qb⟩;obtain ⟨R,e1,e2,hRo,_⟩:=XD (a:=a) (hW.ok' hlit) (hW.sz' hlit);rw [e2,qA,e1,qA];refine jn (v:=true) ?_ rfl;rw [if_pos qd,Ir hRo,qA,PY]
 have key : ∀(n k:Nat),t.aG8.length-k<n->k<=t.aG8.length->dV p0 (s,t,v) (Dh s t v) n (k:Int)=some true:=by
  intro n
  induction n with
  | zero=>intro k h _;omega
  | succ n ih =>
   intro k hn hk
   simp only [dV]
   rcases Nat.lt_or_ge k t.aG8.length with h6 | h6
   ·rw [if_pos (aY h6),qA]
    cases hc:Dh s t v with
    | false=>rw [if_neg qd];exact fin
    | true =>
     rw [if_pos rfl,aK h6,qA]
     have h7:=hc
     unfold Dh at h7
     rw [qM] at h7
     have h8:=List.all_eq_true.1 h7.1 k (List.mem_range.2 h6)
     unfold DF at h8
     rw [qF h6,Option.any_some] at h8
     unfold Wr at h8
     have ih':=ih (k+1) qb qb
     rw [hc] at ih'
     unfold hJ
     cases hm:gO s v t.Name t.aG8[k] with
     | none=>rw [hm] at h8;cases h8
     | some x =>
      cases hbd:mZ t t.aG8[k] v with
      | none=>rw [hm,hbd] at h8;cases h8
      | some y =>
       rw [hm,hbd] at h8
       simp only [qM] at h8
       obtain ⟨h9,aj,_,ak⟩:=h8
       have hxy:x.1.aHT=y:=Xt (λa b h=>by simpa [xA] using h) ak
       obtain ⟨y2,ey,_,hy2⟩:=Pq (t:=t) (f:=t.aG8[k]) (v:=v) (by simp only [M.aGl.sz] at zt;omega) (by have:=cO (f:=ByteArray.size) (qG h6);simp only [M.aGl.sz] at zt;omega)
       have hyl:y.length<=1000000:=by rw [hbd] at ey;have:y=y2:=Option.some.inj ey;rw [this];have:=hy2.2;omega
       rw [qA,if_pos h9,qA]
       refine jn (v:=false) ?_ ?_
       ·rw [if_neg (by simpa using aj),qA,hxy,TW hyl,qA];rfl
       ·rw [if_neg qd,bD qb];exact ih'
   ·rw [if_neg qc,qA,if_neg qd];exact fin
 exact key fuel 0 (kE qb) qb
end Go.Proofs.YtipmihbgjolaaaaGreat.gen
