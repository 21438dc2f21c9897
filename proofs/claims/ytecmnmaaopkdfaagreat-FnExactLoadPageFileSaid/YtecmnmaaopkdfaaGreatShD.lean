/-
  Helper text. No conditions.
-/
import Derived.Test.YtecmnmaaopkdfaaGreatShC
import Derived.ProofKit
import Derived.OpenShut
import Derived.ShutString
import Derived.Deep.Slices
import Derived.Carry
namespace Go.Sh
set_option linter.unusedVariables false
set_option linter.unusedSimpArgs false
open Go.RowKit
theorem aJ6 (args : List (Bool × List D)) (i : Nat) : (init args).t i = match args[i]? with | some (ag, ds) => .v ag (ds.map .dat) | none => .undef := rfl
theorem aJh (args : List (Bool × List D)) (i : Nat) : (init args).h i = (0, .none) := rfl
def aOs (v : SV) (A B : Prop) : Prop := match v with
  | .v false [.dat (.bool b)] => (b = true → A) ∧ (b = false → B)
  | _ => False
theorem aKQ (b : Bool) (A B : Prop) : aOs (.v false [.dat (.bool b)]) A B = ((b = true → A) ∧ (b = false → B)) := rfl
theorem eS {n : Int} (h1 : -9223372036854775808 ≤ n) (h2 : n ≤ 9223372036854775807) : IntKind.i64.wrap n = n := by rw [IntKind.wrap_i64]; omega
attribute [simp] aA9 aHT aIt aG7 aEI aC7 aF8 aBx aBj evG vK vOp aN3 put ex exF cst one aft St.aBf St.aJq St.aI9 St.aFt wU aDX aCn aBP xV aBr jH aBK aBG zA rows gA aBg lenOf aE4 aEC aCi aAK vW aAX aFr D.flat rid TI.agg aJ6 aJh aFx aBq aI5 aE5 aDJ aKQ
end Go.Sh
namespace Go.Sh
set_option linter.unusedVariables false
set_option linter.unusedSimpArgs false
open Go.RowKit Go.ChangeShapes Go.WideShapes Go.Deep
inductive Shp where
  | int (k : IntKind)
  | bool
  | str
  | sl (es : List Shp)
def aEj (P : Program) (f : TypeId → Option (List Shp)) : Nat → List Field → Option (List Shp)
  | _, [] => some []
  | off, x :: xs => if x.offset = off then (match f x.type, aEj P f (off + P.cellsOf x.type) xs with
      | some a, some b => if a.length = P.cellsOf x.type then some (a ++ b) else none
      | _, _ => none) else none
def aMK (P : Program) : Nat → TypeId → Option (List Shp)
  | 0, _ => none
  | n + 1, t => match P.underlying t with
    | some (.int k) => some [.int k]
    | some .bool => some [.bool]
    | some .string => some [.str]
    | some (.slice e) => match aMK P n e with
      | some es => if es.length = P.cellsOf e ∧ 0 < es.length then some [.sl es] else none
      | none => none
    | some (.struct fs) => match aEj P (aMK P n) 0 fs.toList with
      | some es => if es.length = P.cellsOf t then some es else none
      | none => none
    | _ => none
mutual
def Has : Shp → D → Prop
  | .int k, d => ∃ n, d = .int k n ∧ (Lit.int k n).wf = true
  | .bool, d => ∃ b, d = .bool b
  | .str, d => ∃ s, d = .str s ∧ s.size ≤ maxLen
  | .sl es, d => ∃ xs, d = .sl xs ∧ xs.length ≤ maxLen ∧ ∀ x ∈ xs, mW es x
def mW : List Shp → List D → Prop
  | [], ds => ds = []
  | e :: es, ds => ∃ d ds', ds = d :: ds' ∧ Has e d ∧ mW es ds'
end
theorem mW.append : ∀ {a b : List Shp} {x y : List D}, mW a x → mW b y → mW (a ++ b) (x ++ y)
  | [], b, x, y, h, k => by simp only [mW] at h; subst h; exact k
  | e :: a, b, x, y, h, k => by
    simp only [mW] at h
    obtain ⟨d, ds', rfl, h1, h2⟩ := h
    simp only [List.cons_append, mW]
    exact ⟨d, ds' ++ y, rfl, h1, mW.append h2 k⟩
theorem mW.length : ∀ {a : List Shp} {x : List D}, mW a x → x.length = a.length
  | [], x, h => by simp only [mW] at h; subst h; rfl
  | e :: a, x, h => by
    simp only [mW] at h
    obtain ⟨d, ds', rfl, h1, h2⟩ := h
    simp [mW.length h2]
section
variable {H : Type} {enc : TypeId × Value → H} {P : Program} {w : World} {base : Nat} {spare : Nat → Bool} {held : Bool}
theorem aAL {w : World} {d : D} {v : Value} {F : List Nat} (h : Rep w d v F) : aM w [d] [v] F := by
  simp only [aM]
  exact ⟨v, [], F, [], rfl, by simp, h, rfl, rfl⟩
theorem aDf {e : Shp} {d : D} (h : Has e d) : mW [e] [d] := by
  simp only [mW]
  exact ⟨d, [], rfl, h, rfl⟩
theorem aIL {n m : Nat} (ih : ∀ (t : TypeId) (shs : List Shp) (cs : List Value) (x : DataW H × List MemPlace), aMK P n t = some shs → DataW.trod enc P w base spare held m t cs = some x → ∃ ds F, aM w ds cs F ∧ mW shs ds) :
    ∀ (fs : List Field) (off : Nat) (shs : List Shp) (cs : List Value), aEj P (aMK P n) off fs = some shs → off + shs.length = cs.length →
      (∀ f ∈ fs, ∃ x, DataW.trod enc P w base spare held m f.type ((cs.drop f.offset).take (P.cellsOf f.type)) = some x) → ∃ ds F, aM w ds (cs.drop off) F ∧ mW shs ds
  | [], off, shs, cs, h, hl, _ => by
    simp [aEj] at h
    subst h
    refine ⟨[], [], ?_, by simp [mW]⟩
    rw [List.drop_of_length_le (by simpa using Nat.le_of_eq hl.symm)]
    simp [aM]
  | f :: fs, off, shs, cs, h, hl, hf => by
    simp only [aEj] at h
    split at h
    · rename_i ho
      split at h
      · rename_i a b ha hb
        split at h
        · rename_i hlen
          cases h
          obtain ⟨x, hx⟩ := hf f (by simp)
          obtain ⟨d1, F1, k1, k2⟩ := ih _ _ _ _ ha hx
          obtain ⟨d2, F2, k3, k4⟩ := aIL ih fs _ b cs hb (by rw [List.length_append, hlen] at hl; omega) fun y hy => hf y (by simp [hy])
          refine ⟨d1 ++ d2, F1 ++ F2, ?_, k2.append k4⟩
          have : cs.drop off = (cs.drop f.offset).take (P.cellsOf f.type) ++ cs.drop (off + P.cellsOf f.type) := by
            rw [ho, ← List.drop_drop, List.take_append_drop]
          rw [this]
          exact k1.append k3
        · cases h
      · cases h
    · cases h
theorem aLy {a : Addr} {v : Value} (h : w.cell? a = some v) : a = ⟨a.block, a.off, none⟩ := by
  obtain ⟨b, o, s⟩ := a
  unfold World.cell? at h
  cases s with
  | none => rfl
  | some s =>
    split at h
    · simp at h
    · cases h
theorem aJR {es : List Shp} {C : Nat} (hC : es.length = C) {a : Addr} : ∀ (len : Nat), (∀ i, i < len → ∃ cs' ds F, cs'.length = C ∧ (∀ j, j < C → w.cell? (a.add (i * C + j)) = cs'[j]?) ∧ aM w ds cs' F ∧ mW es ds) →
    ∃ xs cells G, xs.length = len ∧ (∀ x ∈ xs, mW es x) ∧ aQ w xs cells G ∧ cells.length = len * C ∧ ∀ j, j < len * C → w.cell? (a.add j) = cells[j]?
  | 0, _ => ⟨[], [], [], rfl, by simp, by simp [aQ], by simp, by simp⟩
  | len + 1, h => by
    obtain ⟨xs, cells, G, h1, h2, h3, h4, h5⟩ := aJR hC len fun i hi => h i (by omega)
    obtain ⟨cs', ds, F, k1, k2, k3, k4⟩ := h len (by omega)
    refine ⟨xs ++ [ds], cells ++ cs', G ++ F, by simp [h1], ?_, ?_, by rw [List.length_append, h4, k1, Nat.add_mul]; omega, ?_⟩
    · intro x hx
      rcases List.mem_append.1 hx with hx | hx
      · exact h2 x hx
      · simp at hx; subst hx; exact k4
    · refine h3.append ?_
      simp only [aQ]
      exact ⟨cs', [], F, [], by simp, by simp, k3, rfl, rfl⟩
    · intro j hj
      rw [Nat.add_mul, Nat.one_mul] at hj
      by_cases hjl : j < len * C
      · rw [h5 j hjl, List.getElem?_append_left (by omega)]
      · have := k2 (j - len * C) (by omega)
        rw [show len * C + (j - len * C) = j from by omega] at this
        rw [this, List.getElem?_append_right (by omega), h4]
theorem aId : ∀ (n : Nat) (m : Nat) (t : TypeId) (shs : List Shp) (cs : List Value) (x : DataW H × List MemPlace), aMK P n t = some shs → DataW.trod enc P w base spare held m t cs = some x → ∃ ds F, aM w ds cs F ∧ mW shs ds
  | 0, _, _, _, _, _, h, _ => by simp [aMK] at h
  | n + 1, m, t, shs, cs, x, h, hx => by
    simp only [aMK] at h
    split at h
    · rename_i k hu
      cases h
      obtain ⟨v, rfl, _, hw⟩ := DataW.trod_int hu hx
      exact ⟨[.int k v], [], aAL (by simp [Rep]), aDf (by simp [Has, hw])⟩
    · rename_i hu
      cases h
      obtain ⟨v, rfl, _⟩ := DataW.trod_bool hu hx
      exact ⟨[.bool v], [], aAL (by simp [Rep]), aDf (by simp [Has])⟩
    · rename_i hu
      cases h
      obtain ⟨v, rfl, _, hw⟩ := DataW.trod_string hu hx
      exact ⟨[.str v], [], aAL (by simp [Rep]), aDf (by simp [Has, hw])⟩
    · rename_i e hu
      split at h
      · rename_i es hes
        split at h
        · rename_i hc
          cases h
          rcases open_slice hu hx with ⟨rfl, _⟩ | ⟨a, len, cap, mm, fu, Dd, Pl, rfl, h1, h2, h3, h4, _, h6⟩
          · refine ⟨[.sl []], [], ?_, ?_⟩
            · refine aAL ?_
              simp only [Rep]
              exact ⟨none, 0, 0, rfl, rfl, Nat.le_refl _, .inl (by simp)⟩
            · refine aDf ?_
              simp only [Has]
              exact ⟨[], rfl, by simp, by simp⟩
          · have hle : len ≤ mm := by rw [h4]; split <;> omega
            obtain ⟨xs, cells, G, k1, k2, k3, k4, k5⟩ := aJR (w := w) hc.1 (a := a) len fun i hi => by
              obtain ⟨cs', q1, q2⟩ := h6 i (by omega)
              obtain ⟨_, q3, q4⟩ := World.cells?_some q1
              obtain ⟨ds, F, q5, q6⟩ := aId n fu e es cs' _ hes q2
              exact ⟨cs', ds, F, q3, fun j hj => by rw [← Go.Deep.add_add]; exact q4 j hj, q5, q6⟩
            rcases Nat.eq_zero_or_pos len with h0 | h0
            · have hxs : xs = [] := List.eq_nil_of_length_eq_zero (by omega)
              subst hxs
              refine ⟨[.sl []], [], ?_, ?_⟩
              · refine aAL ?_
                simp only [Rep]
                exact ⟨some a, len, cap, rfl, by simpa using h0, h2, .inl ⟨h0, trivial⟩⟩
              · refine aDf ?_
                simp only [Has]
                exact ⟨[], rfl, by simp, by simp⟩
            · have hpos : 0 < len * P.cellsOf e := Nat.mul_pos h0 (by omega)
              have hc0 := k5 0 hpos
              have hc0' : cells[0]? = some (cells[0]'(by omega)) := List.getElem?_eq_getElem (by omega)
              have hadd0 : a.add 0 = a := by simp [Addr.add]
              rw [hadd0, hc0'] at hc0
              have ha := aLy hc0
              refine ⟨[.sl xs], a.block :: G, ?_, ?_⟩
              · refine aAL ?_
                simp only [Rep]
                refine ⟨some a, len, cap, rfl, k1.symm, h2, .inr ⟨a.block, a.off, cells, P.cellsOf e, G, by rw [← ha], World.block_lt_of_cell? w a hc0, rfl, ?_, k4, ?_, k3⟩⟩
                · intro j u hu'
                  have hj : j < len * P.cellsOf e := by rw [← k4]; exact (List.getElem?_eq_some_iff.1 hu').1
                  have := k5 j hj
                  rw [ha, Addr.add_lit] at this
                  rw [this]; exact hu'
                · intro x hx'
                  rw [(k2 x hx').length, hc.1]
              · refine aDf ?_
                simp only [Has]
                exact ⟨xs, rfl, by omega, k2⟩
        · cases h
      · cases h
    · rename_i fs hu
      split at h
      · rename_i es hes
        split at h
        · rename_i hc
          cases h
          obtain ⟨xs, mm, rfl, _, q1, q2, q3⟩ := DataW.trod_struct hu hx
          have := aIL (m := mm) (fun t shs cs x => aId n mm t shs cs x) fs.toList 0 shs cs hes (by omega) (fun f hf => by
            obtain ⟨i, hi⟩ := List.getElem?_of_mem hf
            have hi' : fs[i]? = some f := by simpa using hi
            have hlt : i < xs.length := by rw [q2]; exact (Array.getElem?_eq_some_iff.1 hi').1
            exact ⟨xs[i], by rw [q3 i f hi', List.getElem?_eq_getElem hlt]⟩)
          simpa using this
        · cases h
      · cases h
    · cases h
theorem aOA {n : Nat} {t : TypeId} {shs : List Shp} {v : Value} {d : DataW H} {p : List MemPlace} {b : Nat} (h : aMK P n t = some shs) (hv : Value.okWide P w .any b t v) (ht : DataW.Trod enc P w base spare held t v d p) :
    ∃ ds F, mW shs ds ∧ aLQ w v (aF5 P t, ds) F := by
  obtain ⟨fuel, hf⟩ := id ht
  obtain ⟨ds, F, h1, h2⟩ := aId n fuel t shs _ _ h hf
  refine ⟨ds, F, h2, ?_⟩
  have one : v.cells.toList = [v] → ∃ d, ds = [d] ∧ Rep w d v F := by
    intro hc
    rw [hc] at h1
    have hl := h1.length
    match ds, h1, hl with
    | [d], h1, _ =>
      simp only [aM] at h1
      obtain ⟨u, us, F1, F2, e1, e2, e3, _, e5⟩ := h1
      simp at e1
      rw [e5, List.append_nil] at e2
      exact ⟨d, rfl, e2 ▸ e1.1 ▸ e3⟩
  cases n with
  | zero => simp [aMK] at h
  | succ n =>
    simp only [aMK] at h
    unfold aF5
    split at h
    · rename_i k hu
      obtain ⟨x, rfl, _⟩ := open_int hu hv ht
      rw [hu]
      exact one rfl
    · rename_i hu
      obtain ⟨x, rfl, _⟩ := open_bool hu hv ht
      rw [hu]
      exact one rfl
    · rename_i hu
      obtain ⟨x, rfl, _⟩ := Go.ChangeMaps.open_string hu hv ht
      rw [hu]
      exact one rfl
    · rename_i e hu
      obtain ⟨x, y, z, rfl⟩ := okWide_slice hu hv
      rw [hu]
      exact one rfl
    · rename_i fs hu
      obtain ⟨cs, rfl, _⟩ := okWide_struct hu hv
      rw [hu]
      exact ⟨cs, rfl, h1⟩
    · cases h
theorem aLY {f : Func} {s : ChangeSpec} {apart fresh handsOn again : Bool} {W W' : World} {args : Array Value} {v : Value} {ds gs : List (DataW H)} {before pa pv : List MemPlace}
    (hW : DataW.Whole enc P f.params.toList s.vars apart W args.toList ds gs before)
    (hres : ∀ (b : Nat) (sp : Nat → Bool) (hd : Bool), DataW.TrodAll enc P W' b sp hd f.resultTypes.toList (v.resultList f.resultTypes.size) (s.fn H (ds ++ gs)).results [])
    (hargs : ∀ sp : Nat → Bool, (∀ p ∈ before, sp p.block = true) → DataW.TrodAll enc P W' 0 sp true f.params.toList args.toList (s.fn H (ds ++ gs)).args pa)
    (hvars : ∀ sp : Nat → Bool, (∀ p ∈ before, sp p.block = true) → DataW.TrodVars enc P W' sp s.vars (s.fn H (ds ++ gs)).vars pv)
    (hps : before = pa ++ pv) (hb : Below W.heap.size W W')
    (hok : ∀ (j : Nat) (t : TypeId) (r : Value), f.resultTypes[j]? = some t → (v.resultList f.resultTypes.size)[j]? = some r → Value.okWide P W' .any 0 t r) :
    s.post enc P f apart fresh handsOn again W args v W' := by
  have hlt : ∀ p ∈ before, p.block < W.heap.size := fun p hp => hW.lt p hp
  have hold : ∀ p ∈ before, (fun b => decide (b < W.heap.size)) p.block = true := fun p hp => by simpa using hlt p hp
  refine ⟨ds, gs, before, [], pa, pv, hW, hres _ _ _, hargs _ hold, hvars _ hold, World.keptBut_mono (fun p hp => ⟨hp, ?_⟩) (hb.frame (· ∈ before)), fun _ => ?_⟩
  · rw [hps, List.mem_append] at hp
    exact Or.inr hp
  · obtain ⟨_, _, _, _, _, hz, hn⟩ := hW
    refine ⟨hok, _, _, ([] ++ pa) ++ pv, ⟨[] ++ pa, pv, trodAll_append (hargs _ (fun _ _ => rfl)) (hres _ _ _), hvars _ (fun _ _ => rfl), rfl, ?_, ?_⟩, ?_⟩
    · intro b off hp
      have hin : MemPlace.cell b off ∈ before := by rw [hps]; simpa using hp
      rw [hb.frozen (hlt _ hin)]
      exact hz b off hin
    · intro ha
      have := hn ha
      rw [hps] at this
      simpa using this
    · intro p hp _
      rw [hps]
      simpa using hp
theorem aE3 (hl : laidOutB P = true) {W W' : World} (hb : Below W.heap.size W W') {sp : Nat → Bool} : ∀ {ts : List TypeId} {vs : List Value} {ds : List (DataW H)} {ps : List MemPlace}, DataW.TrodAll enc P W 0 (fun _ => true) true ts vs ds ps →
    (∀ t ∈ ts, P.readableRec t = true ∧ t < P.types.size) → (∀ x ∈ ps, x.block < W.heap.size) → (∀ x ∈ ps, sp x.block = true) → DataW.TrodAll enc P W' 0 sp true ts vs ds ps
  | [], vs, ds, ps, h, _, _, _ => by
    obtain ⟨rfl, rfl, rfl⟩ := trodAll_nil h
    rfl
  | t :: ts, vs, ds, ps, h, ht, hlt, hsp => by
    obtain ⟨v, vs', d, ds', p, q, rfl, rfl, rfl, h1, h2⟩ := trodAll_cons h
    refine ⟨p, q, ?_, ?_, rfl⟩
    · exact WideElems.Trod_stays hl (ht t (by simp)).1 (ht t (by simp)).2 h1 (fun x hx => hb.same (hlt x (by simp [hx]))) (fun x hx => hsp x (by simp [hx]))
    · exact aE3 hl hb h2 (fun u hu => ht u (by simp [hu])) (fun x hx => hlt x (by simp [hx])) (fun x hx => hsp x (by simp [hx]))
def aOP (P : Program) (n : Nat) : List TypeId → List (List Shp) → Prop
  | [], shs => shs = []
  | t :: ts, shs => ∃ s ss, shs = s :: ss ∧ aMK P n t = some s ∧ aOP P n ts ss
def aM5 : List (List Shp) → List (List D) → Prop
  | [], ds => ds = []
  | s :: ss, ds => ∃ d ds', ds = d :: ds' ∧ mW s d ∧ aM5 ss ds'
def aMp (P : Program) : List TypeId → List (List D) → List (Bool × List D)
  | t :: ts, d :: ds => (aF5 P t, d) :: aMp P ts ds
  | _, _ => []
theorem aLH {n : Nat} {W : World} {b : Nat} : ∀ {ts : List TypeId} {vs : List Value} {ds : List (DataW H)} {ps : List MemPlace} {shs : List (List Shp)}, aOP P n ts shs → DataW.TrodAll enc P W 0 (fun _ => true) true ts vs ds ps →
    (∀ (j : Nat) t v, ts[j]? = some t → vs[j]? = some v → Value.okWide P W .any b t v) → ∃ dss F, aM5 shs dss ∧ aBL W vs (aMp P ts dss) F
  | [], vs, ds, ps, shs, hs, h, hv => by
    obtain ⟨rfl, rfl, rfl⟩ := trodAll_nil h
    have : shs = [] := hs
    subst this
    exact ⟨[], [], rfl, rfl⟩
  | t :: ts, vs, ds, ps, shs, hs, h, hv => by
    obtain ⟨s, ss, rfl, hs1, hs2⟩ := hs
    obtain ⟨v, vs', d, ds', p, q, rfl, rfl, rfl, h1, h2⟩ := trodAll_cons h
    obtain ⟨d1, F1, k1, k2⟩ := aOA hs1 (hv 0 t v rfl rfl) h1
    obtain ⟨dss, F2, k3, k4⟩ := aLH hs2 h2 fun j t' v' ht hv' => hv (j + 1) t' v' (by simpa using ht) (by simpa using hv')
    exact ⟨d1 :: dss, F1 ++ F2, ⟨d1, dss, rfl, k1, k3⟩, F1, F2, rfl, k2, k4⟩
theorem aMa {f : FuncId} {fn : Func} {s : ChangeSpec} {n tb : Nat} {shs : List (List Shp)} (hl : laidOutB P = true) (hvars : s.vars = []) (hres : fn.resultTypes = #[tb]) (htb : P.underlying tb = some .bool) (hsh : aOP P n fn.params.toList shs)
    (hread : ∀ t ∈ fn.params.toList, P.readableRec t = true ∧ t < P.types.size)
    (hfn : ∀ (ds : List (DataW H)), ds.length = fn.params.toList.length → s.fn H (ds ++ []) = { results := [.lit (.bool true)], args := ds })
    (hc : ∀ dss, aM5 shs dss → rU P f (aMp P fn.params.toList dss) [(false, [.ro (.bool true)])])
    {W : World} {b : Nat} {args : Array Value} {ds gs : List (DataW H)} {before : List MemPlace} (hval : ∀ (j : Nat) t v, fn.params[j]? = some t → args[j]? = some v → Value.okWide P W .any b t v)
    (hW : DataW.Whole enc P fn.params.toList s.vars false W args.toList ds gs before) :
    Calls P f args W fun e W' => ∃ v, e = .returned v ∧ s.post enc P fn false true false false W args v W' := by
  have hW' := hW
  obtain ⟨p, q, hA, hV, rfl, hfz, hnd⟩ := hW
  rw [hvars] at hV
  obtain ⟨rfl, rfl⟩ := trodVars_none hV
  obtain ⟨dss, Fa, k1, k2⟩ := aLH hsh hA fun j t v ht hv => hval j t v (by simpa using ht) (by simpa using hv)
  refine (((hc dss k1).old rfl).2 W args Fa k2).mono fun e W' hh => ?_
  obtain ⟨v, rfl, ⟨F, X, _, _, _, hr⟩, hb⟩ := hh
  have hv : v = .bool true := by
    have h1 : Rep W' (.bool true) v [] := hr.1
    simp only [Rep] at h1
    exact h1.1
  subst hv
  have hdl : ds.length = fn.params.toList.length := by
    have : ∀ {ts : List TypeId} {vs : List Value} {ds : List (DataW H)} {ps : List MemPlace}, DataW.TrodAll enc P W 0 (fun _ => true) true ts vs ds ps → ds.length = ts.length := by
      intro ts
      induction ts with
      | nil => intro vs ds ps h; obtain ⟨_, rfl, _⟩ := trodAll_nil h; rfl
      | cons t ts ih => intro vs ds ps h; obtain ⟨v, vs', d, ds', p, q, rfl, rfl, rfl, h1, h2⟩ := trodAll_cons h; simp [ih h2]
    exact this hA
  have hfn' := hfn ds hdl
  refine ⟨_, rfl, aLY (pa := p) (pv := []) hW' ?_ ?_ ?_ (by simp) hb (ok_one hres rfl (okWide_bool_mk htb _))⟩
  · intro b sp hd
    rw [hfn', hres]
    exact trodAll_cons_mk (shut_bool htb _) trodAll_mk0
  · intro sp hsp
    rw [hfn']
    exact aE3 hl hb hA hread (fun x hx => hW'.lt x (by simpa using hx)) (fun x hx => hsp x (by simpa using hx))
  · intro sp hsp
    rw [hfn', hvars]
    rfl
end
end Go.Sh
namespace Go.Sh
set_option linter.unusedVariables false
set_option linter.unusedSimpArgs false
open Go.RowKit
def Is (s t : St) : Prop := t = s
theorem Is.mk (t : St) : Is t t := rfl
theorem aIK {P : Program} {T : aGk} {N : Nat} {ops : Array Oper} : ∀ (l : List Oper) {s : St} {K K' : St → Prop}, (∀ s, K s → K' s) → aBx P T N ops l s K → aBx P T N ops l s K'
  | [], _, _, _, h, hh => h _ hh
  | o :: l, s, _, _, h, hh => aDx (evG T N ops o) (fun s' h' => aIK l h h') hh
theorem aCq {P : Program} : ∀ (p : Prog) {s : St} {R W : List Loc} {K K' : St → List Loc → List Loc → Prop}, (∀ s R W, K s R W → K' s R W) → exF P p s R W K → exF P p s R W K'
  | .done, _, _, _, _, _, h, hh => h _ _ _ hh
  | .fail, _, _, _, _, _, _, hh => hh
  | .getT t k, s, _, _, _, _, h, hh => aCq (k (s.t t)) h hh
  | .aC6 t v k, s, _, _, _, _, h, hh => aCq k h hh
  | .getH i k, s, _, _, _, _, h, hh => aCq (k (s.h i)) h hh
  | .iG i x k, s, _, _, _, _, h, hh => aCq k h hh
  | .call f args k, s, _, _, _, _, h, ⟨rs, hc, hh⟩ => ⟨rs, hc, aCq (k rs) h hh⟩
  | .must p k, s, _, _, _, _, h, ⟨hp, hh⟩ => ⟨hp, aCq k h hh⟩
theorem aHa {P : Program} {T : aGk} {N : Nat} {ops : Array Oper} : ∀ (l : List Oper) {s : St} {acc : List Fp} {K K' : St → List Fp → Prop}, (∀ s a, K s a → K' s a) → aBj P T N ops l s acc K → aBj P T N ops l s acc K'
  | [], _, _, _, _, h, hh => h _ _ hh
  | o :: l, s, _, _, _, h, hh => aCq (evG T N ops o) (fun s' R W h' => aHa l h h') hh
section
variable {P : Program} {base N : Nat} {w0 : W0} {Z : St → Prop} {k : List Fr} {s s' : St}
theorem zF {id : Nat} {ops : Array Oper} (h : aBx P (dP P) N ops ops.toList s (Is s')) (hk : aft P base w0 N Z k .normal s') : SW P base w0 N (.region id ops false) s (aft P base w0 N Z k) :=
  aJ8 (aIK ops.toList (fun t ht => by rw [show t = s' from ht]; exact hk) h)
def aKd (ops : Array Oper) (fps : List Fp) : Prop := aD1 ops fps = true
theorem aKd.mk {ops : Array Oper} {fps : List Fp} (h : aD1 ops fps = true) : aKd ops fps := h
theorem aIn (hm : P.follows .mixedOrders = true) {id : Nat} {ops : Array Oper} (h : aBj P (dP P) N ops ops.toList s [] fun t fps => aKd ops fps ∧ Is s' t) (hk : aft P base w0 N Z k .normal s') : SW P base w0 N (.region id ops true) s (aft P base w0 N Z k) :=
  aL2 hm (aHa ops.toList (fun t fps ht => ⟨ht.1, by rw [show t = s' from ht.2]; exact hk⟩) h)
theorem aAS {id : Nat} (h : aft P base w0 N Z k .normal s) : aft P base w0 N Z (.block id :: k) (.exit id) s := by
  simp only [aft, if_true]; exact h
theorem aQa {id id' : Nat} (hne : id' ≠ id) (h : aft P base w0 N Z k (.exit id') s) : aft P base w0 N Z (.block id :: k) (.exit id') s := by
  simp only [aft, hne, if_false]; exact h
theorem nE {c : Code} {id : Nat} (h : aft P base w0 N Z k (.exit id) s) : aft P base w0 N Z (.code c :: k) (.exit id) s := h
theorem xX {J : St → Prop} (h : J s) : aft P base w0 N Z (.inv J :: k) .normal s := h
theorem pT {J : St → Prop} {id : Nat} (h : aft P base w0 N Z k (.exit id) s) : aft P base w0 N Z (.inv J :: k) (.exit id) s := h
theorem aPe {t : Nat} {x y : Code} (hb : s.t t = .v false [.dat (.bool true)]) (h : SW P base w0 N x s (aft P base w0 N Z k)) : SW P base w0 N (.cond (.tmp t) x y) s (aft P base w0 N Z k) :=
  aKG hb (fun _ => h) (fun e => by cases e)
theorem aPU {t : Nat} {x y : Code} (hb : s.t t = .v false [.dat (.bool false)]) (h : SW P base w0 N y s (aft P base w0 N Z k)) : SW P base w0 N (.cond (.tmp t) x y) s (aft P base w0 N Z k) :=
  aKG hb (fun e => by cases e) (fun _ => h)
end
def fuel : Nat := 18446744073709551616
theorem dH (b : Bool) : b = true ∨ b = false := by cases b <;> simp
theorem aBO (b : Bool) : b = false ∨ b = true := by cases b <;> simp
theorem bJ {α : Type} {b : Bool} {x y z : α} (hb : b = true) (h : (if b = true then x else y) = z) : x = z := by rw [if_pos hb] at h; exact h
theorem bI {α : Type} {b : Bool} {x y z : α} (hb : b = false) (h : (if b = true then x else y) = z) : y = z := by rw [hb] at h; simpa using h
theorem bind_some {α β : Type} {o : Option α} {f : α → Option β} {r : β} (h : o.bind f = some r) : ∃ x, o = some x ∧ f x = some r := by
  cases o with
  | none => cases h
  | some x => exact ⟨x, rfl, h⟩
def idx {α : Type} (xs : List α) (i : Int) : Option α := if 0 ≤ i then xs[i.toNat]? else none
theorem aT {α : Type} {xs : List α} {i : Int} {x : α} (h : idx xs i = some x) : 0 ≤ i ∧ xs[i.toNat]? = some x ∧ i.toNat < xs.length := by
  unfold idx at h
  split at h
  · rename_i hi; exact ⟨hi, h, (List.getElem?_eq_some_iff.1 h).1⟩
  · cases h
def aNJ (s : ByteArray) (i : Int) : Option UInt8 := if 0 ≤ i then s[i.toNat]? else none
theorem aMD {s : ByteArray} {i : Int} {x : UInt8} (h : aNJ s i = some x) : 0 ≤ i ∧ s[i.toNat]? = some x := by
  unfold aNJ at h
  split at h
  · rename_i hi; exact ⟨hi, h⟩
  · cases h
def app {α : Type} (b : Nat) (xs ys : List α) : Option (List α) := if (xs.length + ys.length) * b ≤ 140737488355328 then some (xs ++ ys) else none
theorem kD {α : Type} {b : Nat} {xs ys zs : List α} (h : app b xs ys = some zs) : (xs.length + ys.length) * b ≤ 140737488355328 := by
  unfold app at h
  split at h
  · assumption
  · cases h
def aRb {α : Type} (b : Nat) (ys : List α) : Option (List α) := if ys.length * b ≤ 140737488355328 then some ys else none
theorem rP {α : Type} {b : Nat} {ys zs : List α} (h : aRb b ys = some zs) : ys.length * b ≤ 140737488355328 := by
  unfold aRb at h
  split at h
  · assumption
  · cases h
def mkL {α : Type} (b : Nat) (n : Int) (z : α) : Option (List α) := if 0 ≤ n ∧ n.toNat * b ≤ 140737488355328 ∧ n ≤ 9223372036854775807 then some (List.replicate n.toNat z) else none
theorem aNa {α : Type} {b : Nat} {n : Int} {z : α} {x : List α} (h : mkL b n z = some x) : 0 ≤ n ∧ n.toNat * b ≤ 140737488355328 ∧ n ≤ 9223372036854775807 := by
  unfold mkL at h
  split at h
  · assumption
  · cases h
def cat (x y : ByteArray) : Option ByteArray := if x.size + y.size ≤ 9223372036854775807 then some (x ++ y) else none
theorem aNn {x y z : ByteArray} (h : cat x y = some z) : x.size + y.size ≤ 9223372036854775807 := by
  unfold cat at h
  split at h
  · assumption
  · cases h
def enI (n : Int) : List D := [.int .i64 n]
def enB (n : Int) : List D := [.int .u8 n]
def enS (s : ByteArray) : List D := [.str s]
def enT (b : Bool) : List D := [.bool b]
def enL {α : Type} (f : α → List D) (xs : List α) : List D := [.sl (xs.map f)]
def fE (s : ByteArray) : List Int := s.data.toList.map fun b => (b.toNat : Int)
theorem aJA (s : ByteArray) : aBk s.data.toList = (fE s).map enB := by
  unfold aBk fE enB
  rw [List.map_map]
  rfl
def aCG (l : List Int) : ByteArray := ⟨(l.map fun n => UInt8.ofNat n.toNat).toArray⟩
def toStr (l : List Int) : Option ByteArray := if l.all (fun n => decide (0 ≤ n ∧ n < 256)) = true then some (aCG l) else none
theorem aLK (l : List Int) : strOf (l.map enB) = aCG l := by
  unfold strOf aCG enB
  rw [List.map_map]
  rfl
theorem aLW {l : List Int} {z : ByteArray} (h : toStr l = some z) : ∀ x ∈ l.map enB, ∃ b : UInt8, x = [.int .u8 (b.toNat : Int)] := by
  unfold toStr at h
  split at h
  · rename_i ha
    intro x hx
    obtain ⟨n, hn, rfl⟩ := List.mem_map.1 hx
    have := List.all_eq_true.1 ha n hn
    simp only [decide_eq_true_eq] at this
    refine ⟨UInt8.ofNat n.toNat, ?_⟩
    unfold enB
    have h1 : (UInt8.ofNat n.toNat).toNat = n.toNat := by simp; omega
    rw [h1, Int.toNat_of_nonneg this.1]
  · cases h
def aIl {α : Type} (xs : List α) (j : Int) : Option (List α) := if 0 ≤ j ∧ j.toNat ≤ xs.length then some (xs.take j.toNat) else none
theorem aBs {α : Type} {xs z : List α} {i : Int} {f : α → List D} {n : Nat} (hf : ∀ x, (f x).length = n) (h : aIl xs i = some z) : 0 ≤ i ∧ i.toNat ≤ xs.length ∧ ∀ x ∈ xs.map f, x.length = n := by
  unfold aIl at h
  split at h
  · rename_i hh
    refine ⟨hh.1, hh.2, fun x hx => ?_⟩
    obtain ⟨y, _, rfl⟩ := List.mem_map.1 hx
    exact hf y
  · cases h
theorem aEl {α : Type} {f : α → List D} (hf : ∀ x, (f x).all D.flat = true) (xs : List α) : (xs.map f).all (fun y => y.all D.flat) = true := by
  rw [List.all_eq_true]
  intro y hy
  obtain ⟨x, _, rfl⟩ := List.mem_map.1 hy
  exact hf x
theorem enI.fl (l : List Int) : (List.map enI l).all (fun y => y.all D.flat) = true := aEl (fun _ => rfl) l
theorem enB.fl (l : List Int) : (List.map enB l).all (fun y => y.all D.flat) = true := aEl (fun _ => rfl) l
theorem enS.fl (l : List ByteArray) : (List.map enS l).all (fun y => y.all D.flat) = true := aEl (fun _ => rfl) l
theorem enT.fl (l : List Bool) : (List.map enT l).all (fun y => y.all D.flat) = true := aEl (fun _ => rfl) l
theorem aK6 {P : Program} {f : FuncId} {fn : Func} {c : Code} {args : List (Bool × List D)} {rs : List (Bool × List RC)} {N : Nat} {vars : List ResultVar} (hf : P.funcs[f]? = some fn) (hb : fn.body = some c) (hN : fn.ntmps = N) (hv : fn.results.toList = vars) (hnm : (fn.name == "runtime.NumGoroutine") = false) (hn : args.length ≤ N)
    (h : ∀ (base : Nat) (w0 : W0), SW P base w0 N c (init args) (aft P base w0 N (Ret (dP P) vars rs) [])) : rU P f args rs := by
  subst hN hv
  exact aMz hf hb hnm hn h
end Go.Sh
namespace Go.Sh
set_option linter.unusedVariables false
set_option linter.unusedSimpArgs false
theorem aGo (N d : Nat) (a b : Bool × List RC) (rs : List (Bool × List RC)) : aBG N (some d) (a :: b :: rs) = aBK d 0 (a :: b :: rs) fun vs => put N (some d) (.tup vs) := rfl
theorem aHI (N d : Nat) : aBG N (some d) [] = aBK d 0 [] fun vs => put N (some d) (.tup vs) := rfl
theorem aK0 (sz k : Nat) (xs : List (List D)) : (aGM sz 0 k xs).drop k = xs.drop k := by
  unfold aGM
  rw [List.take_zero, List.nil_append, Nat.zero_add]
  exact List.drop_left' (by simp)
theorem aME (sz k : Nat) (xs : List (List D)) : (aGM sz 0 k xs).length - k = xs.length - k := by
  unfold aGM
  simp
theorem aLB {α : Type} (xs : List α) (k : Nat) : (xs.drop k).take (xs.length - k) = xs.drop k := List.take_of_length_le (by simp)
theorem aIH {sz : Nat} {i : Int} {xs : List (List D)} (h : 0 ≤ i) : 0 ≤ i ∧ i.toNat ≤ (aGM sz 0 i.toNat xs).length := ⟨h, by unfold aGM; simp⟩
theorem aJH {α : Type} (a : α) (as bs : List α) : List.append (a :: as) bs = a :: List.append as bs := rfl
theorem aK8 {α : Type} (bs : List α) : List.append [] bs = bs := rfl
theorem aMn (xs : List (List D)) : D.flat (.sl xs) = false := rfl
theorem aK1 (xs : List D) : D.flat (.ptr xs) = false := rfl
theorem E : type_of% (And.intro (@aBx.eq_1) (And.intro (@aBx.eq_2) (And.intro (@aBj.eq_1) (And.intro (@aBj.eq_2) (And.intro (@evG.eq_1) (And.intro (@vK.eq_1) (And.intro (@vOp.eq_1) (And.intro (@vOp.eq_2) (And.intro (@vOp.eq_3) (And.intro (@vOp.eq_4) (And.intro (@aN3.eq_1) (And.intro (@aN3.eq_2) (And.intro (@put.eq_1) (And.intro (@put.eq_2) (And.intro (@ex.eq_1) (And.intro (@ex.eq_2) (And.intro (@ex.eq_3) (And.intro (@ex.eq_4) (And.intro (@ex.eq_5) (And.intro (@ex.eq_6) (And.intro (@ex.eq_7) (And.intro (@ex.eq_8) (And.intro (@exF.eq_1) (And.intro (@exF.eq_2) (And.intro (@exF.eq_3) (And.intro (@exF.eq_4) (And.intro (@exF.eq_5) (And.intro (@exF.eq_6) (And.intro (@exF.eq_7) (And.intro (@exF.eq_8) (And.intro (@cst.eq_1) (And.intro (@cst.eq_2) (And.intro (@cst.eq_3) (And.intro (@cst.eq_4) (And.intro (@one.eq_1) (And.intro (@wU.eq_1) (And.intro (@wU.eq_2) (And.intro (@wU.eq_3) (And.intro (@wU.eq_4) (And.intro (@aDX.eq_1) (And.intro (@aDX.eq_2) (And.intro (@aDX.eq_3) (And.intro (@aDX.eq_4) (And.intro (@aCn.eq_1) (And.intro (@aBP.eq_1) (And.intro (@aBP.eq_2) (And.intro (@xV.eq_1) (And.intro (@xV.eq_2) (And.intro (@xV.eq_3) (And.intro (@xV.eq_4) (And.intro (@xV.eq_5) (And.intro (@xV.eq_6) (And.intro (@xV.eq_7) (And.intro (@xV.eq_8) (And.intro (@aBr.eq_1) (And.intro (@aBr.eq_2) (And.intro (@jH.eq_1) (And.intro (@jH.eq_2) (And.intro (@jH.eq_3) (And.intro (@jH.eq_4) (And.intro (@jH.eq_5) (And.intro (@aBK.eq_1) (And.intro (@aBK.eq_2) (And.intro (@aBG.eq_1) (And.intro (@aBG.eq_2) (And.intro (@aEI.eq_1) (And.intro (@aDS.eq_1) (And.intro (@aDS.eq_2) (And.intro (@aDS.eq_3) (And.intro (@aGq.eq_1) (And.intro (@aGq.eq_2) (And.intro (@RC.ed.eq_1) (And.intro (@RC.ed.eq_2) (And.intro (@RC.ed.eq_3) (And.intro (@RC.ed.eq_4) (And.intro (@aLA.eq_1) (And.intro (@aLA.eq_2) (And.intro (@aLA.eq_3) (And.intro (@aGx.eq_1) (And.intro (@aC7.eq_1) (And.intro (@aC7.eq_2) (And.intro (@aC7.eq_3) (And.intro (@aC7.eq_4) (And.intro (@aC7.eq_5) (And.intro (@aF8.eq_1) (And.intro (@aF8.eq_2) (And.intro (@zA.eq_1) (And.intro (@zA.eq_2) (And.intro (@rows.eq_1) (And.intro (@rows.eq_2) (And.intro (@gA.eq_1) (And.intro (@gA.eq_2) (And.intro (@gA.eq_3) (And.intro (@gA.eq_4) (And.intro (@gA.eq_5) (And.intro (@gA.eq_6) (And.intro (@gA.eq_7) (And.intro (@gA.eq_8) (And.intro (@gA.eq_9) (And.intro (@gA.eq_10) (And.intro (@gA.eq_11) (And.intro (@gA.eq_12) (And.intro (@gA.eq_13) (And.intro (@gA.eq_14) (And.intro (@gA.eq_15) (And.intro (@gA.eq_16) (And.intro (@gA.eq_17) (And.intro (@aBg.eq_1) (And.intro (@aBg.eq_2) (And.intro (@aBg.eq_3) (And.intro (@aBg.eq_4) (And.intro (@aBg.eq_5) (And.intro (@aBg.eq_6) (And.intro (@lenOf.eq_1) (And.intro (@lenOf.eq_2) (And.intro (@lenOf.eq_3) (And.intro (@lenOf.eq_4) (And.intro (@aE4.eq_1) (And.intro (@aE4.eq_2) (And.intro (@aE4.eq_3) (And.intro (@aEC.eq_1) (And.intro (@aEC.eq_2) (And.intro (@aCi.eq_1) (And.intro (@aCi.eq_2) (And.intro (@aCi.eq_3) (And.intro (@aAK.eq_1) (And.intro (@aAK.eq_2) (And.intro (@vW.eq_1) (And.intro (@vW.eq_2) (And.intro (@vW.eq_3) (And.intro (@vW.eq_4) (And.intro (@aAX.eq_1) (And.intro (@aAX.eq_2) (And.intro (@aAX.eq_3) (And.intro (@aAX.eq_4) (And.intro (@aFr.eq_1) (And.intro (@aFr.eq_2) (And.intro (@sW.eq_1) (And.intro (@sW.eq_2) (And.intro (@sW.eq_3) (And.intro (@sW.eq_4) (And.intro (@aGe.eq_1) (And.intro (@D.flat.eq_1) (And.intro (@D.flat.eq_2) (And.intro (@D.flat.eq_3) (And.intro (@D.flat.eq_4) (And.intro (@rid.eq_1) (And.intro (@TI.agg.eq_1) (And.intro (@aHT) (And.intro (@aIt) (And.intro (@aG7) (And.intro (@aIN) (And.intro (@aK0) (And.intro (@aME) (And.intro (@aLB) (And.intro (@aA9.eq_1) (And.intro (@aGo) (And.intro (@aHI) (And.intro (@aMn) (And.intro (@aK1) (And.intro (@St.aBf) (And.intro (@St.aJq) (And.intro (@St.aI9) (And.intro (@St.aFt) (And.intro (@aJ6) (@aJh)))))))))))))))))))))))))))))))))))))))))))))))))))))))))))))))))))))))))))))))))))))))))))))))))))))))))))))))))))))))))))))))))))))))))))))))))))))))))))))))))))))) :=
  And.intro (@aBx.eq_1) (And.intro (@aBx.eq_2) (And.intro (@aBj.eq_1) (And.intro (@aBj.eq_2) (And.intro (@evG.eq_1) (And.intro (@vK.eq_1) (And.intro (@vOp.eq_1) (And.intro (@vOp.eq_2) (And.intro (@vOp.eq_3) (And.intro (@vOp.eq_4) (And.intro (@aN3.eq_1) (And.intro (@aN3.eq_2) (And.intro (@put.eq_1) (And.intro (@put.eq_2) (And.intro (@ex.eq_1) (And.intro (@ex.eq_2) (And.intro (@ex.eq_3) (And.intro (@ex.eq_4) (And.intro (@ex.eq_5) (And.intro (@ex.eq_6) (And.intro (@ex.eq_7) (And.intro (@ex.eq_8) (And.intro (@exF.eq_1) (And.intro (@exF.eq_2) (And.intro (@exF.eq_3) (And.intro (@exF.eq_4) (And.intro (@exF.eq_5) (And.intro (@exF.eq_6) (And.intro (@exF.eq_7) (And.intro (@exF.eq_8) (And.intro (@cst.eq_1) (And.intro (@cst.eq_2) (And.intro (@cst.eq_3) (And.intro (@cst.eq_4) (And.intro (@one.eq_1) (And.intro (@wU.eq_1) (And.intro (@wU.eq_2) (And.intro (@wU.eq_3) (And.intro (@wU.eq_4) (And.intro (@aDX.eq_1) (And.intro (@aDX.eq_2) (And.intro (@aDX.eq_3) (And.intro (@aDX.eq_4) (And.intro (@aCn.eq_1) (And.intro (@aBP.eq_1) (And.intro (@aBP.eq_2) (And.intro (@xV.eq_1) (And.intro (@xV.eq_2) (And.intro (@xV.eq_3) (And.intro (@xV.eq_4) (And.intro (@xV.eq_5) (And.intro (@xV.eq_6) (And.intro (@xV.eq_7) (And.intro (@xV.eq_8) (And.intro (@aBr.eq_1) (And.intro (@aBr.eq_2) (And.intro (@jH.eq_1) (And.intro (@jH.eq_2) (And.intro (@jH.eq_3) (And.intro (@jH.eq_4) (And.intro (@jH.eq_5) (And.intro (@aBK.eq_1) (And.intro (@aBK.eq_2) (And.intro (@aBG.eq_1) (And.intro (@aBG.eq_2) (And.intro (@aEI.eq_1) (And.intro (@aDS.eq_1) (And.intro (@aDS.eq_2) (And.intro (@aDS.eq_3) (And.intro (@aGq.eq_1) (And.intro (@aGq.eq_2) (And.intro (@RC.ed.eq_1) (And.intro (@RC.ed.eq_2) (And.intro (@RC.ed.eq_3) (And.intro (@RC.ed.eq_4) (And.intro (@aLA.eq_1) (And.intro (@aLA.eq_2) (And.intro (@aLA.eq_3) (And.intro (@aGx.eq_1) (And.intro (@aC7.eq_1) (And.intro (@aC7.eq_2) (And.intro (@aC7.eq_3) (And.intro (@aC7.eq_4) (And.intro (@aC7.eq_5) (And.intro (@aF8.eq_1) (And.intro (@aF8.eq_2) (And.intro (@zA.eq_1) (And.intro (@zA.eq_2) (And.intro (@rows.eq_1) (And.intro (@rows.eq_2) (And.intro (@gA.eq_1) (And.intro (@gA.eq_2) (And.intro (@gA.eq_3) (And.intro (@gA.eq_4) (And.intro (@gA.eq_5) (And.intro (@gA.eq_6) (And.intro (@gA.eq_7) (And.intro (@gA.eq_8) (And.intro (@gA.eq_9) (And.intro (@gA.eq_10) (And.intro (@gA.eq_11) (And.intro (@gA.eq_12) (And.intro (@gA.eq_13) (And.intro (@gA.eq_14) (And.intro (@gA.eq_15) (And.intro (@gA.eq_16) (And.intro (@gA.eq_17) (And.intro (@aBg.eq_1) (And.intro (@aBg.eq_2) (And.intro (@aBg.eq_3) (And.intro (@aBg.eq_4) (And.intro (@aBg.eq_5) (And.intro (@aBg.eq_6) (And.intro (@lenOf.eq_1) (And.intro (@lenOf.eq_2) (And.intro (@lenOf.eq_3) (And.intro (@lenOf.eq_4) (And.intro (@aE4.eq_1) (And.intro (@aE4.eq_2) (And.intro (@aE4.eq_3) (And.intro (@aEC.eq_1) (And.intro (@aEC.eq_2) (And.intro (@aCi.eq_1) (And.intro (@aCi.eq_2) (And.intro (@aCi.eq_3) (And.intro (@aAK.eq_1) (And.intro (@aAK.eq_2) (And.intro (@vW.eq_1) (And.intro (@vW.eq_2) (And.intro (@vW.eq_3) (And.intro (@vW.eq_4) (And.intro (@aAX.eq_1) (And.intro (@aAX.eq_2) (And.intro (@aAX.eq_3) (And.intro (@aAX.eq_4) (And.intro (@aFr.eq_1) (And.intro (@aFr.eq_2) (And.intro (@sW.eq_1) (And.intro (@sW.eq_2) (And.intro (@sW.eq_3) (And.intro (@sW.eq_4) (And.intro (@aGe.eq_1) (And.intro (@D.flat.eq_1) (And.intro (@D.flat.eq_2) (And.intro (@D.flat.eq_3) (And.intro (@D.flat.eq_4) (And.intro (@rid.eq_1) (And.intro (@TI.agg.eq_1) (And.intro (@aHT) (And.intro (@aIt) (And.intro (@aG7) (And.intro (@aIN) (And.intro (@aK0) (And.intro (@aME) (And.intro (@aLB) (And.intro (@aA9.eq_1) (And.intro (@aGo) (And.intro (@aHI) (And.intro (@aMn) (And.intro (@aK1) (And.intro (@St.aBf) (And.intro (@St.aJq) (And.intro (@St.aI9) (And.intro (@St.aFt) (And.intro (@aJ6) (@aJh)))))))))))))))))))))))))))))))))))))))))))))))))))))))))))))))))))))))))))))))))))))))))))))))))))))))))))))))))))))))))))))))))))))))))))))))))))))))))))))))))))))
theorem L : type_of% (And.intro (@List.take_succ_cons.{0}) (And.intro (@List.take_zero.{0}) (And.intro (@List.drop_succ_cons.{0}) (And.intro (@List.drop_zero.{0}) (And.intro (@List.map_cons.{0,0}) (And.intro (@List.map_nil.{0,0}) (And.intro (@List.cons_append.{0}) (And.intro (@List.nil_append.{0}) (And.intro (@List.append_nil.{0}) (And.intro (@List.length_cons.{0}) (And.intro (@List.length_nil.{0}) (And.intro (@List.getElem?_cons_zero.{0}) (And.intro (@List.getElem?_cons_succ.{0}) (And.intro (@List.take_nil.{0}) (And.intro (@List.drop_nil.{0}) (And.intro (@List.getElem?_map.{0,0}) (And.intro (@Option.map_some.{0,0}) (And.intro (@Option.bind_some.{0,0}) (And.intro (@List.length_map.{0,0}) (And.intro (@List.replicate_succ.{0}) (And.intro (@List.replicate_zero.{0}) (And.intro (@List.flatten_cons.{0}) (And.intro (@List.flatten_nil.{0}) (And.intro (@List.getElem?_toArray.{0}) (And.intro (@List.toList_toArray.{0}) (And.intro (@aJH) (And.intro (@aK8) (And.intro (@List.any_cons.{0}) (And.intro (@List.any_nil.{0}) (And.intro Bool.or_true (And.intro Bool.true_or (And.intro Bool.or_false (And.intro Bool.false_or (And.intro Bool.and_true (And.intro Bool.true_and (And.intro Bool.and_false (And.intro Bool.false_and (And.intro true_and (And.intro and_true (and_self)))))))))))))))))))))))))))))))))))))))) :=
  And.intro (@List.take_succ_cons.{0}) (And.intro (@List.take_zero.{0}) (And.intro (@List.drop_succ_cons.{0}) (And.intro (@List.drop_zero.{0}) (And.intro (@List.map_cons.{0,0}) (And.intro (@List.map_nil.{0,0}) (And.intro (@List.cons_append.{0}) (And.intro (@List.nil_append.{0}) (And.intro (@List.append_nil.{0}) (And.intro (@List.length_cons.{0}) (And.intro (@List.length_nil.{0}) (And.intro (@List.getElem?_cons_zero.{0}) (And.intro (@List.getElem?_cons_succ.{0}) (And.intro (@List.take_nil.{0}) (And.intro (@List.drop_nil.{0}) (And.intro (@List.getElem?_map.{0,0}) (And.intro (@Option.map_some.{0,0}) (And.intro (@Option.bind_some.{0,0}) (And.intro (@List.length_map.{0,0}) (And.intro (@List.replicate_succ.{0}) (And.intro (@List.replicate_zero.{0}) (And.intro (@List.flatten_cons.{0}) (And.intro (@List.flatten_nil.{0}) (And.intro (@List.getElem?_toArray.{0}) (And.intro (@List.toList_toArray.{0}) (And.intro (@aJH) (And.intro (@aK8) (And.intro (@List.any_cons.{0}) (And.intro (@List.any_nil.{0}) (And.intro Bool.or_true (And.intro Bool.true_or (And.intro Bool.or_false (And.intro Bool.false_or (And.intro Bool.and_true (And.intro Bool.true_and (And.intro Bool.and_false (And.intro Bool.false_and (And.intro true_and (And.intro and_true (and_self)))))))))))))))))))))))))))))))))))))))
theorem F : type_of% (And.intro (@List.set_cons_zero.{0}) (And.intro (@List.set_cons_succ.{0}) (And.intro (@St.aBf) (And.intro (@St.aJq) (And.intro (@St.aI9) (And.intro (@St.aFt) (And.intro (@aJ6) (And.intro (@aJh) (And.intro (@List.map_append.{0,0}) (And.intro (@List.map_cons.{0,0}) (And.intro (@List.map_nil.{0,0}) (And.intro (@List.map_set.{0,0}) (And.intro (@List.map_replicate.{0,0}) (And.intro (@List.append_nil.{0}) (And.intro (@List.nil_append.{0}) (And.intro (@List.cons_append.{0}) (And.intro (@List.getElem?_cons_zero.{0}) (And.intro (@List.getElem?_cons_succ.{0}) (And.intro Bool.and_true (Bool.true_and)))))))))))))))))))) :=
  And.intro (@List.set_cons_zero.{0}) (And.intro (@List.set_cons_succ.{0}) (And.intro (@St.aBf) (And.intro (@St.aJq) (And.intro (@St.aI9) (And.intro (@St.aFt) (And.intro (@aJ6) (And.intro (@aJh) (And.intro (@List.map_append.{0,0}) (And.intro (@List.map_cons.{0,0}) (And.intro (@List.map_nil.{0,0}) (And.intro (@List.map_set.{0,0}) (And.intro (@List.map_replicate.{0,0}) (And.intro (@List.append_nil.{0}) (And.intro (@List.nil_append.{0}) (And.intro (@List.cons_append.{0}) (And.intro (@List.getElem?_cons_zero.{0}) (And.intro (@List.getElem?_cons_succ.{0}) (And.intro Bool.and_true (Bool.true_and)))))))))))))))))))
end Go.Sh
namespace Go.Sh
set_option linter.unusedVariables false
set_option linter.unusedSimpArgs false
open Go.RowKit
def Gho (base : Nat) (w0 : W0) (N : Nat) (s s' : St) : Prop := ∀ a w, Rel base w0 N s a w → Rel base w0 N s' a w
theorem aQb {α β : Type} {f : α → β} {K : α} {r : β} (h : f K = r) : ∃ kk, kk = K ∧ f kk = r := ⟨K, rfl, h⟩
section
variable {P : Program} {base N : Nat} {w0 : W0} {Z : St → Prop} {k : List Fr} {s s' s'' : St}
theorem Gho.refl (s : St) : Gho base w0 N s s := fun _ _ h => h
theorem Gho.trans (h : Gho base w0 N s s') (h' : Gho base w0 N s' s'') : Gho base w0 N s s'' := fun a w R => h' a w (h a w R)
theorem aN6 {c : Code} {Q : Exit → St → Prop} (hg : Gho base w0 N s s') (h : SW P base w0 N c s' Q) : SW P base w0 N c s Q := fun a w R => h a w (hg a w R)
theorem aKj {c : Code} (I : Nat → St → Prop) (n : Nat) (h0 : I n s) (h : ∀ m s, I m s → SW P base w0 N c s (aft P base w0 N Z (.inv (fun s' => ∃ s'', Gho base w0 N s' s'' ∧ ∃ m', m' < m ∧ I m' s'') :: k))) : SW P base w0 N (.loop c) s (aft P base w0 N Z k) := by
  intro a w R
  refine wp_loop_ghost (fun m a w => ∃ s, I m s ∧ Rel base w0 N s a w) n ⟨s, h0, R⟩ ?_
  rintro m a w ⟨s, h1, R⟩
  refine wp_mono (h m s h1 a w R) ?_
  rintro e a' w' ⟨s', h2, h3⟩
  cases e with
  | normal => obtain ⟨s'', hg, m', h4, h5⟩ := h2; exact ⟨m', h4, s'', h5, hg _ _ h3⟩
  | _ => exact ⟨s', h2, h3⟩
theorem aK2 {g : Gh} {a : Act} {w : World} {j K vj : Nat} {e : TypeId} {sz : Nat} {xs : List (List D)} {dp : Bool} (R : kU base w0 N g s a w []) (h2 : s.h j = (vj, .row e sz xs dp)) :
    ∃ g', kU base w0 N g' ((s.iG j (vj, .none)).iG K ((s.h K).1 + 1, .row e sz xs dp)) a w [] ∧ kE g g' s.h ((s.iG j (vj, .none)).iG K ((s.h K).1 + 1, .row e sz xs dp)).h w w ∧
      ∀ v, aAz g s.h w (.row j vj) v → aAz g' ((s.iG j (vj, .none)).iG K ((s.h K).1 + 1, .row e sz xs dp)).h w (.row K ((s.h K).1 + 1)) v := by
  have hj1 : (s.h j).1 = vj := by rw [h2]
  have hj2 : (s.h j).2 = .row e sz xs dp := by rw [h2]
  have hob := R.inv.obj j
  rw [hj2] at hob
  obtain ⟨cells, p1, p2, p3, p4, p5⟩ := hob
  obtain ⟨I1, hfr⟩ := R.inv.aCD hj2
  rw [hj1] at I1 hfr
  have T1 : kE g g s.h (pX s.h j (vj, .none)) w w := by have := kE.drop (g := g) (h := s.h) (w := w) j g.S fun _ x => x; rw [hj1] at this; exact this
  have hver : (pX s.h j (vj, .none) K).1 = (s.h K).1 := by
    by_cases hk : K = j
    · subst hk; rw [bK, hj1]
    · rw [fO _ _ _ _ hk]
  have I2 := I1.aCa (i := K) (v := g.val j) (e := e) (sz := sz) (xs := xs) (dp := dp) (cells := cells) (F := g.fp j) (pool' := []) p1 p2 p3 p4 hfr (by simp) List.nodup_nil (fun hd => by
    subst hd
    simp only [if_true, List.nil_append]
    exact ⟨(p5 rfl).1, fun b hb => ⟨hb, by simp⟩⟩)
  have T2 := kE.create (g := g) (h := pX s.h j (vj, .none)) (w := w) K (g.val j) (g.fp j) (.row e sz xs dp)
  rw [hver] at I2 T2
  refine ⟨_, R.pU (T1.trans T2) rfl R.below I2, T1.trans T2, ?_⟩
  rintro v ⟨h0, _, hv⟩
  refine ⟨h0, ?_, ?_⟩
  · show _ ≤ (pX _ K _ K).1
    rw [bK]; exact Nat.le_refl _
  · intro _ e' sz' xs' dp' _
    show v = aGg g.val K (g.val j) K
    rw [gS]
    exact hv hj1 e sz xs dp hj2
theorem aL8 {g : Gh} {a : Act} {w : World} {K : Nat} (e : TypeId) (sz : Nat) (R : kU base w0 N g s a w []) :
    ∃ g', kU base w0 N g' (s.iG K ((s.h K).1 + 1, .row e sz [] true)) a w [] ∧ kE g g' s.h (s.iG K ((s.h K).1 + 1, .row e sz [] true)).h w w ∧
      ∀ v, aAz g s.h w .nil v → aAz g' (s.iG K ((s.h K).1 + 1, .row e sz [] true)).h w (.row K ((s.h K).1 + 1)) v := by
  have I2 := R.inv.aCa (i := K) (v := .slice none 0 0) (e := e) (sz := sz) (xs := []) (dp := true) (cells := []) (F := []) (pool' := []) (World.ownsRow_nil w base e sz) (by simp) (by simp [aQ]) (by simp) (by intro b hb; cases hb) (by simp) List.nodup_nil (fun _ => ⟨List.nodup_nil, by simp⟩)
  have T2 := kE.create (g := g) (h := s.h) (w := w) K (.slice none 0 0) [] (.row e sz [] true)
  refine ⟨_, R.pU T2 rfl R.below I2, T2, ?_⟩
  intro v hv
  have hv : v = .slice none 0 0 := hv
  subst hv
  refine ⟨rfl, ?_, ?_⟩
  · show _ ≤ (pX _ K _ K).1
    rw [bK]; exact Nat.le_refl _
  · intro _ e' sz' xs' dp' _
    show _ = aGg g.val K _ K
    rw [gS]
theorem aLN {g : Gh} {a : Act} {w : World} {i : Nat} {sv : SV} (R : kU base w0 N g s a w []) (hv : nF g s.h w sv (a.tmps.getD i undef)) : kU base w0 N g (s.aC6 i sv) a w [] := by
  refine ⟨R.defers, R.size, R.below, R.q, R.inv, fun t => ?_⟩
  rw [St.aBf]
  by_cases ht : t = i
  · subst ht; simp only [if_true]; exact hv
  · simp only [ht, if_false]; exact R.tmp t
theorem Gho.aMX {i j K vj : Nat} {e : TypeId} {sz : Nat} {xs : List (List D)} {dp : Bool} (h1 : s.t i = .v false [.row j vj]) (h2 : s.h j = (vj, .row e sz xs dp)) :
    Gho base w0 N s (((s.iG j (vj, .none)).iG K ((s.h K).1 + 1, .row e sz xs dp)).aC6 i (.v false [.row K ((s.h K).1 + 1)])) := by
  rintro a w ⟨g, R⟩
  have ht := R.tmp i
  rw [h1] at ht
  obtain ⟨g', R', T, hc⟩ := aK2 (K := K) R h2
  exact ⟨g', aLN R' ⟨_, [], rfl, hc _ (eT ht), rfl⟩⟩
theorem Gho.aQI {i K : Nat} (e : TypeId) (sz : Nat) (h1 : s.t i = .v false [.nil]) :
    Gho base w0 N s ((s.iG K ((s.h K).1 + 1, .row e sz [] true)).aC6 i (.v false [.row K ((s.h K).1 + 1)])) := by
  rintro a w ⟨g, R⟩
  have ht := R.tmp i
  rw [h1] at ht
  obtain ⟨g', R', T, hc⟩ := aL8 (K := K) e sz R
  exact ⟨g', aLN R' ⟨_, [], rfl, hc _ (eT ht), rfl⟩⟩
theorem aY.set {g : Gh} {h : Heap} {w : World} : ∀ {cs : List SC} {vs : List Value} (c : Nat) (x y : SC), aY g h w cs vs → cs[c]? = some x → (∀ v, aAz g h w x v → aAz g h w y v) → aY g h w (cs.set c y) vs
  | [], vs, c, x, y, hc, hx, _ => by simp at hx
  | z :: cs, vs, 0, x, y, hc, hx, hxy => by
    obtain ⟨v, vs', rfl, h1, h2⟩ := hc
    simp at hx
    subst hx
    exact ⟨v, vs', rfl, hxy v h1, h2⟩
  | z :: cs, vs, c + 1, x, y, hc, hx, hxy => by
    obtain ⟨v, vs', rfl, h1, h2⟩ := hc
    exact ⟨v, vs', rfl, h1, aY.set c x y h2 (by simpa using hx) hxy⟩
theorem aPw {g : Gh} {a : Act} {w : World} {b vb b' : Nat} {t : TypeId} {cells cells' : List SC} {vals : Array Value} (R : kU base w0 N g s a w []) (hb : s.h b = (vb, .box t cells)) (h3 : g.val b = .pointer (some ⟨b', 0, none⟩)) (h5 : w.heap[b']? = some (.cells vals t (0, 0))) (hc : aY g s.h w cells' vals.toList) :
    ∃ g', kU base w0 N g' (s.iG b (vb, .box t cells')) a w [] := by
  have hb1 : (s.h b).1 = vb := by rw [hb]
  have hb2 : (s.h b).2 = .box t cells := by rw [hb]
  have hlive : live s.h b := by unfold live; rw [hb2]; simp
  have hown : aBy (g.val b) = some b' := by rw [h3]; rfl
  have hnS := R.inv.mtb b b' hlive hown
  have T : kE g { g with fp := aGg g.fp b (g.fp b) } s.h (pX s.h b ((s.h b).1, .box t cells')) w w :=
    kE.aHQ hnS (fun _ _ => rfl) (by intro e sz xs dp hh'; cases hh') (by intro t0 cs0 hh'; cases hh'; exact ⟨_, hb2⟩)
  have I' := R.inv.aHQ (i := b) (b := b') (F := g.fp b) (pool' := []) (w' := w) hlive hown rfl (fun _ _ => rfl) T
    ⟨b', vals, h3, (R.inv.aDn hlive hown).1, h5, hc.pU T⟩ (by simp) List.nodup_nil (by rintro ⟨_, _, _, hh'⟩; cases hh')
  rw [hb1] at T I'
  exact ⟨_, R.pU T rfl R.below I'⟩
theorem aHB {g g' : Gh} {a : Act} {w : World} {b vb c : Nat} {t : TypeId} {cells : List SC} {x y : SC} (R : kU base w0 N g s a w []) (R' : kU base w0 N g' s' a w []) (T : kE g g' s.h s'.h w w) (h0 : s.h b = (vb, .box t cells)) (h0' : s'.h b = (vb, .box t cells)) (h1 : cells[c]? = some x)
    (hc : ∀ v, aAz g s.h w x v → aAz g' s'.h w y v) : Rel base w0 N (s'.iG b (vb, .box t (cells.set c y))) a w := by
  have hob := R.inv.obj b
  rw [show (s.h b).2 = .box t cells from by rw [h0]] at hob
  obtain ⟨b', vals, h3, h4, h5, h6⟩ := hob
  have hv : g'.val b = g.val b := (T.box b t cells (by rw [h0', h0]) (by rw [h0'])).1
  have hnew : ∀ {cs : List SC} {vs : List Value} (c : Nat), aY g s.h w cs vs → cs[c]? = some x → aY g' s'.h w (cs.set c y) vs := by
    intro cs
    induction cs with
    | nil => intro vs c _ hx; simp at hx
    | cons z cs ih =>
      intro vs c hA hx
      obtain ⟨v, vs', rfl, k1, k2⟩ := hA
      cases c with
      | zero => simp at hx; subst hx; exact ⟨v, vs', rfl, hc v k1, k2.pU T⟩
      | succ c => exact ⟨v, vs', rfl, k1.pU T, ih c k2 (by simpa using hx)⟩
  exact aPw R' h0' (hv.trans h3) h5 (hnew c h6 h1)
theorem Gho.aQn {b vb c j K vj : Nat} {t : TypeId} {cells : List SC} {e : TypeId} {sz : Nat} {xs : List (List D)} {dp : Bool} (h0 : s.h b = (vb, .box t cells)) (h1 : cells[c]? = some (.row j vj)) (h2 : s.h j = (vj, .row e sz xs dp)) (hk : b ≠ K) :
    Gho base w0 N s (((s.iG j (vj, .none)).iG K ((s.h K).1 + 1, .row e sz xs dp)).iG b (vb, .box t (cells.set c (.row K ((s.h K).1 + 1))))) := by
  rintro a w ⟨g, R⟩
  have hjb : b ≠ j := fun e => by rw [e, h2] at h0; cases h0
  obtain ⟨g', R', T, hc⟩ := aK2 (K := K) R h2
  refine aHB R R' T h0 ?_ h1 hc
  show pX (pX s.h j _) K _ b = _
  rw [fO _ _ _ _ hk, fO _ _ _ _ hjb, h0]
theorem Gho.aQY {b vb c K : Nat} {t : TypeId} {cells : List SC} (e : TypeId) (sz : Nat) (h0 : s.h b = (vb, .box t cells)) (h1 : cells[c]? = some .nil) (hk : b ≠ K) :
    Gho base w0 N s ((s.iG K ((s.h K).1 + 1, .row e sz [] true)).iG b (vb, .box t (cells.set c (.row K ((s.h K).1 + 1))))) := by
  rintro a w ⟨g, R⟩
  obtain ⟨g', R', T, hc⟩ := aL8 (K := K) e sz R
  refine aHB R R' T h0 ?_ h1 hc
  show pX s.h K _ b = _
  rw [fO _ _ _ _ hk, h0]
theorem sq {x y : Code} (h : SW P base w0 N x s (aft P base w0 N Z (.code y :: k))) : SW P base w0 N (.seq x y) s (aft P base w0 N Z k) := aP2 h
theorem bk {id : Nat} {c : Code} (h : SW P base w0 N c s (aft P base w0 N Z (.block id :: k))) : SW P base w0 N (.block id c) s (aft P base w0 N Z k) := aNy h
theorem sk (h : aft P base w0 N Z k .normal s) : SW P base w0 N .skip s (aft P base w0 N Z k) := aOI h
theorem xt {id : Nat} (h : aft P base w0 N Z k (.exit id) s) : SW P base w0 N (.exit id) s (aft P base w0 N Z k) := aOC h
theorem rt (h : Z s) : SW P base w0 N .ret s (aft P base w0 N Z k) := aPG h
theorem an {c : Code} (h : SW P base w0 N c s (aft P base w0 N Z k)) : aft P base w0 N Z (.code c :: k) .normal s := h
theorem ab {id : Nat} (h : aft P base w0 N Z k .normal s) : aft P base w0 N Z (.block id :: k) .normal s := h
end
end Go.Sh
namespace Go.Sh
set_option linter.unusedVariables false
set_option linter.unusedSimpArgs false
open Go.RowKit
section
variable {P : Program} {base N : Nat} {w0 : W0} {Z : St → Prop} {k : List Fr} {s s' : St}
theorem aY.swap {g g' : Gh} {h h' : Heap} {w : World} {x y : SC} (T : kE g g' h h' w w) (hc : ∀ v, aAz g h w x v → aAz g' h' w y v) : ∀ {cs : List SC} {vs : List Value} (c : Nat), aY g h w cs vs → cs[c]? = some x → aY g' h' w (cs.set c y) vs
  | [], _, c, _, hx => by simp at hx
  | z :: cs, vs, 0, hA, hx => by
    obtain ⟨v, vs', rfl, k1, k2⟩ := hA
    simp at hx
    subst hx
    exact ⟨v, vs', rfl, hc v k1, k2.pU T⟩
  | z :: cs, vs, c + 1, hA, hx => by
    obtain ⟨v, vs', rfl, k1, k2⟩ := hA
    exact ⟨v, vs', rfl, k1.pU T, aY.swap T hc c k2 (by simpa using hx)⟩
end
end Go.Sh
