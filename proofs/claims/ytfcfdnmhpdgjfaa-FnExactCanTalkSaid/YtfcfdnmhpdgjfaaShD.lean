/-
  Helper text: steps for proofs; from a row's reading to plain data and back. No conditions.
-/
import Derived.Test.YtfcfdnmhpdgjfaaShC
import Derived.ProofKit
import Derived.OpenShut
import Derived.ShutString
import Derived.Deep.Slices
import Derived.Carry
namespace Go.Sh
open Go.RowKit
set_option linter.unusedVariables false

theorem init_t (args : List (Bool × List D)) (i : Nat) : (init args).t i = match args[i]? with | some (ag, ds) => .v ag (ds.map .dat) | none => .undef := rfl
theorem init_h (args : List (Bool × List D)) (i : Nat) : (init args).h i = (0, .none) := rfl

/-- both ways of a test -/
def condOf (v : SV) (A B : Prop) : Prop := match v with
  | .v false [.dat (.bool b)] => (b = true → A) ∧ (b = false → B)
  | _ => False
theorem condOf_bool (b : Bool) (A B : Prop) : condOf (.v false [.dat (.bool b)]) A B = ((b = true → A) ∧ (b = false → B)) := rfl

theorem SW_if {P : Program} {base N : Nat} {w0 : World} {Z : St → Prop} {k : List Fr} {s : St} {t : Nat} {x y : Code} (h : condOf (s.t t) (SW P base w0 N x s (aft P base w0 N Z k)) (SW P base w0 N y s (aft P base w0 N Z k))) :
    SW P base w0 N (.cond (.tmp t) x y) s (aft P base w0 N Z k) := by
  unfold condOf at h
  split at h
  · rename_i b hb
    exact SW_cond hb h.1 h.2
  · exact h.elim

theorem wrap_ok {n : Int} (h1 : -9223372036854775808 ≤ n) (h2 : n ≤ 9223372036854775807) : IntKind.i64.wrap n = n := by rw [IntKind.wrap_i64]; omega

attribute [simp] exOps exOpsF evG evOp vOp vOpt put ex exF cst one aft St.t_setT St.h_setT St.t_setH St.h_setH takeIn look0 lookBox lookCaps look1 lookArgs nameCells nameVals nameRes fillParts rows intBin strBin lenOf evLoad evStore evField evIndexAddr appended evAppend capsOf D.flat rid TI.agg init_t init_h gather RetCells RetVals idsOf idsAll condOf_bool
end Go.Sh

namespace Go.Sh
open Go.RowKit Go.ChangeShapes Go.WideShapes Go.Deep
set_option linter.unusedVariables false

/-! ### from the form's readings to plain data -/
inductive Shp where
  | int (k : IntKind)
  | bool
  | str
  | sl (es : List Shp)

def shFields (P : Program) (f : TypeId → Option (List Shp)) : Nat → List Field → Option (List Shp)
  | _, [] => some []
  | off, x :: xs => if x.offset = off then (match f x.type, shFields P f (off + P.cellsOf x.type) xs with
      | some a, some b => if a.length = P.cellsOf x.type then some (a ++ b) else none
      | _, _ => none) else none

def shOf (P : Program) : Nat → TypeId → Option (List Shp)
  | 0, _ => none
  | n + 1, t => match P.underlying t with
    | some (.int k) => some [.int k]
    | some .bool => some [.bool]
    | some .string => some [.str]
    | some (.slice e) => match shOf P n e with
      | some es => if es.length = P.cellsOf e ∧ 0 < es.length then some [.sl es] else none
      | none => none
    | some (.struct fs) => match shFields P (shOf P n) 0 fs.toList with
      | some es => if es.length = P.cellsOf t then some es else none
      | none => none
    | _ => none

mutual
def Has : Shp → D → Prop
  | .int k, d => ∃ n, d = .int k n ∧ (Lit.int k n).wf = true
  | .bool, d => ∃ b, d = .bool b
  | .str, d => ∃ s, d = .str s ∧ s.size ≤ maxLen
  | .sl es, d => ∃ xs, d = .sl xs ∧ xs.length ≤ maxLen ∧ ∀ x ∈ xs, HasL es x
def HasL : List Shp → List D → Prop
  | [], ds => ds = []
  | e :: es, ds => ∃ d ds', ds = d :: ds' ∧ Has e d ∧ HasL es ds'
end

theorem HasL.append : ∀ {a b : List Shp} {x y : List D}, HasL a x → HasL b y → HasL (a ++ b) (x ++ y)
  | [], b, x, y, h, k => by simp only [HasL] at h; subst h; exact k
  | e :: a, b, x, y, h, k => by
    simp only [HasL] at h
    obtain ⟨d, ds', rfl, h1, h2⟩ := h
    simp only [List.cons_append, HasL]
    exact ⟨d, ds' ++ y, rfl, h1, HasL.append h2 k⟩
theorem HasL.length : ∀ {a : List Shp} {x : List D}, HasL a x → x.length = a.length
  | [], x, h => by simp only [HasL] at h; subst h; rfl
  | e :: a, x, h => by
    simp only [HasL] at h
    obtain ⟨d, ds', rfl, h1, h2⟩ := h
    simp [HasL.length h2]

section
variable {H : Type} {enc : TypeId × Value → H} {P : Program} {w : World} {base : Nat} {spare : Nat → Bool} {held : Bool}

theorem repCells_one {w : World} {d : D} {v : Value} {F : List Nat} (h : Rep w d v F) : RepCells w [d] [v] F := by
  simp only [RepCells]
  exact ⟨v, [], F, [], rfl, by simp, h, rfl, rfl⟩
theorem hasL_one {e : Shp} {d : D} (h : Has e d) : HasL [e] [d] := by
  simp only [HasL]
  exact ⟨d, [], rfl, h, rfl⟩

theorem fields_rep {n m : Nat} (ih : ∀ (t : TypeId) (shs : List Shp) (cs : List Value) (x : DataW H × List MemPlace), shOf P n t = some shs → DataW.trod enc P w base spare held m t cs = some x → ∃ ds F, RepCells w ds cs F ∧ HasL shs ds) :
    ∀ (fs : List Field) (off : Nat) (shs : List Shp) (cs : List Value), shFields P (shOf P n) off fs = some shs → off + shs.length = cs.length →
      (∀ f ∈ fs, ∃ x, DataW.trod enc P w base spare held m f.type ((cs.drop f.offset).take (P.cellsOf f.type)) = some x) → ∃ ds F, RepCells w ds (cs.drop off) F ∧ HasL shs ds
  | [], off, shs, cs, h, hl, _ => by
    simp [shFields] at h
    subst h
    refine ⟨[], [], ?_, by simp [HasL]⟩
    rw [List.drop_of_length_le (by simpa using Nat.le_of_eq hl.symm)]
    simp [RepCells]
  | f :: fs, off, shs, cs, h, hl, hf => by
    simp only [shFields] at h
    split at h
    · rename_i ho
      split at h
      · rename_i a b ha hb
        split at h
        · rename_i hlen
          cases h
          obtain ⟨x, hx⟩ := hf f (by simp)
          obtain ⟨d1, F1, k1, k2⟩ := ih _ _ _ _ ha hx
          obtain ⟨d2, F2, k3, k4⟩ := fields_rep ih fs _ b cs hb (by rw [List.length_append, hlen] at hl; omega) fun y hy => hf y (by simp [hy])
          refine ⟨d1 ++ d2, F1 ++ F2, ?_, k2.append k4⟩
          have : cs.drop off = (cs.drop f.offset).take (P.cellsOf f.type) ++ cs.drop (off + P.cellsOf f.type) := by
            rw [ho, ← List.drop_drop, List.take_append_drop]
          rw [this]
          exact k1.append k3
        · cases h
      · cases h
    · cases h

theorem spot_none {a : Addr} {v : Value} (h : w.cell? a = some v) : a = ⟨a.block, a.off, none⟩ := by
  obtain ⟨b, o, s⟩ := a
  unfold World.cell? at h
  cases s with
  | none => rfl
  | some s =>
    split at h
    · simp at h
    · cases h

theorem elems_rep {es : List Shp} {C : Nat} (hC : es.length = C) {a : Addr} : ∀ (len : Nat), (∀ i, i < len → ∃ cs' ds F, cs'.length = C ∧ (∀ j, j < C → w.cell? (a.add (i * C + j)) = cs'[j]?) ∧ RepCells w ds cs' F ∧ HasL es ds) →
    ∃ xs cells G, xs.length = len ∧ (∀ x ∈ xs, HasL es x) ∧ RepRows w xs cells G ∧ cells.length = len * C ∧ ∀ j, j < len * C → w.cell? (a.add j) = cells[j]?
  | 0, _ => ⟨[], [], [], rfl, by simp, by simp [RepRows], by simp, by simp⟩
  | len + 1, h => by
    obtain ⟨xs, cells, G, h1, h2, h3, h4, h5⟩ := elems_rep hC len fun i hi => h i (by omega)
    obtain ⟨cs', ds, F, k1, k2, k3, k4⟩ := h len (by omega)
    refine ⟨xs ++ [ds], cells ++ cs', G ++ F, by simp [h1], ?_, ?_, by rw [List.length_append, h4, k1, Nat.add_mul]; omega, ?_⟩
    · intro x hx
      rcases List.mem_append.1 hx with hx | hx
      · exact h2 x hx
      · simp at hx; subst hx; exact k4
    · refine h3.append ?_
      simp only [RepRows]
      exact ⟨cs', [], F, [], by simp, by simp, k3, rfl, rfl⟩
    · intro j hj
      rw [Nat.add_mul, Nat.one_mul] at hj
      by_cases hjl : j < len * C
      · rw [h5 j hjl, List.getElem?_append_left (by omega)]
      · have := k2 (j - len * C) (by omega)
        rw [show len * C + (j - len * C) = j from by omega] at this
        rw [this, List.getElem?_append_right (by omega), h4]

theorem trod_rep : ∀ (n : Nat) (m : Nat) (t : TypeId) (shs : List Shp) (cs : List Value) (x : DataW H × List MemPlace), shOf P n t = some shs → DataW.trod enc P w base spare held m t cs = some x → ∃ ds F, RepCells w ds cs F ∧ HasL shs ds
  | 0, _, _, _, _, _, h, _ => by simp [shOf] at h
  | n + 1, m, t, shs, cs, x, h, hx => by
    simp only [shOf] at h
    split at h
    · rename_i k hu
      cases h
      obtain ⟨v, rfl, _, hw⟩ := DataW.trod_int hu hx
      exact ⟨[.int k v], [], repCells_one (by simp [Rep]), hasL_one (by simp [Has, hw])⟩
    · rename_i hu
      cases h
      obtain ⟨v, rfl, _⟩ := DataW.trod_bool hu hx
      exact ⟨[.bool v], [], repCells_one (by simp [Rep]), hasL_one (by simp [Has])⟩
    · rename_i hu
      cases h
      obtain ⟨v, rfl, _, hw⟩ := DataW.trod_string hu hx
      exact ⟨[.str v], [], repCells_one (by simp [Rep]), hasL_one (by simp [Has, hw])⟩
    · rename_i e hu
      split at h
      · rename_i es hes
        split at h
        · rename_i hc
          cases h
          rcases open_slice hu hx with ⟨rfl, _⟩ | ⟨a, len, cap, mm, fu, Dd, Pl, rfl, h1, h2, h3, h4, _, h6⟩
          · refine ⟨[.sl []], [], ?_, ?_⟩
            · refine repCells_one ?_
              simp only [Rep]
              exact ⟨none, 0, 0, rfl, rfl, Nat.le_refl _, .inl (by simp)⟩
            · refine hasL_one ?_
              simp only [Has]
              exact ⟨[], rfl, by simp, by simp⟩
          · have hle : len ≤ mm := by rw [h4]; split <;> omega
            obtain ⟨xs, cells, G, k1, k2, k3, k4, k5⟩ := elems_rep (w := w) hc.1 (a := a) len fun i hi => by
              obtain ⟨cs', q1, q2⟩ := h6 i (by omega)
              obtain ⟨_, q3, q4⟩ := World.cells?_some q1
              obtain ⟨ds, F, q5, q6⟩ := trod_rep n fu e es cs' _ hes q2
              exact ⟨cs', ds, F, q3, fun j hj => by rw [← Go.Deep.add_add]; exact q4 j hj, q5, q6⟩
            rcases Nat.eq_zero_or_pos len with h0 | h0
            · have hxs : xs = [] := List.eq_nil_of_length_eq_zero (by omega)
              subst hxs
              refine ⟨[.sl []], [], ?_, ?_⟩
              · refine repCells_one ?_
                simp only [Rep]
                exact ⟨some a, len, cap, rfl, by simpa using h0, h2, .inl ⟨h0, trivial⟩⟩
              · refine hasL_one ?_
                simp only [Has]
                exact ⟨[], rfl, by simp, by simp⟩
            · have hpos : 0 < len * P.cellsOf e := Nat.mul_pos h0 (by omega)
              have hc0 := k5 0 hpos
              have hc0' : cells[0]? = some (cells[0]'(by omega)) := List.getElem?_eq_getElem (by omega)
              have hadd0 : a.add 0 = a := by simp [Addr.add]
              rw [hadd0, hc0'] at hc0
              have ha := spot_none hc0
              refine ⟨[.sl xs], a.block :: G, ?_, ?_⟩
              · refine repCells_one ?_
                simp only [Rep]
                refine ⟨some a, len, cap, rfl, k1.symm, h2, .inr ⟨a.block, a.off, cells, P.cellsOf e, G, by rw [← ha], World.block_lt_of_cell? w a hc0, rfl, ?_, k4, ?_, k3⟩⟩
                · intro j u hu'
                  have hj : j < len * P.cellsOf e := by rw [← k4]; exact (List.getElem?_eq_some_iff.1 hu').1
                  have := k5 j hj
                  rw [ha, Addr.add_lit] at this
                  rw [this]; exact hu'
                · intro x hx'
                  rw [(k2 x hx').length, hc.1]
              · refine hasL_one ?_
                simp only [Has]
                exact ⟨xs, rfl, by omega, k2⟩
        · cases h
      · cases h
    · rename_i fs hu
      split at h
      · rename_i es hes
        split at h
        · rename_i hc
          cases h
          obtain ⟨xs, mm, rfl, _, q1, q2, q3⟩ := DataW.trod_struct hu hx
          have := fields_rep (m := mm) (fun t shs cs x => trod_rep n mm t shs cs x) fs.toList 0 shs cs hes (by omega) (fun f hf => by
            obtain ⟨i, hi⟩ := List.getElem?_of_mem hf
            have hi' : fs[i]? = some f := by simpa using hi
            have hlt : i < xs.length := by rw [q2]; exact (Array.getElem?_eq_some_iff.1 hi').1
            exact ⟨xs[i], by rw [q3 i f hi', List.getElem?_eq_getElem hlt]⟩)
          simpa using this
        · cases h
      · cases h
    · cases h

/-- an argument of the law -/
theorem arg_rep {n : Nat} {t : TypeId} {shs : List Shp} {v : Value} {d : DataW H} {p : List MemPlace} {b : Nat} (h : shOf P n t = some shs) (hv : Value.okWide P w .any b t v) (ht : DataW.Trod enc P w base spare held t v d p) :
    ∃ ds, HasL shs ds ∧ ArgRep w v (aggT P t, ds) := by
  obtain ⟨fuel, hf⟩ := id ht
  obtain ⟨ds, F, h1, h2⟩ := trod_rep n fuel t shs _ _ h hf
  refine ⟨ds, h2, ?_⟩
  have one : v.cells.toList = [v] → ∃ d F, ds = [d] ∧ Rep w d v F := by
    intro hc
    rw [hc] at h1
    have hl := h1.length
    match ds, h1, hl with
    | [d], h1, _ =>
      simp only [RepCells] at h1
      obtain ⟨u, us, F1, F2, e1, e2, e3, _⟩ := h1
      simp at e1
      exact ⟨d, F1, rfl, e1.1 ▸ e3⟩
  cases n with
  | zero => simp [shOf] at h
  | succ n =>
    simp only [shOf] at h
    unfold aggT
    split at h
    · rename_i k hu
      obtain ⟨x, rfl, _⟩ := open_int hu hv ht
      rw [hu]
      exact one rfl
    · rename_i hu
      obtain ⟨x, rfl, _⟩ := open_bool hu hv ht
      rw [hu]
      exact one rfl
    · rename_i hu
      obtain ⟨x, rfl, _⟩ := Go.ChangeMaps.open_string hu hv ht
      rw [hu]
      exact one rfl
    · rename_i e hu
      obtain ⟨x, y, z, rfl⟩ := okWide_slice hu hv
      rw [hu]
      exact one rfl
    · rename_i fs hu
      obtain ⟨cs, rfl, _⟩ := okWide_struct hu hv
      rw [hu]
      exact ⟨cs, F, rfl, h1⟩
    · cases h

/-! ### the row's last step -/
theorem post_below {f : Func} {s : ChangeSpec} {apart fresh handsOn again : Bool} {W W' : World} {args : Array Value} {v : Value} {ds gs : List (DataW H)} {before pa pv : List MemPlace}
    (hW : DataW.Whole enc P f.params.toList s.vars apart W args.toList ds gs before)
    (hres : ∀ (b : Nat) (sp : Nat → Bool) (hd : Bool), DataW.TrodAll enc P W' b sp hd f.resultTypes.toList (v.resultList f.resultTypes.size) (s.fn H (ds ++ gs)).results [])
    (hargs : ∀ sp : Nat → Bool, (∀ p ∈ before, sp p.block = true) → DataW.TrodAll enc P W' 0 sp true f.params.toList args.toList (s.fn H (ds ++ gs)).args pa)
    (hvars : ∀ sp : Nat → Bool, (∀ p ∈ before, sp p.block = true) → DataW.TrodVars enc P W' sp s.vars (s.fn H (ds ++ gs)).vars pv)
    (hps : before = pa ++ pv) (hb : Below W.heap.size W W')
    (hok : ∀ (j : Nat) (t : TypeId) (r : Value), f.resultTypes[j]? = some t → (v.resultList f.resultTypes.size)[j]? = some r → Value.okWide P W' .any 0 t r) :
    s.post enc P f apart fresh handsOn again W args v W' := by
  have hlt : ∀ p ∈ before, p.block < W.heap.size := fun p hp => hW.lt p hp
  have hold : ∀ p ∈ before, (fun b => decide (b < W.heap.size)) p.block = true := fun p hp => by simpa using hlt p hp
  refine ⟨ds, gs, before, [], pa, pv, hW, hres _ _ _, hargs _ hold, hvars _ hold, World.keptBut_mono (fun p hp => ⟨hp, ?_⟩) (hb.frame (· ∈ before)), fun _ => ?_⟩
  · rw [hps, List.mem_append] at hp
    exact Or.inr hp
  · obtain ⟨_, _, _, _, _, hz, hn⟩ := hW
    refine ⟨hok, _, _, ([] ++ pa) ++ pv, ⟨[] ++ pa, pv, trodAll_append (hargs _ (fun _ _ => rfl)) (hres _ _ _), hvars _ (fun _ _ => rfl), rfl, ?_, ?_⟩, ?_⟩
    · intro b off hp
      have hin : MemPlace.cell b off ∈ before := by rw [hps]; simpa using hp
      rw [hb.frozen (hlt _ hin)]
      exact hz b off hin
    · intro ha
      have := hn ha
      rw [hps] at this
      simpa using this
    · intro p hp _
      rw [hps]
      simpa using hp

theorem trodAll_stays (hl : laidOutB P = true) {W W' : World} (hb : Below W.heap.size W W') {sp : Nat → Bool} : ∀ {ts : List TypeId} {vs : List Value} {ds : List (DataW H)} {ps : List MemPlace}, DataW.TrodAll enc P W 0 (fun _ => true) true ts vs ds ps →
    (∀ t ∈ ts, P.readableRec t = true ∧ t < P.types.size) → (∀ x ∈ ps, x.block < W.heap.size) → (∀ x ∈ ps, sp x.block = true) → DataW.TrodAll enc P W' 0 sp true ts vs ds ps
  | [], vs, ds, ps, h, _, _, _ => by
    obtain ⟨rfl, rfl, rfl⟩ := trodAll_nil h
    rfl
  | t :: ts, vs, ds, ps, h, ht, hlt, hsp => by
    obtain ⟨v, vs', d, ds', p, q, rfl, rfl, rfl, h1, h2⟩ := trodAll_cons h
    refine ⟨p, q, ?_, ?_, rfl⟩
    · exact WideElems.Trod_stays hl (ht t (by simp)).1 (ht t (by simp)).2 h1 (fun x hx => hb.same (hlt x (by simp [hx]))) (fun x hx => hsp x (by simp [hx]))
    · exact trodAll_stays hl hb h2 (fun u hu => ht u (by simp [hu])) (fun x hx => hlt x (by simp [hx])) (fun x hx => hsp x (by simp [hx]))

def ShAll (P : Program) (n : Nat) : List TypeId → List (List Shp) → Prop
  | [], shs => shs = []
  | t :: ts, shs => ∃ s ss, shs = s :: ss ∧ shOf P n t = some s ∧ ShAll P n ts ss

def HasAll : List (List Shp) → List (List D) → Prop
  | [], ds => ds = []
  | s :: ss, ds => ∃ d ds', ds = d :: ds' ∧ HasL s d ∧ HasAll ss ds'

def mkArgs (P : Program) : List TypeId → List (List D) → List (Bool × List D)
  | t :: ts, d :: ds => (aggT P t, d) :: mkArgs P ts ds
  | _, _ => []

theorem args_rep {n : Nat} {W : World} {b : Nat} : ∀ {ts : List TypeId} {vs : List Value} {ds : List (DataW H)} {ps : List MemPlace} {shs : List (List Shp)}, ShAll P n ts shs → DataW.TrodAll enc P W 0 (fun _ => true) true ts vs ds ps →
    (∀ (j : Nat) t v, ts[j]? = some t → vs[j]? = some v → Value.okWide P W .any b t v) → ∃ dss, HasAll shs dss ∧ ArgsRep W vs (mkArgs P ts dss)
  | [], vs, ds, ps, shs, hs, h, hv => by
    obtain ⟨rfl, rfl, rfl⟩ := trodAll_nil h
    have : shs = [] := hs
    subst this
    exact ⟨[], rfl, trivial⟩
  | t :: ts, vs, ds, ps, shs, hs, h, hv => by
    obtain ⟨s, ss, rfl, hs1, hs2⟩ := hs
    obtain ⟨v, vs', d, ds', p, q, rfl, rfl, rfl, h1, h2⟩ := trodAll_cons h
    obtain ⟨d1, k1, k2⟩ := arg_rep hs1 (hv 0 t v rfl rfl) h1
    obtain ⟨dss, k3, k4⟩ := args_rep hs2 h2 fun j t' v' ht hv' => hv (j + 1) t' v' (by simpa using ht) (by simpa using hv')
    exact ⟨d1 :: dss, ⟨d1, dss, rfl, k1, k3⟩, k2, k4⟩

/-- a law that answers true and only reads its arguments -/
theorem law_holds {f : FuncId} {fn : Func} {s : ChangeSpec} {n tb : Nat} {shs : List (List Shp)} (hl : laidOutB P = true) (hvars : s.vars = []) (hres : fn.resultTypes = #[tb]) (htb : P.underlying tb = some .bool) (hsh : ShAll P n fn.params.toList shs)
    (hread : ∀ t ∈ fn.params.toList, P.readableRec t = true ∧ t < P.types.size)
    (hfn : ∀ (ds : List (DataW H)), ds.length = fn.params.toList.length → s.fn H (ds ++ []) = { results := [.lit (.bool true)], args := ds })
    (hc : ∀ dss, HasAll shs dss → SCalls P f (mkArgs P fn.params.toList dss) [(false, [.ro (.bool true)])])
    {W : World} {b : Nat} {args : Array Value} {ds gs : List (DataW H)} {before : List MemPlace} (hval : ∀ (j : Nat) t v, fn.params[j]? = some t → args[j]? = some v → Value.okWide P W .any b t v)
    (hW : DataW.Whole enc P fn.params.toList s.vars false W args.toList ds gs before) :
    Calls P f args W fun e W' => ∃ v, e = .returned v ∧ s.post enc P fn false true false false W args v W' := by
  have hW' := hW
  obtain ⟨p, q, hA, hV, rfl, hfz, hnd⟩ := hW
  rw [hvars] at hV
  obtain ⟨rfl, rfl⟩ := trodVars_none hV
  obtain ⟨dss, k1, k2⟩ := args_rep hsh hA fun j t v ht hv => hval j t v (by simpa using ht) (by simpa using hv)
  refine ((hc dss k1).2 W args k2).mono fun e W' hh => ?_
  obtain ⟨v, rfl, ⟨F, _, hr⟩, hb⟩ := hh
  have hv : v = .bool true := by
    have h1 : Rep W' (.bool true) v [] := hr.1
    simp only [Rep] at h1
    exact h1.1
  subst hv
  have hdl : ds.length = fn.params.toList.length := by
    have : ∀ {ts : List TypeId} {vs : List Value} {ds : List (DataW H)} {ps : List MemPlace}, DataW.TrodAll enc P W 0 (fun _ => true) true ts vs ds ps → ds.length = ts.length := by
      intro ts
      induction ts with
      | nil => intro vs ds ps h; obtain ⟨_, rfl, _⟩ := trodAll_nil h; rfl
      | cons t ts ih => intro vs ds ps h; obtain ⟨v, vs', d, ds', p, q, rfl, rfl, rfl, h1, h2⟩ := trodAll_cons h; simp [ih h2]
    exact this hA
  have hfn' := hfn ds hdl
  refine ⟨_, rfl, post_below (pa := p) (pv := []) hW' ?_ ?_ ?_ (by simp) hb (ok_one hres rfl (okWide_bool_mk htb _))⟩
  · intro b sp hd
    rw [hfn', hres]
    exact trodAll_cons_mk (shut_bool htb _) trodAll_mk0
  · intro sp hsp
    rw [hfn']
    exact trodAll_stays hl hb hA hread (fun x hx => hW'.lt x (by simpa using hx)) (fun x hx => hsp x (by simpa using hx))
  · intro sp hsp
    rw [hfn', hvars]
    rfl
end
end Go.Sh
