/- The abstract machine "D": package variables that are laid as the program's text says. No statement of the seat is proved in this text. -/
import Derived.Test.YtdpbbppjjjhnoaaGreatDoorEc
import Derived.FnData
import Derived.LaidLaws
import Derived.LaidHandle
set_option linter.unusedSimpArgs false
set_option linter.unusedVariables false
set_option linter.unnecessarySimpa false
namespace Go.Proofs.YtdpbbppjjjhnoaaGreatDoor.D
open Go Go.ChangeShapes Go.WideShapes Go.ChangeAt Go.RowKit

/-! ### What a datum of numbers is in memory -/

def litFs (P : Program) (lc : TypeId → DataW Unit → Option (List Value)) (total : Nat) : List Field → List (DataW Unit) → Nat → Option (List Value)
  | [], [], o => if o = total then some [] else none
  | f :: r, d :: ds, o => if f.offset = o then (match lc f.type d, litFs P lc total r ds (o + P.cellsOf f.type) with | some a, some b => if a.length = P.cellsOf f.type then some (a ++ b) else none | _, _ => none) else none
  | _, _, _ => none

def litEs (lc : DataW Unit → Option (List Value)) (k : Nat) : List (DataW Unit) → Option (List Value)
  | [] => some []
  | d :: ds => match lc d, litEs lc k ds with
    | some a, some b => if a.length = k then some (a ++ b) else none
    | _, _ => none

def litCells (P : Program) : Nat → TypeId → DataW Unit → Option (List Value)
  | 0, _, _ => none
  | m + 1, t, d => match P.underlying t, d with
    | some .bool, .lit (.bool b) => some [.bool b]
    | some (.int k), .lit (.int k' n) => if k' = k then some [.int k n] else none
    | some (.array n e), .agg ds => if P.cellsOf t = ds.length * P.cellsOf e then litEs (litCells P m e) (P.cellsOf e) ds else none
    | some (.struct fs), .agg ds => litFs P (litCells P m) (P.cellsOf t) fs.toList ds 0
    | _, _ => none

theorem litEs_ok {lc : DataW Unit → Option (List Value)} {k : Nat} : ∀ {ds : List (DataW Unit)} {all vs : List Value}, all.length = ds.length * k →
    (∀ (i : Nat) d, ds[i]? = some d → ∀ a, lc d = some a → (all.drop (i * k)).take k = a) → litEs lc k ds = some vs → all = vs
  | [], all, vs, hl, _, h => by
    cases h
    exact List.eq_nil_of_length_eq_zero (by simpa using hl)
  | d :: ds, all, vs, hl, hi, h => by
    simp only [litEs] at h
    split at h
    · rename_i a b ha hb
      split at h
      · rename_i hk
        cases h
        have h0 := hi 0 d rfl a ha
        simp only [Nat.zero_mul, List.drop_zero] at h0
        have h1 := litEs_ok (all := all.drop k) (by simp only [List.length_drop, hl, List.length_cons, Nat.add_mul]; omega) (fun i d' hd a' ha' => by
          have := hi (i + 1) d' (by simpa using hd) a' ha'
          rw [List.drop_drop]
          rw [show k + i * k = (i + 1) * k by rw [Nat.add_mul]; omega]
          exact this) hb
        rw [← h0, ← h1, List.take_append_drop]
      · cases h
    · cases h

theorem litFs_ok {P : Program} {lc : TypeId → DataW Unit → Option (List Value)} {total : Nat} {all : List Value} (ht : all.length = total) : ∀ {fs : List Field} {ds : List (DataW Unit)} {o : Nat} {vs : List Value},
    (∀ (i : Nat) f d, fs[i]? = some f → ds[i]? = some d → ∀ a, lc f.type d = some a → (all.drop f.offset).take (P.cellsOf f.type) = a) → litFs P lc total fs ds o = some vs → all.drop o = vs
  | [], [], o, vs, _, h => by
    simp only [litFs] at h
    split at h
    · rename_i e
      cases h
      exact List.drop_of_length_le (by omega)
    · cases h
  | [], _ :: _, o, vs, _, h => by simp [litFs] at h
  | _ :: _, [], o, vs, _, h => by simp [litFs] at h
  | f :: fs, d :: ds, o, vs, hi, h => by
    simp only [litFs] at h
    split at h
    · rename_i e
      subst e
      split at h
      · rename_i a b ha hb
        split at h
        · rename_i hk
          cases h
          have h0 := hi 0 f d rfl rfl a ha
          have h1 := litFs_ok ht (fun i f' d' hf hd a' ha' => hi (i + 1) f' d' (by simpa using hf) (by simpa using hd) a' ha') hb
          rw [← h0, ← h1, ← List.drop_drop, List.take_append_drop]
        · cases h
      · cases h
    · cases h

theorem trod_lits {P : Program} {w : World} {sp : Nat → Bool} {hd : Bool} : ∀ {m fuel : Nat} {t : TypeId} {cs vs : List Value} {d : DataW Unit} {ps : List MemPlace},
    DataW.trod (fun _ => ()) P w 0 sp hd fuel t cs = some (d, ps) → litCells P m t d = some vs → cs = vs
  | 0, _, _, _, _, _, _, _, h => by cases h
  | m + 1, 0, _, _, _, _, _, h, _ => by simp [DataW.trod] at h
  | m + 1, fuel + 1, t, cs, vs, d, ps, h, hl => by
    simp only [litCells] at hl
    split at hl
    · rename_i b hu
      cases hl
      obtain ⟨b', rfl, e⟩ := DataW.trod_bool hu h
      simp only [Prod.mk.injEq, DataW.lit.injEq, Lit.bool.injEq] at e
      rw [e.1]
    · rename_i k k' n hu
      split at hl
      · rename_i hk
        cases hl
        obtain ⟨n', rfl, e, _⟩ := DataW.trod_int hu h
        simp only [Prod.mk.injEq, DataW.lit.injEq, Lit.int.injEq] at e
        rw [e.1.2]
      · cases hl
    · rename_i n e ds hu
      split at hl
      · rename_i hsz
        unfold DataW.trod at h
        rw [hu] at h
        simp only at h
        split at h
        · rename_i hlen
          rw [Option.map_eq_some_iff] at h
          obtain ⟨xs, hx, hd'⟩ := h
          simp only [Prod.mk.injEq, DataW.agg.injEq] at hd'
          obtain ⟨h1, h2⟩ := mapM_some hx
          rw [List.length_range] at h1
          refine litEs_ok (lc := litCells P m e) (k := P.cellsOf e) (by rw [hlen, hsz]) (fun i d' hd2 a ha => ?_) hl
          have hi : i < xs.length := by
            rw [← hd'.1] at hd2
            rw [List.getElem?_map] at hd2
            rcases Nat.lt_or_ge i xs.length with h | h
            · exact h
            · rw [List.getElem?_eq_none h] at hd2; cases hd2
          obtain ⟨y, hy1, hy2⟩ := h2 i i (List.getElem?_range (by omega))
          have hyd : y.1 = d' := by
            rw [← hd'.1, List.getElem?_map, hy2] at hd2
            simpa using hd2
          obtain ⟨y1, y2⟩ := y
          simp only at hyd
          subst hyd
          exact trod_lits hy1 ha
        · cases h
      · cases hl
    · rename_i fs ds hu
      obtain ⟨xs, n, _, hxd, hlen, hsz, he⟩ := DataW.trod_struct hu h
      simp only [Prod.mk.injEq, DataW.agg.injEq] at hxd
      have := litFs_ok (P := P) (lc := litCells P m) (all := cs) hlen (fs := fs.toList) (ds := ds) (o := 0) (vs := vs) (fun i f d' hf hd2 a ha => by
        have h1 := he i f (by simpa using hf)
        have hi : i < xs.length := by
          rw [hxd.1, List.getElem?_map] at hd2
          rcases Nat.lt_or_ge i xs.length with h | h
          · exact h
          · rw [List.getElem?_eq_none h] at hd2; cases hd2
        rw [List.getElem?_eq_getElem hi] at h1
        have hyd : (xs[i]).1 = d' := by
          rw [hxd.1, List.getElem?_map, List.getElem?_eq_getElem hi] at hd2
          simpa using hd2
        have h3 : DataW.trod (fun _ => ()) P w 0 sp hd n f.type ((cs.drop f.offset).take (P.cellsOf f.type)) = some ((xs[i]).1, (xs[i]).2) := h1
        rw [hyd] at h3
        exact trod_lits h3 ha) hl
      simpa using this
    · cases hl

/-! ### A heap with laid variables -/

def lookG : List (Nat × List Value) → Nat → Option (List Value)
  | [], _ => none
  | (g, l) :: r, b => cond (Nat.beq g b) (some l) (lookG r b)

def heapG (w : World) (G : List (Nat × List Value)) : Heap :=
  { base := fun b o => match lookG G b with | some l => l[o]? | none => baseOf w b o, tr := .leaf, next := 0 }

def GOk (w : World) (G : List (Nat × List Value)) : Prop := ∀ g l, lookG G g = some l → ∀ (o : Nat) v, l[o]? = some v → w.cell? ⟨g, o, none⟩ = some v ∧ cst1 v = true

theorem GOk.lt {w : World} {G : List (Nat × List Value)} (hG : GOk w G) {g : Nat} (h : (match lookG G g with | some (_ :: _) => true | _ => false) = true) : g < w.heap.size := by
  split at h
  · rename_i v l hl
    have h0 := (hG g _ hl 0 v rfl).1
    rcases Nat.lt_or_ge g w.heap.size with h | h
    · exact h
    · simp [World.cell?, Array.getElem?_eq_none h] at h0
  · cases h

theorem relG {w : World} {G : List (Nat × List Value)} (hG : GOk w G) (top : Nat) : Rel w 0 top (fun _ => none) (heapG w G) w := by
  have R := rel0 w top
  refine ⟨?_, R.old, R.size, fun b i h => (by cases h), fun b i h => (by cases h), fun b c i k h => (by cases h), fun b i h => (by cases h), fun b _ => Trie.get_leaf b, rfl, rfl, rfl⟩
  intro b o v h
  have h' : (match lookG G b with | some l => l[o]? | none => baseOf w b o) = some v := h
  split at h'
  · rename_i l hl
    obtain ⟨h1, h2⟩ := hG b l hl o v h'
    refine ⟨Nat.zero_le _, ?_, v, h1, cst1_rel h2⟩
    rcases Nat.lt_or_ge b w.heap.size with h | h
    · exact h
    · simp [World.cell?, Array.getElem?_eq_none h] at h1
  · exact R.base b o v h'

theorem law_callsG {P : Program} {ngl : Nat} {tb : Nat → Option DFn} (htb : ∀ f d, tb f = some d → ∃ fn, P.funcs[f]? = some fn ∧ CompFn P ngl fn d) {G : List (Nat × List Value)} {f k : Nat} {w : World} {args : Array Value} {vs : List Value} {H' : Heap}
    (hG : GOk w G) (hn : ngl ≤ w.heap.size) (hv : LRel w.heap.size (fun _ => none) vs args.toList) (h : callM tb nvNone k f vs (heapG w G) = some (.bool true, H')) :
    Calls P f args w fun e w' => e = .returned (.bool true) ∧ RowKit.Below w.heap.size w w' := by
  obtain ⟨_, _, hc⟩ := callM_ok (w0 := w) (ng := 0) htb nvNone_ok k f vs (heapG w G) _ _ h
  have := hc H'.next (fun _ => none) w args.toList (Nat.le_refl _) (relG hG _) hn hv
  have e1 : args.toList.toArray = args := by simp
  rw [e1] at this
  refine this.mono ?_
  rintro e w' ⟨v', j', rfl, h1, h2, _⟩
  rw [bool_of h1]
  exact ⟨rfl, h2.os, h2.tape, h2.output, h2.size, fun b hb => h2.old b (Nat.zero_le _) hb⟩

/-- What a list of laid variables is in memory. -/
def gOf (P : Program) : List (String × DataW Unit) → Option (List (Nat × List Value))
  | [] => some []
  | (n, d) :: r => match P.globalNamed n, gOf P r with
    | some g, some G => (match (P.globals[g]?).map (·.type) with
      | some t => (match litCells P 8 t d with | some l => if l.all cst1 then some ((g, l) :: G) else none | none => none)
      | none => none)
    | _, _ => none

theorem gOf_ok {P : Program} {w : World} : ∀ {laid : List (String × DataW Unit)} {ps : List MemPlace} {G : List (Nat × List Value)}, DataW.LaidVars P w laid ps → gOf P laid = some G → GOk w G
  | [], ps, G, h, hg => by
    cases hg
    intro g l hl
    cases hl
  | (n, d) :: r, ps, G, h, hg => by
    obtain ⟨g, t, cs, fuel, p, q, h1, h2, h3, h4, h5, _⟩ := h
    cases e2 : gOf P r with
    | none => simp [gOf, h1, h2, e2] at hg
    | some G' =>
      cases hl : litCells P 8 t d with
      | none => simp [gOf, h1, h2, e2, hl] at hg
      | some l =>
        simp only [gOf, h1, h2, e2, hl] at hg
        split at hg
        · rename_i hc
          cases hg
          have hcs := trod_lits h4 hl
          intro b l' hb o v hv
          simp only [lookG] at hb
          rw [nbeq] at hb
          by_cases e : g = b
          · subst e
            have : (g == g) = true := by simp
            rw [this] at hb
            cases hb
            refine ⟨?_, List.all_eq_true.1 hc v (List.mem_of_getElem? hv)⟩
            rw [World.var?_cell h1 h3 o, ← Array.getElem?_toList, hcs]
            exact hv
          · have : (g == b) = false := by simpa using e
            rw [this] at hb
            exact gOf_ok h5 e2 b l' hb o v hv
        · cases hg

/-- A law that the machine reckons to be true, whatever is in its arguments' cells, where variables are laid. -/
theorem contract_blindG {H : Type} {enc : TypeId × Value → H} {P : Program} {ngl F k : Nat} {f : Func} {s : ChangeSpec} {fresh handsOn again : Bool} (hl : laidOutB P = true) {tb : List (Nat × DFn)} (htb : ∀ f d, look tb f = some d → ∃ fn, P.funcs[f]? = some fn ∧ CompFn P ngl fn d)
    {G : List (Nat × List Value)} {W : World} (hG : GOk W G) (hn : ngl ≤ W.heap.size) {base : Nat} {args : Array Value} {ds gs : List (DataW H)} {before : List MemPlace} {tr : TypeId}
    (hval : ∀ (j : Nat) t v, f.params[j]? = some t → args[j]? = some v → Value.okWide P W .any base t v)
    (hW : DataW.Whole enc P f.params.toList s.vars false W args.toList ds gs before) (hvars : s.vars = []) (hrow : rowed P f.params.toList = true)
    (hres : f.resultTypes = #[tr]) (htr : P.underlying tr = some .bool) (hfn : ds.length = f.params.toList.length → s.fn H (ds ++ []) = { results := [.lit (.bool true)], args := ds })
    (run : tru (callM (look tb) nvNone k F (f.params.toList.map (undefV P)) (heapG W G)) = true) :
    Calls P F args W fun e W' => ∃ v, e = .returned v ∧ s.post enc P f false fresh handsOn again W args v W' := by
  obtain ⟨H', hr⟩ := tru_some run
  have hW' := hW
  obtain ⟨p, q, hA, hV, e, _, _⟩ := hW
  obtain ⟨hlen, hdl⟩ := trodAll_length hA
  rw [hvars] at hV
  obtain ⟨rfl, rfl⟩ := trodVars_none hV
  refine (law_callsG htb hG hn (undefL_rel hlen fun j t v h1 h2 => hval j t v (by simpa using h1) (by simpa using h2)) hr).mono fun e W' h => ?_
  obtain ⟨rfl, hb⟩ := h
  exact ⟨_, rfl, close hl hb hW' hvars hrow hres htr (hfn hdl)⟩

/-- A walked law, where variables are laid. -/
theorem contract_evG {H : Type} {enc : TypeId × Value → H} {P : Program} {ngl F : Nat} {f : Func} {s : ChangeSpec} {fresh handsOn again : Bool} (hl : laidOutB P = true) {tb : List (Nat × DFn)} (htb : ∀ f d, look tb f = some d → ∃ fn, P.funcs[f]? = some fn ∧ CompFn P ngl fn d)
    {G : List (Nat × List Value)} {W : World} (hG : GOk W G) (hn : ngl ≤ W.heap.size) {args : Array Value} {ds gs : List (DataW H)} {before : List MemPlace} {tr : TypeId}
    (hW : DataW.Whole enc P f.params.toList s.vars false W args.toList ds gs before) (hvars : s.vars = []) (hrow : rowed P f.params.toList = true)
    (hres : f.resultTypes = #[tr]) (htr : P.underlying tr = some .bool) (hfn : ds.length = f.params.toList.length → s.fn H (ds ++ []) = { results := [.lit (.bool true)], args := ds })
    (run : Ev (look tb) nvNone F (args.toList.map (oldV W.heap.size)) (heapG W G) fun v _ => v = .bool true) :
    Calls P F args W fun e W' => ∃ v, e = .returned v ∧ s.post enc P f false fresh handsOn again W args v W' := by
  obtain ⟨k, v, H', hr, rfl⟩ := run
  have hW' := hW
  obtain ⟨p, q, hA, hV, e, _, _⟩ := hW
  obtain ⟨hlen, hdl⟩ := trodAll_length hA
  rw [hvars] at hV
  obtain ⟨rfl, rfl⟩ := trodVars_none hV
  have hrel : LRel W.heap.size (fun _ => none) (args.toList.map (oldV W.heap.size)) args.toList := ⟨by simp, fun k v v' h1 h2 => by
    rw [List.getElem?_map, h2] at h1
    simp at h1
    subst h1
    exact oldV_rel _⟩
  refine (law_callsG htb hG hn hrel hr).mono fun e W' h => ?_
  obtain ⟨rfl, hb⟩ := h
  exact ⟨_, rfl, close hl hb hW' hvars hrow hres htr (hfn hdl)⟩

/-- A world whose variables hold what is laid. -/
noncomputable def laidW (P : Program) (os : Os) (G : List (Nat × List Value)) : World :=
  let w0 := World.holding P os ⟨#[], #[], []⟩
  { w0 with heap := G.foldl (fun h (x : Nat × List Value) => h.modify x.1 fun
      | .cells _ t frozen => .cells ⟨x.2⟩ t frozen
      | o => o) w0.heap }

end Go.Proofs.YtdpbbppjjjhnoaaGreatDoor.D
