/- The abstract machine "D": what a law's arguments are, as the machine sees them: typed memory of old; how a statement is closed by a walk. No statement of the seat is proved in this text. -/
import Derived.Test.YtdpbbppjjjhnoaaGreatDoorDy
import Derived.Test.YtdpbbppjjjhnoaaGreatDoorEb
set_option linter.unusedSimpArgs false
set_option linter.unusedVariables false
set_option linter.unnecessarySimpa false
namespace Go.Proofs.YtdpbbppjjjhnoaaGreatDoor.D
open Go Go.ChangeShapes Go.WideShapes Go.ChangeAt Go.RowKit

def shapesFs (P : Program) (sh : TypeId → Option (List Sh)) (total : Nat) : List Field → Nat → Option (List Sh)
  | [], o => if o = total then some [] else none
  | f :: r, o => if f.offset = o then (match sh f.type, shapesFs P sh total r (o + P.cellsOf f.type) with | some l, some m => some (l ++ m) | _, _ => none) else none

def shapes (P : Program) : Nat → TypeId → Option (List Sh)
  | 0, _ => none
  | d + 1, t => match P.underlying t with
    | some .bool => some [.b]
    | some (.int k) => some [.i k]
    | some .string => some [.s]
    | some (.slice e) => if P.cellsOf e = 0 then none else (match shapes P d e with | some l => some [.sl (P.cellsOf e) l] | none => none)
    | some (.struct fs) => shapesFs P (shapes P d) (P.cellsOf t) fs.toList 0
    | _ => none

theorem ShsOk.append {base : Nat → Nat → Option Value} : ∀ {l m : List Sh} {a c : List Value}, ShsOk base l a → ShsOk base m c → ShsOk base (l ++ m) (a ++ c)
  | [], m, [], c, _, h => h
  | [], m, _ :: _, c, h, _ => by simp [ShsOk] at h
  | _ :: _, m, [], c, h, _ => by simp [ShsOk] at h
  | x :: l, m, v :: a, c, h, k => by
    simp only [ShsOk] at h
    simp only [List.cons_append, ShsOk]
    exact ⟨h.1, h.2.append k⟩

theorem mapM_some {α β : Type} {f : α → Option β} : ∀ {l : List α} {r : List β}, l.mapM f = some r → r.length = l.length ∧ ∀ (i : Nat) x, l[i]? = some x → ∃ y, f x = some y ∧ r[i]? = some y
  | [], r, h => by
    simp at h
    subst h
    exact ⟨rfl, by simp⟩
  | a :: l, r, h => by
    rw [List.mapM_cons] at h
    cases hf : f a with
    | none => rw [hf] at h; cases h
    | some y =>
      rw [hf] at h
      cases hm : l.mapM f with
      | none => simp [hm] at h
      | some r' =>
        simp [hm] at h
        subst h
        obtain ⟨h1, h2⟩ := mapM_some hm
        refine ⟨by simp [h1], fun i x hx => ?_⟩
        cases i with
        | zero => simp at hx; subst hx; exact ⟨y, hf, rfl⟩
        | succ i => simpa using h2 i x (by simpa using hx)

theorem rdBase_of {base : Nat → Nat → Option Value} {b : Nat} : ∀ {n o : Nat} {l : List Value}, l.length = n → (∀ (i : Nat) v, l[i]? = some v → base b (o + i) = some v) → rdBase base b o n = some l
  | 0, o, l, hl, _ => by
    cases l with
    | nil => rfl
    | cons => simp at hl
  | n + 1, o, [], hl, _ => by simp at hl
  | n + 1, o, v :: l, hl, h => by
    simp only [rdBase]
    rw [show base b o = some v from h 0 v rfl]
    simp only
    rw [rdBase_of (n := n) (o := o + 1) (l := l) (by simpa using hl) (fun i x hx => by
      have := h (i + 1) x (by simpa using hx)
      rwa [show o + (i + 1) = o + 1 + i from by omega] at this)]

theorem cells_base {w : World} {a : Addr} {n : Nat} {cs : List Value} (h : w.cells? 0 a n = some cs) : cs.length = n ∧ rdBase (baseOf w) a.block a.off n = some (cs.map (old1 w.heap.size)) ∧ (n ≠ 0 → a.spot = none ∧ a.block < w.heap.size) := by
  unfold World.cells? at h
  rw [if_pos (Nat.zero_le _)] at h
  obtain ⟨h1, h2⟩ := mapM_some h
  rw [List.length_range] at h1
  have cell : ∀ i, i < n → ∃ y, w.cell? (a.add i) = some y ∧ cs[i]? = some y := fun i hi => h2 i i (by simp [hi])
  have spot : ∀ i y, w.cell? (a.add i) = some y → (a.add i).spot = none ∧ a.block < w.heap.size := by
    intro i y hy
    unfold World.cell? at hy
    split at hy
    · rename_i c e f hb
      split at hy
      · cases hy
      · rename_i hsp
        have hsp' : (a.add i).spot = none := by simpa using hsp
        have hbl : (a.add i).block = a.block := by unfold Addr.add; split <;> rfl
        rw [hbl] at hb
        refine ⟨hsp', ?_⟩
        have : w.heap[a.block]? = some (.cells c e f) := hb
        rcases Nat.lt_or_ge a.block w.heap.size with h | h
        · exact h
        · rw [Array.getElem?_eq_none h] at this; cases this
    · cases hy
  refine ⟨h1, rdBase_of (by simp [h1]) fun i v hv => ?_, fun hn => ?_⟩
  · have hi : i < n := by
      rcases Nat.lt_or_ge i n with h | h
      · exact h
      · rw [List.getElem?_eq_none (by simp [h1, h])] at hv; cases hv
    obtain ⟨y, h3, h4⟩ := cell i hi
    rw [List.getElem?_map, h4] at hv
    simp at hv
    subst hv
    obtain ⟨h5, _⟩ := spot i y h3
    unfold baseOf
    have : w.cell? ⟨a.block, a.off + i, none⟩ = some y := by
      rw [← h3]
      have : a.add i = ⟨a.block, a.off + i, none⟩ := by
        unfold Addr.add at h5 ⊢
        split
        · rename_i h0
          rw [if_pos h0] at h5
          obtain ⟨ab, ao, sp⟩ := a
          simp only at h5
          subst h5
          simp [h0]
        · rfl
      rw [this]
    rw [this]
    rfl
  · obtain ⟨y, h3, _⟩ := cell 0 (by omega)
    have := spot 0 y h3
    simpa [Addr.add] using this

theorem shapesFs_ok {base : Nat → Nat → Option Value} {P : Program} {sh : TypeId → Option (List Sh)} {total : Nat} {all : List Value} (ht : all.length = total) :
    ∀ {fs : List Field} {o : Nat} {l : List Sh}, (∀ f ∈ fs, ∀ l, sh f.type = some l → ShsOk base l ((all.drop f.offset).take (P.cellsOf f.type))) → shapesFs P sh total fs o = some l → ShsOk base l (all.drop o)
  | [], o, l, _, h => by
    simp only [shapesFs] at h
    split at h
    · rename_i e
      cases h
      rw [List.drop_of_length_le (by omega)]
      simp [ShsOk]
    · cases h
  | f :: r, o, l, hf, h => by
    simp only [shapesFs] at h
    split at h
    · rename_i e
      subst e
      split at h
      · rename_i l1 l2 h1 h2
        cases h
        have a := hf f (by simp) l1 h1
        have b := shapesFs_ok ht (fun g hg => hf g (by simp [hg])) h2
        have := a.append b
        rw [← List.drop_drop, List.take_append_drop] at this
        exact this
      · cases h
    · cases h

theorem old1_slice {n0 : Nat} {a : Addr} {len cap : Nat} (hs : a.spot = none) (hb : a.block < n0) (hl : len ≤ cap) : old1 n0 (.slice (some a) len cap) = .slice (some ⟨a.block, a.off, some 0⟩) len cap := by
  obtain ⟨b, o, s⟩ := a
  simp only at hs hb
  subst hs
  simp only [old1]
  rw [if_pos ⟨trivial, hb, hl⟩]

theorem old1_empty {n0 : Nat} {a : Addr} : ∃ b o, old1 n0 (.slice (some a) 0 0) = .slice (some ⟨b, o, some 0⟩) 0 0 := by
  obtain ⟨b, o, s⟩ := a
  simp only [old1]
  split
  · exact ⟨b, o, rfl⟩
  · rw [if_pos ⟨trivial, trivial⟩]
    exact ⟨0, 0, rfl⟩

theorem trod_sh {H : Type} {enc : TypeId × Value → H} {P : Program} {w : World} {hd : Bool} : ∀ {d fuel : Nat} {t : TypeId} {cs : List Value} {x : DataW H × List MemPlace} {l : List Sh},
    DataW.trod enc P w 0 (fun _ => true) hd fuel t cs = some x → shapes P d t = some l → ShsOk (baseOf w) l (cs.map (old1 w.heap.size))
  | 0, _, _, _, _, _, _, h => by cases h
  | d + 1, fuel, t, cs, x, l, h, hs => by
    simp only [shapes] at hs
    split at hs
    · rename_i hu
      cases hs
      obtain ⟨b, rfl, _⟩ := DataW.trod_bool hu h
      simp [ShsOk, ShOk, old1]
    · rename_i k hu
      cases hs
      obtain ⟨n, rfl, _, hw⟩ := DataW.trod_int hu h
      simp only [Lit.wf, Bool.and_eq_true, decide_eq_true_eq] at hw
      simp [ShsOk, ShOk, old1, hw]
    · rename_i hu
      cases hs
      obtain ⟨s, rfl, _, hs⟩ := DataW.trod_string hu h
      simp [ShsOk, ShOk, old1, hs]
    · rename_i e hu
      split at hs
      · cases hs
      · rename_i hn
        split at hs
        · rename_i l' hl'
          cases hs
          rcases DataW.trod_slice hu h with ⟨rfl, _⟩ | ⟨a, len, cap, elems, rest, n, _, rfl, _, _, hlc, hcap, hel, hread, hspare, _⟩
          · simp [ShsOk, ShOk, old1]
          · have elem : ∀ i, i < len → ∃ cs, rdBase (baseOf w) a.block (a.off + i * P.cellsOf e) (P.cellsOf e) = some cs ∧ ShsOk (baseOf w) l' cs := by
              intro i hi
              have hx := hread i hi
              rw [List.getElem?_eq_getElem (by omega)] at hx
              rw [Option.bind_eq_some_iff] at hx
              obtain ⟨cs, h1, h2⟩ := hx
              obtain ⟨_, h3, _⟩ := cells_base h1
              refine ⟨cs.map (old1 w.heap.size), ?_, trod_sh h2 hl'⟩
              have e1 : (a.add (i * P.cellsOf e)).block = a.block ∧ (a.add (i * P.cellsOf e)).off = a.off + i * P.cellsOf e := by
                unfold Addr.add
                split
                · rename_i h0; rw [h0]; exact ⟨rfl, rfl⟩
                · exact ⟨rfl, rfl⟩
              rw [e1.1, e1.2] at h3
              exact h3
            simp only [List.map_cons, List.map_nil, ShsOk, ShOk, and_true]
            refine .inr ?_
            by_cases hc0 : cap = 0
            · subst hc0
              obtain rfl : len = 0 := by omega
              obtain ⟨b, o, hb⟩ := old1_empty (n0 := w.heap.size) (a := a)
              exact ⟨b, o, 0, 0, hb, Nat.le_refl _, Nat.zero_le _, fun i hi => by omega⟩
            · have first : ∃ cs, w.cells? 0 a (P.cellsOf e) = some cs := by
                by_cases hl0 : 0 < len
                · have hx := hread 0 hl0
                  rw [List.getElem?_eq_getElem (by omega), Option.bind_eq_some_iff] at hx
                  obtain ⟨cs, h1, _⟩ := hx
                  simp only [Nat.zero_mul, Addr.add, if_true] at h1
                  exact ⟨cs, h1⟩
                · obtain ⟨h1, h2⟩ := hspare rfl
                  have hx := h2 0 (by omega)
                  rw [List.getElem?_eq_getElem (by omega), Option.bind_eq_some_iff] at hx
                  obtain ⟨cs, h1, _⟩ := hx
                  have hz : (len + 0) * P.cellsOf e = 0 := by rw [show len + 0 = 0 by omega, Nat.zero_mul]
                  rw [hz] at h1
                  simp only [Addr.add, if_true] at h1
                  exact ⟨cs, h1⟩
              obtain ⟨cs, hcs⟩ := first
              obtain ⟨_, _, h3⟩ := cells_base hcs
              obtain ⟨hsp, hb⟩ := h3 hn
              exact ⟨a.block, a.off, len, cap, old1_slice hsp hb hlc, hlc, hcap, elem⟩
        · cases hs
    · rename_i fs hu
      obtain ⟨xs, n, _, _, hl, hsz, he⟩ := DataW.trod_struct hu h
      have := shapesFs_ok (base := baseOf w) (all := cs.map (old1 w.heap.size)) (by simp [hl]) (fs := fs.toList) (o := 0) (l := l) (fun f hf' l' hl' => by
        obtain ⟨i, hi⟩ := List.getElem?_of_mem hf'
        have h1 := he i f (by simpa using hi)
        have hlen : i < xs.length := by
          have : i < fs.toList.length := by
            rcases Nat.lt_or_ge i fs.toList.length with h | h
            · exact h
            · rw [List.getElem?_eq_none h] at hi; cases hi
          simp at this
          omega
        rw [List.getElem?_eq_getElem hlen] at h1
        have h2 := trod_sh h1 hl'
        rw [← List.map_drop, ← List.map_take]
        exact h2) hs
      simpa using this
    · cases hs

def cellTy (P : Program) (t : TypeId) : Bool := match P.underlying t with
  | some .bool | some (.int _) | some .string | some (.slice _) => true
  | _ => false

theorem not_agg {P : Program} {w : World} {r : Reach} {base : Nat} {t : TypeId} {v : Value} (hok : Value.okWide P w r base t v) (ht : cellTy P t = true) : v.cells.toList = [v] := by
  unfold cellTy at ht
  unfold Value.okWide at hok
  split at ht <;> first | (cases ht; done) | skip
  all_goals
    rename_i hu
    rw [hu] at hok
    simp only [Cell.okWide, Cell.ok, hu] at hok
    cases v <;> first | rfl | (simp only at hok; done) | (exact hok.elim)

/-- What was handed over in one cell. -/
theorem arg_one {H : Type} {enc : TypeId × Value → H} {P : Program} {w : World} {hd : Bool} {r : Reach} {base d : Nat} {t : TypeId} {v : Value} {x : DataW H} {ps : List MemPlace} {sh : Sh}
    (hok : Value.okWide P w r base t v) (h : DataW.Trod enc P w 0 (fun _ => true) hd t v x ps) (ht : cellTy P t = true) (hl : shapes P d t = some [sh]) : ShOk (baseOf w) sh (oldV w.heap.size v) := by
  obtain ⟨fuel, h⟩ := h
  have hc := not_agg hok ht
  rw [hc] at h
  have := trod_sh h hl
  simp only [List.map_cons, List.map_nil, ShsOk, and_true] at this
  have e : oldV w.heap.size v = old1 w.heap.size v := by
    cases v with
    | agg c => exact absurd (congrArg List.length hc) (fun _ => by
        unfold Value.okWide at hok
        unfold cellTy at ht
        split at ht <;> first | (cases ht; done) | skip
        all_goals
          rename_i hu
          rw [hu] at hok
          simp only [Cell.okWide, Cell.ok, hu] at hok)
    | _ => rfl
  rw [e]
  exact this

/-- A struct that was handed over. -/
theorem arg_agg {H : Type} {enc : TypeId × Value → H} {P : Program} {w : World} {hd : Bool} {r : Reach} {base d : Nat} {t : TypeId} {fs : Array Field} {v : Value} {x : DataW H} {ps : List MemPlace} {l : List Sh}
    (hok : Value.okWide P w r base t v) (h : DataW.Trod enc P w 0 (fun _ => true) hd t v x ps) (ht : P.underlying t = some (.struct fs)) (hl : shapes P d t = some l) : ∃ cs, oldV w.heap.size v = .agg ⟨cs⟩ ∧ ShsOk (baseOf w) l cs := by
  obtain ⟨fuel, h⟩ := h
  unfold Value.okWide at hok
  rw [ht] at hok
  obtain ⟨cs, rfl, _⟩ := hok
  have := trod_sh h hl
  refine ⟨cs.toList.map (old1 w.heap.size), ?_, this⟩
  simp only [oldV]
  congr 1
  rw [← Array.toList_inj]
  simp

/-- A walked law. -/
theorem contract_ev {H : Type} {enc : TypeId × Value → H} {P : Program} {F : Nat} {f : Func} {s : ChangeSpec} {fresh handsOn again : Bool} (hl : laidOutB P = true) {tb : List (Nat × DFn)} (htb : ∀ f d, look tb f = some d → ∃ fn, P.funcs[f]? = some fn ∧ CompFn P 0 fn d)
    {W : World} {base : Nat} {args : Array Value} {ds gs : List (DataW H)} {before : List MemPlace} {tr : TypeId}
    (hval : ∀ (j : Nat) t v, f.params[j]? = some t → args[j]? = some v → Value.okWide P W .any base t v)
    (hW : DataW.Whole enc P f.params.toList s.vars false W args.toList ds gs before) (hvars : s.vars = []) (hrow : rowed P f.params.toList = true)
    (hres : f.resultTypes = #[tr]) (htr : P.underlying tr = some .bool) (hfn : ds.length = f.params.toList.length → s.fn H (ds ++ []) = { results := [.lit (.bool true)], args := ds })
    (run : Ev (look tb) nvNone F (args.toList.map (oldV W.heap.size)) (heap0 W) fun v _ => v = .bool true) :
    Calls P F args W fun e W' => ∃ v, e = .returned v ∧ s.post enc P f false fresh handsOn again W args v W' := by
  obtain ⟨k, v, H', hr, rfl⟩ := run
  have hW' := hW
  obtain ⟨p, q, hA, hV, e, _, _⟩ := hW
  obtain ⟨hlen, hdl⟩ := trodAll_length hA
  rw [hvars] at hV
  obtain ⟨rfl, rfl⟩ := trodVars_none hV
  have hrel : LRel W.heap.size (fun _ => none) (args.toList.map (oldV W.heap.size)) args.toList := ⟨by simp, fun k v v' h1 h2 => by
    rw [List.getElem?_map, h2] at h1
    simp at h1
    subst h1
    exact oldV_rel _⟩
  refine (law_calls htb hrel hr).mono fun e W' h => ?_
  obtain ⟨rfl, hb⟩ := h
  exact ⟨_, rfl, close hl hb hW' hvars hrow hres htr (hfn hdl)⟩

end Go.Proofs.YtdpbbppjjjhnoaaGreatDoor.D
