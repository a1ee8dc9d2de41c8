/- The abstract machine "D": how a statement is closed: its row's step out of a run of the machine. No statement of the seat is proved in this text. -/
import Derived.Test.YtdpbbppjjjhnoaaGreatDoorDx
import Derived.Test.YtdpbbppjjjhnoaaGreatDoorRows
import Derived.ProofKit
import Derived.OpenShut
import Derived.JoinedCond
import Derived.Carry
set_option linter.unusedSimpArgs false
set_option linter.unusedVariables false
namespace Go.Proofs.YtdpbbppjjjhnoaaGreatDoor.D
open Go Go.ChangeShapes Go.WideShapes Go.ChangeAt Go.RowKit

/-- Each type can be read again, and is a row of the table. -/
def rowed (P : Program) (ts : List TypeId) : Bool := ts.all fun t => P.readableRec t && decide (t < P.types.size)

theorem keep_args {H : Type} {enc : TypeId × Value → H} {P : Program} (hl : laidOutB P = true) {W W' : World} (hb : Below W.heap.size W W') {sp : Nat → Bool} :
    ∀ {ts : List TypeId} {vs : List Value} {ds : List (DataW H)} {ps : List MemPlace}, rowed P ts = true → DataW.TrodAll enc P W 0 (fun _ => true) true ts vs ds ps → (∀ p ∈ ps, p.block < W.heap.size) → (∀ p ∈ ps, sp p.block = true) →
      DataW.TrodAll enc P W' 0 sp true ts vs ds ps
  | [], vs, ds, ps, _, h, _, _ => by
    obtain ⟨rfl, rfl, rfl⟩ := trodAll_nil h
    exact trodAll_mk0
  | t :: ts, vs, ds, ps, hr, h, hlt, hsp => by
    obtain ⟨v, vs', d, ds', p, q, rfl, rfl, rfl, h1, h2⟩ := trodAll_cons h
    simp only [rowed, List.all_cons, Bool.and_eq_true, decide_eq_true_eq] at hr
    exact trodAll_cons_mk (WideElems.Trod_stays hl hr.1.1 hr.1.2 h1 (fun x hx => hb.same (hlt x (by simp [hx]))) (fun x hx => hsp x (by simp [hx])))
      (keep_args hl hb (by simpa [rowed] using hr.2) h2 (fun x hx => hlt x (by simp [hx])) (fun x hx => hsp x (by simp [hx])))

/-- True is answered, and what was there is left alone: so the row's 'post' holds. -/
theorem close {H : Type} {enc : TypeId × Value → H} {P : Program} {f : Func} {s : ChangeSpec} {fresh handsOn again : Bool} (hl : laidOutB P = true) {W W' : World} {args : Array Value} {ds gs : List (DataW H)} {before : List MemPlace} {tb : TypeId}
    (hb : Below W.heap.size W W') (hW : DataW.Whole enc P f.params.toList s.vars false W args.toList ds gs before) (hvars : s.vars = []) (hrow : rowed P f.params.toList = true)
    (hres : f.resultTypes = #[tb]) (htb : P.underlying tb = some .bool) (hfn : s.fn H (ds ++ gs) = { results := [.lit (.bool true)], args := ds }) :
    s.post enc P f false fresh handsOn again W args (.bool true) W' := by
  have hlt : ∀ x ∈ before, x.block < W.heap.size := fun x hx => by simpa using hW.lt x hx
  have hW' := hW
  obtain ⟨p, q, hA, hV, e, hfz, hnd⟩ := hW
  rw [hvars] at hV
  obtain ⟨rfl, rfl⟩ := trodVars_none hV
  rw [List.append_nil] at e
  subst e
  have keep : ∀ sp : Nat → Bool, (∀ x ∈ before, sp x.block = true) → DataW.TrodAll enc P W' 0 sp true f.params.toList args.toList ds before := fun sp hsp => keep_args hl hb hrow hA hlt hsp
  have res : ∀ (b : Nat) (sp : Nat → Bool) (hd : Bool), DataW.TrodAll enc P W' b sp hd f.resultTypes.toList ((Value.bool true).resultList f.resultTypes.size) [.lit (.bool true)] [] := fun b sp hd => by
    rw [hres]
    exact trodAll_mk1 (shut_bool htb true)
  have vars : ∀ sp : Nat → Bool, DataW.TrodVars enc P W' sp s.vars [] [] := fun sp => by rw [hvars]; rfl
  refine ⟨ds, [], before, [], before, [], hW', ?_, ?_, ?_, World.keptBut_mono (fun x hx => ⟨hx, .inr (.inl hx)⟩) (hb.frame (· ∈ before)), fun _ => ⟨ok_one hres rfl (okWide_bool_mk htb _), [.lit (.bool true)] ++ ds, [], [] ++ before, ⟨[] ++ before, [], ?_, vars _, by simp, ?_, fun h => by cases h⟩, fun x hx _ => by simpa using hx⟩⟩
  · rw [hfn]; exact res _ _ _
  · rw [hfn]; exact keep _ (fun x hx => by simpa using hlt x hx)
  · rw [hfn]; exact vars _
  · exact trodAll_append (keep _ (fun _ _ => rfl)) (res _ _ _)
  · intro b off hp
    have hp' : MemPlace.cell b off ∈ before := by simpa using hp
    rw [hb.frozen (p := ⟨b, off, none⟩) (hlt _ hp')]
    exact hfz b off hp'

/-! ### Arguments of which nothing is known but how many cells they have -/

def undefV (P : Program) (t : TypeId) : Value :=
  match P.underlying t with
  | some (.struct _) | some (.array _ _) => .agg ⟨List.replicate (P.cellsOf t) undef⟩
  | _ => undef

theorem undefV_rel {P : Program} {w : World} {r : Reach} {base : Nat} {t : TypeId} {v : Value} {n0 : Nat} {j : Inj} (h : Value.okWide P w r base t v) : VRel n0 j (undefV P t) v := by
  have main : ∀ cs : Array Value, cs.size = P.cellsOf t → VRel n0 j (.agg ⟨List.replicate (P.cellsOf t) undef⟩) (.agg cs) := fun cs hn =>
    .agg _ _ (by simp [hn]) fun k x x' hx hx' => by
      have hx2 : (Array.replicate (P.cellsOf t) undef)[k]? = some x := by simpa using hx
      rw [Array.getElem?_replicate] at hx2
      split at hx2
      · cases hx2; exact .undef _
      · cases hx2
  unfold undefV
  unfold Value.okWide at h
  split at h
  · rename_i e; rw [e]; obtain ⟨cs, rfl, hn, _⟩ := h; exact main cs hn
  · rename_i e; rw [e]; obtain ⟨cs, rfl, hn, _⟩ := h; exact main cs hn
  · rename_i e1 e2
    split
    · rename_i e; exact absurd e (e1 _)
    · rename_i e; exact absurd e (e2 _ _)
    · exact .undef _

theorem undefL_rel {P : Program} {w : World} {r : Reach} {base : Nat} {n0 : Nat} {j : Inj} : ∀ {ts : List TypeId} {vs : List Value}, ts.length = vs.length → (∀ (k : Nat) t v, ts[k]? = some t → vs[k]? = some v → Value.okWide P w r base t v) → LRel n0 j (ts.map (undefV P)) vs
  | [], [], _, _ => LRel.nil
  | [], _ :: _, h, _ => by simp at h
  | _ :: _, [], h, _ => by simp at h
  | t :: ts, v :: vs, h, hk => LRel.cons (undefV_rel (hk 0 t v rfl rfl)) (undefL_rel (by simpa using h) fun k t' v' h1 h2 => hk (k + 1) t' v' h1 h2)

def tru : Option (Value × Heap) → Bool
  | some (.bool b, _) => b
  | _ => false

theorem tru_some {x : Option (Value × Heap)} (h : tru x = true) : ∃ H', x = some (.bool true, H') := by
  unfold tru at h
  split at h
  · rename_i b H'; subst h; exact ⟨H', rfl⟩
  · cases h

theorem trodAll_length {H : Type} {enc : TypeId × Value → H} {P : Program} {w : World} {base : Nat} {sp : Nat → Bool} {hd : Bool} : ∀ {ts : List TypeId} {vs : List Value} {ds : List (DataW H)} {ps : List MemPlace}, DataW.TrodAll enc P w base sp hd ts vs ds ps → ts.length = vs.length ∧ ds.length = ts.length
  | [], vs, ds, ps, h => by obtain ⟨rfl, rfl, rfl⟩ := trodAll_nil h; exact ⟨rfl, rfl⟩
  | t :: ts, vs, ds, ps, h => by
    obtain ⟨v, vs', d, ds', p, q, rfl, rfl, rfl, h1, h2⟩ := trodAll_cons h
    have := trodAll_length h2
    exact ⟨by simp [this.1], by simp [this.2]⟩

/-- A law that the machine reckons to be true, whatever is in its arguments' cells. -/
theorem contract_blind {H : Type} {enc : TypeId × Value → H} {P : Program} {F k : Nat} {f : Func} {s : ChangeSpec} {fresh handsOn again : Bool} (hl : laidOutB P = true) {tb : List (Nat × DFn)} (htb : ∀ f d, look tb f = some d → ∃ fn, P.funcs[f]? = some fn ∧ CompFn P 0 fn d)
    {W : World} {base : Nat} {args : Array Value} {ds gs : List (DataW H)} {before : List MemPlace} {tr : TypeId}
    (hval : ∀ (j : Nat) t v, f.params[j]? = some t → args[j]? = some v → Value.okWide P W .any base t v)
    (hW : DataW.Whole enc P f.params.toList s.vars false W args.toList ds gs before) (hvars : s.vars = []) (hrow : rowed P f.params.toList = true)
    (hres : f.resultTypes = #[tr]) (htr : P.underlying tr = some .bool) (hfn : ds.length = f.params.toList.length → s.fn H (ds ++ []) = { results := [.lit (.bool true)], args := ds })
    (run : tru (callM (look tb) nvNone k F (f.params.toList.map (undefV P)) (heap0 W)) = true) :
    Calls P F args W fun e W' => ∃ v, e = .returned v ∧ s.post enc P f false fresh handsOn again W args v W' := by
  obtain ⟨H', hr⟩ := tru_some run
  have hW' := hW
  obtain ⟨p, q, hA, hV, e, _, _⟩ := hW
  obtain ⟨hlen, hdl⟩ := trodAll_length hA
  rw [hvars] at hV
  obtain ⟨rfl, rfl⟩ := trodVars_none hV
  refine (law_calls htb (undefL_rel hlen fun j t v h1 h2 => hval j t v (by simpa using h1) (by simpa using h2)) hr).mono fun e W' h => ?_
  obtain ⟨rfl, hb⟩ := h
  exact ⟨_, rfl, close hl hb hW' hvars hrow hres htr (hfn hdl)⟩

end Go.Proofs.YtdpbbppjjjhnoaaGreatDoor.D
