/- The abstract machine "D": the compiler, and that what it makes is as the proofs ask; how a law begins. No statement of the seat is proved in this text. -/
import Derived.Test.YtdpbbppjjjhnoaaGreatDoorDw
set_option linter.unusedSimpArgs false
set_option linter.unusedVariables false
namespace Go.Proofs.YtdpbbppjjjhnoaaGreatDoor.D
open Go

def compileIns (P : Program) (o : Oper) : Option (Ins × List Operand) :=
  match compilePure P o with
  | some (p, xs) => some (.pure p, xs)
  | none => match compileAlloc P o with
    | some (a, xs) => some (.alloc a, xs)
    | none => match compileRead P o with
      | some (r, xs) => some (.read r [], xs)
      | none => match compileEff P o with
        | some (e, xs) => some (.eff e, xs)
        | none => match o.op with
          | .call { callee := .value (.func f), args, .. } => some (.call f, args.toList)
          | .call { callee := .value x, args, .. } => some (.callv, x :: args.toList)
          | _ => none

def dstOk (N : Nat) : Option Nat → Bool
  | some t => Nat.blt t N
  | none => true

def compileOper (P : Program) (ngl N : Nat) (ops : Array Oper) (o : Oper) : Option DOper :=
  match compileIns P o with
  | none => none
  | some (ins, xo) => match mapOpd ngl xo with
    | none => none
    | some xs => if dstOk N o.dst = true then
        match o.guard with
        | none => some { dst := o.dst, ins, xs, guard := none }
        | some (q, want) => match (ops[q]?).bind (·.dst) with
          | some t => some { dst := o.dst, ins, xs, guard := some (t, want) }
          | none => none
      else none

def compileOps (P : Program) (ngl N : Nat) (ops : Array Oper) : List Oper → Option (List DOper)
  | [] => some []
  | o :: r => match compileOper P ngl N ops o, compileOps P ngl N ops r with
    | some d, some l => some (d :: l)
    | _, _ => none

def compileRegion (P : Program) (ngl N : Nat) (ops : Array Oper) (draw : Bool) : Option (List DOper × Bool) :=
  match compileOps P ngl N ops ops.toList with
  | none => none
  | some ds0 => match draw with
    | false => some (ds0, false)
    | true => if P.follows .mixedOrders && backOk ops.toList 0 && okAll [] (fillChk [] ds0 (masks [] ops.toList) 0) (masks [] ops.toList) then
        some (fillChk [] ds0 (masks [] ops.toList) 0, flagged (fillChk [] ds0 (masks [] ops.toList) 0)) else none

abbrev Hints := List (Option (List Nat))

/-- What is kept where ways meet, if a hint says so. -/
def pruned (h : Hints) (c : C) : C :=
  match h with
  | some l :: _ => .keep l c
  | _ => c

def prunedB (h : Hints) (c : C) : C :=
  match h with
  | some l :: _ => .seq c (.keep l .skip)
  | _ => c

def compileC (P : Program) (ngl N : Nat) : Code → Hints → Option (C × Hints)
  | .skip, h => some (.skip, h)
  | .ret, h => some (pruned h .ret, h.drop 1)
  | .exit id, h => some (pruned h (.exit id), h.drop 1)
  | .region _ ops draw, h => match compileRegion P ngl N ops draw with
    | some (ds, flag) => some (.region ds flag, h)
    | none => none
  | .seq a b, h => match compileC P ngl N a (h.drop 1) with
    | some (a', h') => match compileC P ngl N b h' with
      | some (b', h'') => some (.seq a' (pruned h b'), h'')
      | none => none
    | none => none
  | .scope a, h => compileC P ngl N a h
  | .label _, h => some (.skip, h)
  | .cond c a b, h => match mapOpd ngl [c] with
    | some [c'] => match compileC P ngl N a h with
      | some (a', h') => match compileC P ngl N b h' with
        | some (b', h'') => some (.cond c' a' b', h'')
        | none => none
      | none => none
    | _ => none
  | .block id a, h => match compileC P ngl N a h with
    | some (a', h') => some (.block id a', h')
    | none => none
  | .loop a, h => match compileC P ngl N a (h.drop 1) with
    | some (a', h') => some (.loop (match h with | k :: _ => k | [] => none) (prunedB h a'), h')
    | none => none
  | _, _ => none

def compileRes (P : Program) : List ResultVar → Option (List RV)
  | [] => some []
  | .tmp t :: r => match compileRes P r with
    | some l => some (.tmp t :: l)
    | none => none
  | .cell t ty :: r => match P.underlying ty, P.info? ty, compileRes P r with
    | some d, some i, some l => some ((if isAggD d then .cell t i.size true else .cell t 1 false) :: l)
    | _, _, _ => none

def compileFn (P : Program) (ngl : Nat) (h : Hints) (fn : Func) : Option DFn :=
  if fn.name = "runtime.NumGoroutine" then none else
  match fn.body with
  | none => none
  | some c => match compileC P ngl fn.ntmps c h, compileRes P fn.results.toList with
    | some (c', _), some rs => some { ntmps := fn.ntmps, body := c', res := rs }
    | _, _ => none

section
variable {P : Program} {ngl N : Nat}

theorem compileIns_ok {o : Oper} {ins : Ins} {xo : List Operand} (h : compileIns P o = some (ins, xo)) : InsOk P o ins xo := by
  unfold compileIns at h
  split at h
  · rename_i hp; cases h; exact hp
  · split at h
    · rename_i hp; cases h; exact hp
    · split at h
      · rename_i hp; cases h; exact hp
      · split at h
        · rename_i hp; cases h; exact hp
        · split at h
          · rename_i f args ts hop; cases h; exact ⟨args, ts, hop, rfl⟩
          · rename_i x args ts _ hop; cases h; exact ⟨x, args, ts, hop, rfl⟩
          · cases h

theorem compileOper_ok {ops : Array Oper} {o : Oper} {d : DOper} (h : compileOper P ngl N ops o = some d) : CompOk P ngl N ops o d := by
  unfold compileOper at h
  split at h
  · cases h
  · rename_i ins xo hi
    split at h
    · cases h
    · rename_i xs hx
      split at h
      · rename_i hd
        have hlt : ∀ t, o.dst = some t → t < N := by
          intro t ht
          rw [ht] at hd
          have hd' : Nat.blt t N = true := hd
          rwa [Nat.blt_eq] at hd'
        split at h
        · rename_i hg
          cases h
          exact ⟨rfl, hlt, .inl ⟨hg, rfl⟩, xo, compileIns_ok hi, hx⟩
        · rename_i q want hg
          split at h
          · rename_i t ht
            cases h
            exact ⟨rfl, hlt, .inr ⟨q, want, t, hg, ht, rfl⟩, xo, compileIns_ok hi, hx⟩
          · cases h
      · cases h

theorem compileOps_ok {ops : Array Oper} : ∀ {l : List Oper} {ds : List DOper}, compileOps P ngl N ops l = some ds → ds.length = l.length ∧ ∀ (i : Nat) o, l[i]? = some o → ∃ d, ds[i]? = some d ∧ CompOk P ngl N ops o d
  | [], ds, h => by cases h; exact ⟨rfl, fun i o h => by simp at h⟩
  | o :: r, ds, h => by
    simp only [compileOps] at h
    split at h
    · rename_i d l hd hl
      cases h
      obtain ⟨h1, h2⟩ := compileOps_ok hl
      refine ⟨by simp [h1], fun i o' ho => ?_⟩
      cases i with
      | zero => simp at ho; subst ho; exact ⟨d, rfl, compileOper_ok hd⟩
      | succ i => simpa using h2 i o' (by simpa using ho)
    · cases h

theorem insOk_same {o : Oper} {d d' : DOper} {xo : List Operand} (hs : Same d d') (h : InsOk P o d.ins xo) : InsOk P o d'.ins xo := by
  rcases hs.2.2.2.2 with ⟨r, c, c', h1, h2⟩ | h1
  · rw [h1] at h; rw [h2]; exact h
  · rw [h1]; exact h

theorem compileRegion_ok {ops : Array Oper} {draw : Bool} {ds : List DOper} {flag : Bool} (h : compileRegion P ngl N ops draw = some (ds, flag)) : RegComp P ngl N ops draw ds flag := by
  unfold compileRegion at h
  split at h
  · cases h
  · rename_i ds0 h0
    obtain ⟨hl, hc⟩ := compileOps_ok h0
    have hl' : ds0.length = ops.size := by simpa using hl
    have comp0 : ∀ i, i < ops.size → ∃ o d, ops[i]? = some o ∧ ds0[i]? = some d ∧ CompOk P ngl N ops o d := by
      intro i hi
      obtain ⟨d, h1, h2⟩ := hc i ops[i] (by simp [hi])
      exact ⟨ops[i], d, by simp [hi], h1, h2⟩
    split at h
    · cases h
      refine ⟨hl', fun i hi => ?_, fun e => by cases e⟩
      obtain ⟨o, d, h1, h2, h3⟩ := comp0 i hi
      exact ⟨o, h1, by unfold dAt; rw [h2]; exact h3⟩
    · split at h
      · rename_i hcnd
        simp only [Bool.and_eq_true] at hcnd
        cases h
        obtain ⟨hf1, hf2⟩ := fillChk_spec (r := ds0) (pre := []) (ms := masks [] ops.toList) (k := 0)
        refine ⟨by rw [hf1]; exact hl', fun i hi => ?_, fun _ => ⟨hcnd.1.1, hcnd.1.2, hcnd.2, ⟨ds0, rfl, hf1.symm⟩, fun e => e⟩⟩
        obtain ⟨o, d, h1, h2, h3⟩ := comp0 i hi
        obtain ⟨d', g1, g2, _⟩ := hf2 i d h2
        refine ⟨o, h1, ?_⟩
        unfold dAt
        rw [g1, Option.getD_some]
        obtain ⟨xo, q1, q2⟩ := h3.ins
        refine ⟨g2.1.trans h3.dst, h3.dlt, ?_, xo, insOk_same g2 q1, by rw [g2.2.1]; exact q2⟩
        rw [g2.2.2.1]; exact h3.guard
      · cases h

theorem pruned_ok {c : Code} {c' : C} (h : Hints) (hc : CompC P ngl N c c') : CompC P ngl N c (pruned h c') := by
  unfold pruned
  split
  · exact .keep _ _ _ hc
  · exact hc

theorem compileC_ok : ∀ (c : Code) {h h' : Hints} {c' : C}, compileC P ngl N c h = some (c', h') → CompC P ngl N c c' := by
  intro c
  induction c with
  | skip => intro h h' c' hc; simp only [compileC, Option.some.injEq, Prod.mk.injEq] at hc; obtain ⟨rfl, _⟩ := hc; exact .skip
  | ret => intro h h' c' hc; simp only [compileC, Option.some.injEq, Prod.mk.injEq] at hc; obtain ⟨rfl, _⟩ := hc; exact pruned_ok h .ret
  | exit id => intro h h' c' hc; simp only [compileC, Option.some.injEq, Prod.mk.injEq] at hc; obtain ⟨rfl, _⟩ := hc; exact pruned_ok h (.exit id)
  | region id ops draw =>
    intro h h' c' hc
    simp only [compileC] at hc
    split at hc
    · rename_i ds flag hr; cases hc; exact .region _ _ _ _ _ (compileRegion_ok hr)
    · cases hc
  | seq a b iha ihb =>
    intro h h' c' hc
    simp only [compileC] at hc
    split at hc
    · rename_i a' h1 ha
      split at hc
      · rename_i b' h2 hb
        cases hc
        exact .seq _ _ _ _ (iha ha) (pruned_ok h (ihb hb))
      · cases hc
    · cases hc
  | cond c a b iha ihb =>
    intro h h' c' hc
    simp only [compileC] at hc
    split at hc
    · rename_i c1 hm
      split at hc
      · rename_i a' h1 ha
        split at hc
        · rename_i b' h2 hb; cases hc; exact .cond _ _ _ _ _ _ hm (iha ha) (ihb hb)
        · cases hc
      · cases hc
    · cases hc
  | block id a iha =>
    intro h h' c' hc
    simp only [compileC] at hc
    split at hc
    · rename_i a' h1 ha; cases hc; exact .block _ _ _ (iha ha)
    · cases hc
  | loop a iha =>
    intro h h' c' hc
    simp only [compileC] at hc
    split at hc
    · rename_i a' h1 ha
      cases hc
      refine .loop _ _ _ ?_
      unfold prunedB
      split
      · exact .after _ _ _ (iha ha)
      · exact iha ha
    · cases hc
  | rangeFunc f p x y ihx ihy => intro h h' c' hc; simp [compileC] at hc
  | scope a iha => intro h h' c' hc; simp only [compileC] at hc; exact .scope _ _ (iha hc)
  | label l => intro h h' c' hc; simp only [compileC, Option.some.injEq, Prod.mk.injEq] at hc; obtain ⟨rfl, _⟩ := hc; exact .label _
  | goto l => intro h h' c' hc; simp [compileC] at hc
  | refuse s => intro h h' c' hc; simp [compileC] at hc

theorem compileRes_ok : ∀ {rs : List ResultVar} {ds : List RV}, compileRes P rs = some ds → CompRes P rs ds
  | [], ds, h => by cases h; trivial
  | .tmp t :: r, ds, h => by
    simp only [compileRes] at h
    split at h
    · rename_i l hl; cases h; exact ⟨rfl, compileRes_ok hl⟩
    · cases h
  | .cell t ty :: r, ds, h => by
    simp only [compileRes] at h
    split at h
    · rename_i d i l hu hi hl
      cases h
      split
      · rename_i ha; exact ⟨rfl, ⟨d, i, hu, hi, .inl ⟨ha, rfl, rfl⟩⟩, compileRes_ok hl⟩
      · rename_i ha; exact ⟨rfl, ⟨d, i, hu, hi, .inr ⟨by simpa using ha, rfl, rfl⟩⟩, compileRes_ok hl⟩
    · cases h

theorem compileFn_ok {h : Hints} {fn : Func} {d : DFn} (hc : compileFn P ngl h fn = some d) : CompFn P ngl fn d := by
  unfold compileFn at hc
  split at hc
  · cases hc
  · rename_i hn
    split at hc
    · cases hc
    · rename_i c hb
      split at hc
      · rename_i c' h' rs h1 h2
        cases hc
        exact ⟨hn, ⟨c, hb, compileC_ok c h1⟩, rfl, compileRes_ok h2⟩
      · cases hc

/-- A table of compiled functions. -/
inductive Tbl (P : Program) (ngl : Nat) : List (Nat × DFn) → Prop where
  | nil : Tbl P ngl []
  | cons (f : Nat) (fn : Func) (h : Hints) (d : DFn) (l : List (Nat × DFn)) (hf : P.funcs[f]? = some fn) (hc : compileFn P ngl h fn = some d) (t : Tbl P ngl l) : Tbl P ngl ((f, d) :: l)

def look (l : List (Nat × DFn)) (f : Nat) : Option DFn :=
  match l with
  | [] => none
  | (g, d) :: r => cond (Nat.beq g f) (some d) (look r f)

theorem Tbl.ok {l : List (Nat × DFn)} (t : Tbl P ngl l) : ∀ f d, look l f = some d → ∃ fn, P.funcs[f]? = some fn ∧ CompFn P ngl fn d := by
  induction t with
  | nil => intro f d h; cases h
  | cons g fn h d l hf hc t ih =>
    intro f d' hl
    simp only [look] at hl
    rw [nbeq] at hl
    by_cases e : g = f
    · subst e
      have : (g == g) = true := by simp
      rw [this] at hl
      cases hl
      exact ⟨fn, hf, compileFn_ok hc⟩
    · have : (g == f) = false := by simpa using e
      rw [this] at hl
      exact ih f d' hl

/-- Nothing is known otherwise. -/
def nvNone : CallF := fun _ _ _ => none
theorem nvNone_ok {w0 : World} {ng : Nat} : CfOk P w0 ng ngl nvNone := fun f vs H v H' h => by cases h

end

/-! ### How a law begins -/

/-- What was there when the law was called, as the machine sees it: addresses bear the mark of the old zone. -/
def old1 (n0 : Nat) : Value → Value
  | .bool b => .bool b
  | .int k n => .int k n
  | .string s => .string s
  | .pointer none => .pointer none
  | .pointer (some ⟨b, o, none⟩) => if b < n0 then .pointer (some ⟨b, o, some 0⟩) else undef
  | .slice none 0 0 => .slice none 0 0
  | .slice (some ⟨b, o, s⟩) len cap => if s = none ∧ b < n0 ∧ len ≤ cap then .slice (some ⟨b, o, some 0⟩) len cap else if len = 0 ∧ cap = 0 then .slice (some ⟨0, 0, some 0⟩) 0 0 else undef
  | .map none => .map none
  | .nilFunc => .nilFunc
  | .nilIface => .nilIface
  | _ => undef

def oldV (n0 : Nat) : Value → Value
  | .agg c => .agg (c.map (old1 n0))
  | v => old1 n0 v

theorem old1_rel {n0 : Nat} {j : Inj} (v : Value) : VRel n0 j (old1 n0 v) v := by
  unfold old1
  split
  · exact .bool _
  · exact .int _ _
  · exact .string _
  · exact .nilPtr
  · split
    · rename_i h; exact .ptr _ _ (.old _ _ h)
    · exact .undef _
  · exact .nilSlice
  · split
    · rename_i h
      obtain ⟨rfl, h1, h2⟩ := h
      exact .slice _ _ _ _ (.old _ _ h1) h2
    · split
      · rename_i h
        obtain ⟨rfl, rfl⟩ := h
        exact .slice0 _
      · exact .undef _
  · exact .nilMap
  · exact .nilFunc
  · exact .nilIface
  · exact .undef _

theorem oldV_rel {n0 : Nat} {j : Inj} (v : Value) : VRel n0 j (oldV n0 v) v := by
  unfold oldV
  split
  · rename_i c
    refine .agg _ _ (by simp) fun k x x' hx hx' => ?_
    rw [Array.getElem?_map] at hx
    rw [hx'] at hx
    simp at hx
    subst hx
    exact old1_rel x'
  · exact old1_rel v

def baseOf (w : World) : Nat → Nat → Option Value := fun b o => (w.cell? ⟨b, o, none⟩).map (old1 w.heap.size)

/-- The heap of a law that is called in the world w: nothing made yet. -/
def heap0 (w : World) : Heap := { base := baseOf w, tr := .leaf, next := 0 }

theorem rel0 (w : World) (top : Nat) : Rel w 0 top (fun _ => none) (heap0 w) w := by
  refine ⟨?_, fun _ _ _ => rfl, Nat.le_refl _, fun b i h => (by cases h), fun b i h => (by cases h), fun b c i k h => (by cases h), fun b i h => (by cases h), fun b _ => Trie.get_leaf b, rfl, rfl, rfl⟩
  intro b o v h
  show 0 ≤ b ∧ _
  have h' : (w.cell? ⟨b, o, none⟩).map (old1 w.heap.size) = some v := h
  cases hc : w.cell? ⟨b, o, none⟩ with
  | none => rw [hc] at h'; simp at h'
  | some x =>
    rw [hc] at h'
    simp at h'
    subst h'
    refine ⟨Nat.zero_le _, ?_, x, rfl, old1_rel x⟩
    rcases Nat.lt_or_ge b w.heap.size with h1 | h1
    · exact h1
    · simp [World.cell?, Array.getElem?_eq_none h1] at hc

/-- A law that the machine reckons to be true is true, and leaves what was there alone. -/
theorem law_calls {P : Program} {tb : Nat → Option DFn} (htb : ∀ f d, tb f = some d → ∃ fn, P.funcs[f]? = some fn ∧ CompFn P 0 fn d) {f k : Nat} {w : World} {args : Array Value} {vs : List Value} {H' : Heap}
    (hv : LRel w.heap.size (fun _ => none) vs args.toList) (h : callM tb nvNone k f vs (heap0 w) = some (.bool true, H')) :
    Calls P f args w fun e w' => e = .returned (.bool true) ∧ RowKit.Below w.heap.size w w' := by
  obtain ⟨_, _, hc⟩ := callM_ok (w0 := w) (ng := 0) htb nvNone_ok k f vs (heap0 w) _ _ h
  have := hc H'.next (fun _ => none) w args.toList (Nat.le_refl _) (rel0 w _) (Nat.zero_le _) hv
  have e1 : args.toList.toArray = args := by simp
  rw [e1] at this
  refine this.mono ?_
  rintro e w' ⟨v', j', rfl, h1, h2, _⟩
  rw [bool_of h1]
  exact ⟨rfl, h2.os, h2.tape, h2.output, h2.size, fun b hb => h2.old b (Nat.zero_le _) hb⟩

end Go.Proofs.YtdpbbppjjjhnoaaGreatDoor.D
