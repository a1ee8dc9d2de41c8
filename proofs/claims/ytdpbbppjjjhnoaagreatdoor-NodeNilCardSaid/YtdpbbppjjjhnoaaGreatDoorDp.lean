/- The abstract machine "D": operations of a region, one by one: what they do, and that they do what the model's do. No statement of the seat is proved in this text. -/
import Derived.Test.YtdpbbppjjjhnoaaGreatDoorDo
set_option linter.unusedSimpArgs false
set_option linter.unusedVariables false
namespace Go.Proofs.YtdpbbppjjjhnoaaGreatDoor.D
open Go

inductive Opd where
  | t (n : Nat)
  | c (v : Value)

abbrev Fr := Trie Value

inductive Ins where
  | pure (p : PI)
  | read (r : RI) (chk : List Nat)
  | alloc (a : AI)
  | eff (e : EI)
  | call (f : Nat)
  | callv

structure DOper where
  dst : Option Nat
  ins : Ins
  xs : List Opd
  guard : Option (Nat × Bool)

abbrev CallF := Nat → List Value → Heap → Option (Value × Heap)

def ev (g : Nat → Option Value) : Opd → Value
  | .t n => (g n).getD undef
  | .c v => v

def wantD (gd : Option (Nat × Bool)) (g : Nat → Option Value) : Option Bool :=
  match gd with
  | none => some true
  | some (t, b) => match g t with
    | some (.bool c) => some (c == b)
    | some (.chan none) => some false
    | _ => none

def putD (fr : Fr) (dst : Option Nat) (v : Value) : Fr :=
  match dst with
  | some d => fr.set d v
  | none => fr

def insD (cf : CallF) (ins : Ins) (vs : List Value) (H : Heap) : Option (Value × Heap) :=
  match ins with
  | .pure p => match pureSem p vs with
    | some v => some (v, H)
    | none => none
  | .read r _ => match readSem r vs H with
    | some v => some (v, H)
    | none => none
  | .alloc a => match allocSem a vs with
    | some (x, mk) => some (mk H.next, H.push x)
    | none => none
  | .eff e => effSem e vs H
  | .call f => cf f vs H
  | .callv => match vs with
    | .func (.func f) first cap :: args => cf f (first.toList ++ args ++ cap.toList) H
    | _ => none

def stepD (cf : CallF) (o : DOper) (g : Nat → Option Value) (H : Heap) : Option (Value × Heap) :=
  match wantD o.guard g with
  | some true => insD cf o.ins (o.xs.map (ev g)) H
  | some false => some (skipV, H)
  | none => none

/-! ### What a compiled operation is -/

def mapOpd (ngl : Nat) : List Operand → Option (List Opd)
  | [] => some []
  | x :: l => match x, mapOpd ngl l with
    | .tmp t, some r => some (.t t :: r)
    | .const v, some r => if cst v then some (.c v :: r) else none
    | .global g, some r => if g < ngl then some (.c (.pointer (some ⟨g, 0, some 0⟩)) :: r) else none
    | .func f, some r => some (.c (.func (.func f) #[] #[]) :: r)
    | _, none => none

def InsOk (P : Program) (o : Oper) (ins : Ins) (xo : List Operand) : Prop :=
  match ins with
  | .pure p => compilePure P o = some (p, xo)
  | .read r _ => compileRead P o = some (r, xo)
  | .alloc a => compileAlloc P o = some (a, xo)
  | .eff e => compileEff P o = some (e, xo)
  | .call f => ∃ args ts, o.op = .call { callee := .value (.func f), args := args, argTypes := ts } ∧ xo = args.toList
  | .callv => ∃ x args ts, o.op = .call { callee := .value x, args := args, argTypes := ts } ∧ xo = x :: args.toList

structure CompOk (P : Program) (ngl N : Nat) (ops : Array Oper) (o : Oper) (d : DOper) : Prop where
  dst : d.dst = o.dst
  dlt : ∀ t, o.dst = some t → t < N
  guard : (o.guard = none ∧ d.guard = none) ∨ ∃ q want t, o.guard = some (q, want) ∧ (ops[q]?).bind (·.dst) = some t ∧ d.guard = some (t, want)
  ins : ∃ xo, InsOk P o d.ins xo ∧ mapOpd ngl xo = some d.xs

/-- The package's variables lie ahead of all that was made since (they are only read). -/
def GRel (n0 ngl : Nat) (_ : Inj) : Prop := ngl ≤ n0

theorem GRel.mono {n0 ngl : Nat} {j j' : Inj} (h : GRel n0 ngl j) (_ : Inj.le j j') : GRel n0 ngl j' := h

def FRel (n0 : Nat) (j : Inj) (N : Nat) (g : Nat → Option Value) (a : Act) : Prop := a.tmps.size = N ∧ a.defers = [] ∧ ∀ t, VRel n0 j ((g t).getD undef) (a.tmps.getD t undef)

theorem FRel.mono {n0 : Nat} {j j' : Inj} {N : Nat} {g : Nat → Option Value} {a : Act} (h : FRel n0 j N g a) (hj : Inj.le j j') : FRel n0 j' N g a := ⟨h.1, h.2.1, fun t => (h.2.2 t).mono hj⟩

theorem FRel.congr {n0 : Nat} {j : Inj} {N : Nat} {g g' : Nat → Option Value} {a : Act} (h : FRel n0 j N g a) (hg : ∀ t, g' t = g t) : FRel n0 j N g' a := ⟨h.1, h.2.1, fun t => by rw [hg t]; exact h.2.2 t⟩

theorem FRel.put {n0 : Nat} {j : Inj} {N : Nat} {g : Nat → Option Value} {a : Act} (h : FRel n0 j N g a) {dst : Option Nat} (hd : ∀ t, dst = some t → t < N) {v v' : Value} (hv : VRel n0 j v v') :
    FRel n0 j N (fun t => if dst = some t then some v else g t) (a.put dst v') := by
  cases dst with
  | none => exact h.congr fun t => by simp
  | some d =>
    have hlt := hd d rfl
    refine ⟨by simp [Act.put, h.1], h.2.1, fun t => ?_⟩
    by_cases e : d = t
    · subst e
      simp only [if_true, Option.getD_some, Act.put]
      have : (a.tmps.setIfInBounds d v').getD d undef = v' := by
        rw [Array.getD_eq_getD_getElem?, Array.getElem?_setIfInBounds_self_of_lt (by rw [h.1]; exact hlt)]
        rfl
      rw [this]
      exact hv
    · have : ¬ (some d = some t) := fun q => e (Option.some.inj q)
      simp only [this, if_false, Act.put]
      have h2 : (a.tmps.setIfInBounds d v').getD t undef = a.tmps.getD t undef := by
        rw [Array.getD_eq_getD_getElem?, Array.getD_eq_getD_getElem?, Array.getElem?_setIfInBounds_ne e]
      rw [h2]
      exact h.2.2 t

theorem ev_rel {n0 : Nat} {j : Inj} {N ngl : Nat} {g : Nat → Option Value} {a : Act} (h : FRel n0 j N g a) (hG : GRel n0 ngl j) : ∀ {xo : List Operand} {xs : List Opd}, mapOpd ngl xo = some xs → LRel n0 j (xs.map (ev g)) (xo.map a.eval)
  | [], xs, hm => by cases hm; exact LRel.nil
  | x :: l, xs, hm => by
    simp only [mapOpd] at hm
    split at hm
    · rename_i t r hr
      cases hm
      exact LRel.cons (h.2.2 t) (ev_rel h hG hr)
    · rename_i v r hr
      split at hm
      · rename_i hc
        cases hm
        exact LRel.cons (cst_rel hc) (ev_rel h hG hr)
      · cases hm
    · rename_i q r hr
      split at hm
      · rename_i hq
        cases hm
        exact LRel.cons (.ptr _ _ (.old q 0 (Nat.lt_of_lt_of_le hq hG))) (ev_rel h hG hr)
      · cases hm
    · rename_i f r hr
      cases hm
      exact LRel.cons (.func _ _ _ _ _ rfl rfl (by simp) (by simp)) (ev_rel h hG hr)
    · cases hm

theorem want_rel {n0 : Nat} {j : Inj} {N : Nat} {g : Nat → Option Value} {a : Act} (h : FRel n0 j N g a) {P : Program} {ngl : Nat} {ops : Array Oper} {o : Oper} {d : DOper} (hc : CompOk P ngl N ops o d) {b : Bool} (hw : wantD d.guard g = some b) :
    Region.wanted o (yielded ops a.tmps) = b := by
  rcases hc.guard with ⟨h1, h2⟩ | ⟨q, want, t, h1, h2, h3⟩
  · rw [h2] at hw
    cases hw
    simp [Region.wanted, h1]
  · rw [h3] at hw
    have hv := h.2.2 t
    simp only [Region.wanted, h1]
    simp only [wantD] at hw
    have hy : ∀ x, a.tmps.getD t undef = x → yielded ops a.tmps q = (match x with | .bool b => some b | _ => none) := by
      intro x hx
      unfold yielded
      rw [h2]
      simp only [Option.bind_some]
      rw [Array.getD_eq_getD_getElem?] at hx
      cases ht : a.tmps[t]? with
      | none => rw [ht] at hx; simp at hx; subst hx; rfl
      | some y => rw [ht] at hx; simp at hx; subst hx; cases y <;> rfl
    split at hw
    · rename_i c hgc
      cases hw
      rw [hgc] at hv
      have := bool_of hv
      rw [hy _ this]
      cases c <;> cases want <;> rfl
    · rename_i hgc
      cases hw
      rw [hgc] at hv
      have : a.tmps.getD t undef = undef := by
        simp only [Option.getD_some] at hv
        generalize a.tmps.getD t undef = y at hv
        cases hv; rfl
      rw [hy _ this]
      cases want <;> rfl
    · cases hw

/-! ### One operation -/

/-- What a call does. -/
def CfOk (P : Program) (w0 : World) (ng ngl : Nat) (cf : CallF) : Prop :=
  ∀ f vs H v H', cf f vs H = some (v, H') → H.next ≤ H'.next ∧ (∃ fn, P.funcs[f]? = some fn ∧ fn.body.isSome = true ∧ fn.name ≠ "runtime.NumGoroutine") ∧
    ∀ (top : Nat) (j : Inj) (w : World) (vs' : List Value), H'.next ≤ top → Rel w0 ng top j H w → GRel w0.heap.size ngl j → LRel w0.heap.size j vs vs' →
      Calls P f vs'.toArray w fun e w' => ∃ v' j', e = .returned v' ∧ VRel w0.heap.size j' v v' ∧ Rel w0 ng top j' H' w' ∧ Frm top j j' H H' w w'

theorem appD_next {n bytes k : Nat} {s v : Value} {new : List Value} {H H' : Heap} (h : appD n bytes s k new H = some (v, H')) : H.next ≤ H'.next := by
  unfold appD at h
  split at h
  · split at h
    · cases h; exact Nat.le_refl _
    · cases h
  · split at h
    · split at h
      · cases h; exact Nat.le_succ _
      · cases h
    · split at h
      · split at h
        · split at h
          · split at h
            · split at h
              · split at h
                · cases h; exact Nat.le_succ _
                · cases h
              · cases h
            · cases h
          · cases h
        · cases h
      · split at h
        · split at h
          · rename_i hst
            cases h
            rw [store_next hst]; exact Nat.le_refl _
          · cases h
        · split at h
          · split at h
            · cases h; exact Nat.le_succ _
            · cases h
          · cases h
    · cases h

theorem eff_next {p : EI} {vs : List Value} {v : Value} {H H' : Heap} (h : effSem p vs H = some (v, H')) : H.next ≤ H'.next := by
  unfold effSem at h
  repeat' (split at h)
  all_goals first
    | (cases h; done)
    | (cases h; exact Nat.le_refl _)
    | (cases h; rename_i hst; rw [store_next hst]; exact Nat.le_refl _)
    | exact appD_next h

theorem step_next {P : Program} {w0 : World} {ng ngl : Nat} {cf : CallF} (hcf : CfOk P w0 ng ngl cf) {d : DOper} {g : Nat → Option Value} {H H' : Heap} {v : Value} (h : stepD cf d g H = some (v, H')) : H.next ≤ H'.next := by
  unfold stepD at h
  split at h
  · unfold insD at h
    split at h
    · split at h
      · cases h; exact Nat.le_refl _
      · cases h
    · split at h
      · cases h; exact Nat.le_refl _
      · cases h
    · split at h
      · cases h; exact Nat.le_succ _
      · cases h
    · exact eff_next h
    · exact (hcf _ _ _ _ _ h).1
    · split at h
      · exact (hcf _ _ _ _ _ h).1
      · cases h
  · cases h; exact Nat.le_refl _
  · cases h

section
variable {P : Program} {w0 : World} {ng ngl N top : Nat} {cf : CallF} {j : Inj} {H : Heap} {w : World} {ops : Array Oper}

theorem callFunc_run {f : Nat} (hf : ∃ fn, P.funcs[f]? = some fn ∧ fn.body.isSome = true ∧ fn.name ≠ "runtime.NumGoroutine") (args : Array Value) (w : World) : (callFunc f args).run P w = .ok (.enter f args) w := by
  obtain ⟨fn, h1, h2, h3⟩ := hf
  have h4 : ¬ fn.body = none := by cases hb : fn.body <;> simp [hb] at h2 ⊢
  simp [callFunc, h1, h3, h4]

/-- One operation, where it is wanted. -/
theorem ins_wp (hcf : CfOk P w0 ng ngl cf) {o : Oper} {ins : Ins} {xo : List Operand} (hi : InsOk P o ins xo) {a : Act} (R : Rel w0 ng top j H w) (hG : GRel w0.heap.size ngl j) {vs : List Value} (hv : LRel w0.heap.size j vs (xo.map a.eval))
    {v : Value} {H' : Heap} (h : insD cf ins vs H = some (v, H')) (hT : H'.next ≤ top) (next : Act → World → Prop) (Q : Exit → Act → World → Prop)
    (hk : ∀ v' w' j', VRel w0.heap.size j' v v' → Rel w0 ng top j' H' w' → Frm top j j' H H' w w' → next (a.put o.dst v') w') : o.wp P a w next Q := by
  have hρ : ∀ c, a.eval (.const c) = c := fun c => rfl
  cases ins with
  | pure p =>
    simp only [insD] at h
    split at h
    · rename_i u hu
      cases h
      obtain ⟨v', h1, h2⟩ := pure_sound hi hρ hv hu
      unfold Oper.wp
      rw [h1 w]
      exact hk v' w j h2 R (Frm.refl _ _ _ _)
    · cases h
  | read r chk =>
    simp only [insD] at h
    split at h
    · rename_i u hu
      cases h
      obtain ⟨v', h1, h2⟩ := read_sound R hi hv hu
      unfold Oper.wp
      rw [h1]
      exact hk v' w j h2 R (Frm.refl _ _ _ _)
    · cases h
  | alloc al =>
    simp only [insD] at h
    split at h
    · rename_i x mk hx
      cases h
      obtain ⟨v', ob, i, h1, h2, h3, h4⟩ := alloc_sound R hi hv hx
      have hT' : H.next < top := hT
      have hup : Inj.le j (j.upd H.next i) := by
        intro b k hb
        have := R.dom b k hb
        simp only [Inj.upd]
        rw [if_neg (by omega)]
        exact hb
      obtain ⟨r1, r2, r3⟩ := push_sound R hT' x ob i h2 (h3 _ hup _ (by rw [wpush_get, if_pos h2]))
      unfold Oper.wp
      rw [h1]
      exact hk v' _ _ (h4 _ _ r3) r1 r2
    · cases h
  | eff e =>
    obtain ⟨n, v', w', j', h1, h2, h3, h4, h5⟩ := eff_sound R (Nat.le_trans (eff_next h) hT) hi hv h hT
    unfold Oper.wp
    rw [h1]
    rcases h2 with rfl | ⟨rfl, rfl⟩
    · exact hk v' w' j' h3 h4 h5
    · exact hk undef w' j' h3 h4 h5
  | call f =>
    obtain ⟨args, ts, hop, rfl⟩ := hi
    obtain ⟨_, hfn, hcalls⟩ := hcf _ _ _ _ _ h
    have hc := hcalls top j w _ hT R hG hv
    have hrun : (execOp a.eval o).run P w = .ok (.enter f (args.map a.eval)) w := by
      obtain ⟨dst, op, type, pos, after, guard⟩ := o
      simp only at hop
      subst hop
      simp only [execOp, resolve, Sem.run_bind, Sem.run_pure, Result.andThen_ok, Act.eval, Deferred.ofValue, invoke]
      have e1 : (#[] ++ Array.map a.eval args ++ #[]) = args.map a.eval := by simp
      rw [e1]
      exact callFunc_run hfn _ w
    unfold Oper.wp
    rw [hrun]
    have e2 : (List.map a.eval args.toList).toArray = args.map a.eval := by
      rw [← Array.toList_map]
    rw [e2] at hc
    refine hc.mono ?_
    rintro e w' ⟨v', j', rfl, hv', R', F'⟩
    exact hk v' w' j' hv' R' F'
  | callv =>
    obtain ⟨x, args, ts, hop, rfl⟩ := hi
    simp only [insD] at h
    split at h
    · rename_i f first cap rest
      obtain ⟨_, hfn, hcalls⟩ := hcf _ _ _ _ _ h
      obtain ⟨x', t', e', hx, ht⟩ := hv.uncons
      simp only [List.map_cons, List.cons.injEq] at e'
      obtain ⟨rfl, rfl⟩ := e'
      obtain ⟨first', cap', hx', hfr, hcr⟩ : ∃ f' c', a.eval x = .func (.func f) f' c' ∧ LRel w0.heap.size j first.toList f'.toList ∧ LRel w0.heap.size j cap.toList c'.toList := by
        generalize a.eval x = y at hx
        cases hx with
        | func _ _ _ f' c' h1 h2 h3 h4 => exact ⟨f', c', rfl, LRel.of_arr h1 h3, LRel.of_arr h2 h4⟩
      have hc := hcalls top j w _ hT R hG ((hfr.append ht).append hcr)
      have hrun : (execOp a.eval o).run P w = .ok (.enter f (first' ++ args.map a.eval ++ cap')) w := by
        obtain ⟨dst, op, type, pos, after, guard⟩ := o
        simp only at hop
        subst hop
        simp only [execOp, resolve, Sem.run_bind, Sem.run_pure, Result.andThen_ok, hx', Deferred.ofValue, invoke]
        exact callFunc_run hfn _ w
      unfold Oper.wp
      rw [hrun]
      have e2 : (first'.toList ++ List.map a.eval args.toList ++ cap'.toList).toArray = first' ++ args.map a.eval ++ cap' := by
        apply Array.ext'
        simp
      rw [e2] at hc
      refine hc.mono ?_
      rintro e w' ⟨v', j', rfl, hv', R', F'⟩
      exact hk v' w' j' hv' R' F'
    · cases h

/-- One operation. -/
theorem op_wp (hcf : CfOk P w0 ng ngl cf) {i : Nat} {o : Oper} {d : DOper} (ho : ops[i]? = some o) (hc : CompOk P ngl N ops o d) {a : Act} {g : Nat → Option Value} (R : Rel w0 ng top j H w) (hG : GRel w0.heap.size ngl j) (hF : FRel w0.heap.size j N g a)
    {v : Value} {H' : Heap} (h : stepD cf d g H = some (v, H')) (hT : H'.next ≤ top) (next : Act → World → Prop) (Q : Exit → Act → World → Prop)
    (hk : ∀ v' w' j', VRel w0.heap.size j' v v' → Rel w0 ng top j' H' w' → Frm top j j' H H' w w' → next (a.put o.dst v') w') : wpOp P ops Q i next a w := by
  unfold wpOp
  simp only [ho]
  unfold stepD at h
  split at h
  · rename_i hw
    rw [want_rel hF hc hw]
    simp only [if_true]
    obtain ⟨xo, h1, h2⟩ := hc.ins
    exact .inl (ins_wp hcf h1 R hG (ev_rel hF hG h2) h hT next Q hk)
  · rename_i hw
    rw [want_rel hF hc hw]
    cases h
    simp only [Bool.false_eq_true, if_false]
    exact hk undef w j .skip R (Frm.refl _ _ _ _)
  · cases h

end
end Go.Proofs.YtdpbbppjjjhnoaaGreatDoor.D
