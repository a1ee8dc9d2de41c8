/- The abstract machine "D": what it reckons of a call is what the model does. No statement of the seat is proved in this text. -/
import Derived.Test.YtdpbbppjjjhnoaaGreatDoorDv
set_option linter.unusedSimpArgs false
set_option linter.unusedVariables false
namespace Go.Proofs.YtdpbbppjjjhnoaaGreatDoor.D
open Go

/-! ### Code that labels stand in, but no jump to one -/

theorem step_scope {P : Program} {b : Frame} {a : Act} {k : List Item} {cs : List Frame} {w : World} {c : Code} : step P (lone (b.at a (.code (.scope c) :: k)) cs w) = .next (lone (b.at a (.code c :: .inScope c :: k)) cs w) :=
  step_lone_go (by simp [stepG, stepG.exec, Frame.at])
theorem step_inScope {P : Program} {b : Frame} {a : Act} {k : List Item} {cs : List Frame} {w : World} {c : Code} : step P (lone (b.at a (.inScope c :: k)) cs w) = .next (lone (b.at a k) cs w) :=
  step_lone_go (by simp [stepG, stepG.exec, Frame.at])

theorem wp_scope {P : Program} {Q : Exit → Act → World → Prop} {a : Act} {w : World} {c : Code} (h : c.wp P (fun e a w => (∀ l, e ≠ .goto l) ∧ Q e a w) a w) : (Code.scope c).wp P Q a w := by
  intro b k cs
  obtain ⟨e, a₁, w₁, ⟨hg, hq⟩, harr⟩ := h b (.inScope c :: k) cs
  refine ⟨e, a₁, w₁, hq, ?_⟩
  cases e with
  | normal => exact .head step_scope (Steps.trans harr (.one step_inScope))
  | exit id => exact fun k' hk => .head step_scope (harr k' (by simp [exitTo, hk]))
  | goto l => exact absurd rfl (hg l)
  | ret => exact .of_steps (.one step_scope) harr
  | panic chain => exact .of_steps (.one step_scope) harr
  | outgrown => exact .of_steps (.one step_scope) harr

section
variable {P : Program} {w0 : World} {ng ngl N : Nat} {cf : CallF}

theorem runOps_next (hcf : CfOk P w0 ng ngl cf) : ∀ {ds : List DOper} {fr fr' : Fr} {H H' : Heap}, runOps cf ds fr H = some (fr', H') → H.next ≤ H'.next
  | [], _, _, _, _, h => by simp only [runOps, Option.some.injEq, Prod.mk.injEq] at h; obtain ⟨_, rfl⟩ := h; exact Nat.le_refl _
  | o :: r, fr, fr', H, H', h => by
    simp only [runOps] at h
    split at h
    · rename_i v H1 hs
      exact Nat.le_trans (step_next hcf hs) (runOps_next hcf h)
    · cases h

theorem regionD_next (hcf : CfOk P w0 ng ngl cf) {ds : List DOper} {flag : Bool} {fr fr' : Fr} {H H' : Heap} (h : regionD cf ds flag fr H = some (fr', H')) : H.next ≤ H'.next := by
  unfold regionD at h
  split at h
  · exact runOps_next hcf h
  · split at h
    · rename_i l fr2 H2 ht
      cases hq : chkOps (l.map (·.2.1) ++ [H2]) ds l with
      | false => rw [hq] at h; cases h
      | true =>
        rw [hq] at h
        simp only [cond_true, Option.some.injEq, Prod.mk.injEq] at h
        obtain ⟨rfl, rfl⟩ := h
        obtain ⟨hl, h0, h1, _⟩ := traceOps_spec ht
        have := trace_mono hcf (mkTrace ht) ds.length (Nat.le_refl _) 0 (Nat.zero_le _)
        have e0 : (mkTrace ht).Hs 0 = H := h1
        have e1 : (mkTrace ht).Hs ds.length = H2 := by show hpAt l H2 ds.length = H2; simp [hpAt, hl]
        rw [e0, e1] at this
        exact this
    · cases h

theorem loopN_next {body : Fr → Heap → Option (Ex × Fr × Heap)} (hb : ∀ fr H ex fr' H', body fr H = some (ex, fr', H') → H.next ≤ H'.next) (keep : Option (List Nat)) :
    ∀ (k : Nat) {fr fr' : Fr} {H H' : Heap} {ex : Ex}, loopN body keep k fr H = some (ex, fr', H') → H.next ≤ H'.next
  | 0, fr, fr', H, H', ex, h => by cases h
  | k + 1, fr, fr', H, H', ex, h => by
    simp only [loopN] at h
    split at h
    · rename_i fr1 H1 h1
      exact Nat.le_trans (hb _ _ _ _ _ h1) (loopN_next hb keep k h)
    · exact hb _ _ _ _ _ h

theorem runC_next (hcf : CfOk P w0 ng ngl cf) (k : Nat) : ∀ (c : C) {fr fr' : Fr} {H H' : Heap} {ex : Ex}, runC cf k c fr H = some (ex, fr', H') → H.next ≤ H'.next := by
  intro c
  induction c with
  | skip => intro fr fr' H H' ex h; simp only [runC, Option.some.injEq, Prod.mk.injEq] at h; obtain ⟨_, _, rfl⟩ := h; exact Nat.le_refl _
  | ret => intro fr fr' H H' ex h; simp only [runC, Option.some.injEq, Prod.mk.injEq] at h; obtain ⟨_, _, rfl⟩ := h; exact Nat.le_refl _
  | exit id => intro fr fr' H H' ex h; simp only [runC, Option.some.injEq, Prod.mk.injEq] at h; obtain ⟨_, _, rfl⟩ := h; exact Nat.le_refl _
  | region ds flag =>
    intro fr fr' H H' ex h
    simp only [runC] at h
    split at h
    · rename_i fr2 H2 hr
      simp only [Option.some.injEq, Prod.mk.injEq] at h
      obtain ⟨_, _, rfl⟩ := h
      exact regionD_next hcf hr
    · cases h
  | seq a b iha ihb =>
    intro fr fr' H H' ex h
    simp only [runC] at h
    split at h
    · rename_i fr1 H1 h1
      exact Nat.le_trans (iha h1) (ihb h)
    · exact iha h
  | cond c a b iha ihb =>
    intro fr fr' H H' ex h
    simp only [runC] at h
    split at h
    · split at h
      · exact iha h
      · exact ihb h
    · cases h
  | block id a iha =>
    intro fr fr' H H' ex h
    simp only [runC] at h
    split at h
    · rename_i i fr1 H1 h1
      split at h
      · simp only [Option.some.injEq, Prod.mk.injEq] at h
        obtain ⟨_, _, rfl⟩ := h
        exact iha h1
      · simp only [Option.some.injEq, Prod.mk.injEq] at h
        obtain ⟨_, _, rfl⟩ := h
        exact iha h1
    · exact iha h
  | loop keep a iha =>
    intro fr fr' H H' ex h
    exact loopN_next (fun fr H ex fr' H' h => iha h) keep k h
  | keep l a iha => intro fr fr' H H' ex h; simp only [runC] at h; exact iha h

def CPost (w0 : World) (ng ngl N top : Nat) (j : Inj) (H : Heap) (w : World) (ex : Ex) (fr' : Fr) (H' : Heap) (e : Exit) (a' : Act) (w' : World) : Prop :=
  ExRel ex e ∧ ∃ j', FRel w0.heap.size j' N fr'.get a' ∧ Rel w0 ng top j' H' w' ∧ GRel w0.heap.size ngl j' ∧ Frm top j j' H H' w w'

theorem CPost.before {top : Nat} {j j1 : Inj} {H H1 H' : Heap} {w w1 : World} {ex : Ex} {fr' : Fr} {e : Exit} {a' : Act} {w' : World} (F : Frm top j j1 H H1 w w1) (h : CPost w0 ng ngl N top j1 H1 w1 ex fr' H' e a' w') :
    CPost w0 ng ngl N top j H w ex fr' H' e a' w' := by
  obtain ⟨h1, j', h2, h3, h4, h5⟩ := h
  exact ⟨h1, j', h2, h3, h4, F.trans h5⟩

theorem runC_sound (hcf : CfOk P w0 ng ngl cf) (k : Nat) {c : Code} {c' : C} (hc : CompC P ngl N c c') : ∀ {fr fr' : Fr} {H H' : Heap} {ex : Ex}, runC cf k c' fr H = some (ex, fr', H') →
    ∀ {top : Nat} {j : Inj} {a : Act} {w : World}, H'.next ≤ top → FRel w0.heap.size j N fr.get a → Rel w0 ng top j H w → GRel w0.heap.size ngl j → c.wp P (CPost w0 ng ngl N top j H w ex fr' H') a w := by
  induction hc with
  | skip =>
    intro fr fr' H H' ex h top j a w hT hF R hG
    simp only [runC, Option.some.injEq, Prod.mk.injEq] at h
    obtain ⟨rfl, rfl, rfl⟩ := h
    exact wp_skip ⟨trivial, j, hF, R, hG, Frm.refl _ _ _ _⟩
  | ret =>
    intro fr fr' H H' ex h top j a w hT hF R hG
    simp only [runC, Option.some.injEq, Prod.mk.injEq] at h
    obtain ⟨rfl, rfl, rfl⟩ := h
    exact wp_ret ⟨trivial, j, hF, R, hG, Frm.refl _ _ _ _⟩
  | exit id =>
    intro fr fr' H H' ex h top j a w hT hF R hG
    simp only [runC, Option.some.injEq, Prod.mk.injEq] at h
    obtain ⟨rfl, rfl, rfl⟩ := h
    exact wp_exit ⟨rfl, j, hF, R, hG, Frm.refl _ _ _ _⟩
  | region id ops draw ds flag hr =>
    intro fr fr' H H' ex h top j a w hT hF R hG
    simp only [runC] at h
    split at h
    · rename_i fr2 H2 hreg
      simp only [Option.some.injEq, Prod.mk.injEq] at h
      obtain ⟨rfl, rfl, rfl⟩ := h
      refine wp_mono (region_sound hcf hr hreg hT hF R hG) ?_
      rintro e a' w' ⟨rfl, j', h1, h2, h3, h4⟩
      exact ⟨trivial, j', h1, h2, h3, h4⟩
    · cases h
  | seq x y x' y' hx hy ihx ihy =>
    intro fr fr' H H' ex h top j a w hT hF R hG
    simp only [runC] at h
    refine wp_seq ?_
    split at h
    · rename_i fr1 H1 h1
      have hn := runC_next hcf k y' h
      refine wp_mono (ihx h1 (Nat.le_trans hn hT) hF R hG) ?_
      rintro e a1 w1 ⟨he, j1, g1, g2, g3, g4⟩
      cases e <;> simp only [ExRel] at he
      refine wp_mono (ihy h hT g1 g2 g3) ?_
      intro e2 a2 w2 hp
      exact hp.before g4
    · rename_i hne
      refine wp_mono (ihx h hT hF R hG) ?_
      rintro e a1 w1 hp
      obtain ⟨he, hrest⟩ := hp
      cases e with
      | normal =>
        cases ex with
        | normal => exact absurd h (hne _ _)
        | exit i => exact he.elim
        | ret => exact he.elim
      | exit i => exact ⟨he, hrest⟩
      | goto l => exact ⟨he, hrest⟩
      | ret => exact ⟨he, hrest⟩
      | panic ch => exact ⟨he, hrest⟩
      | outgrown => exact ⟨he, hrest⟩
  | cond c c' x y x' y' hcm hx hy ihx ihy =>
    intro fr fr' H H' ex h top j a w hT hF R hG
    simp only [runC] at h
    have hev := ev_rel hF hG hcm
    obtain ⟨v', t', e', hv, _⟩ := hev.uncons
    simp only [List.map_cons, List.map_nil, List.cons.injEq] at e'
    obtain ⟨rfl, rfl⟩ := e'
    split at h
    · rename_i t ht
      rw [ht] at hv
      have hb := bool_of hv
      refine wp_cond hb ?_
      split at h
      · exact ihx h hT hF R hG
      · exact ihy h hT hF R hG
    · cases h
  | block id x x' hx ihx =>
    intro fr fr' H H' ex h top j a w hT hF R hG
    simp only [runC] at h
    refine wp_block ?_
    split at h
    · rename_i i fr1 H1 h1
      have hH : H1 = H' := by
        split at h <;> (simp only [Option.some.injEq, Prod.mk.injEq] at h; exact h.2.2)
      subst hH
      refine wp_mono (ihx h1 hT hF R hG) ?_
      rintro e a1 w1 ⟨he, hrest⟩
      cases e <;> simp only [ExRel] at he
      subst he
      show (if i = id then CPost w0 ng ngl N top j H w ex fr' H1 .normal a1 w1 else CPost w0 ng ngl N top j H w ex fr' H1 (.exit i) a1 w1)
      split at h
      · rename_i e
        rw [if_pos e]
        simp only [Option.some.injEq, Prod.mk.injEq] at h
        obtain ⟨rfl, rfl, _⟩ := h
        exact ⟨trivial, hrest⟩
      · rename_i e
        rw [if_neg e]
        simp only [Option.some.injEq, Prod.mk.injEq] at h
        obtain ⟨rfl, rfl, _⟩ := h
        exact ⟨rfl, hrest⟩
    · rename_i hne
      refine wp_mono (ihx h hT hF R hG) ?_
      rintro e a1 w1 ⟨he, hrest⟩
      cases e with
      | exit i =>
        cases ex with
        | normal => exact he.elim
        | exit i2 => exact absurd h (hne _ _ _)
        | ret => exact he.elim
      | normal => exact ⟨he, hrest⟩
      | goto l => exact ⟨he, hrest⟩
      | ret => exact ⟨he, hrest⟩
      | panic ch => exact ⟨he, hrest⟩
      | outgrown => exact ⟨he, hrest⟩
  | keep x l x' hx ihx =>
    intro fr fr' H H' ex h top j a w hT hF R hG
    simp only [runC] at h
    exact ihx h hT (keep_rel hF (some l)) R hG
  | after x l x' hx ihx =>
    intro fr fr' H H' ex h top j a w hT hF R hG
    simp only [runC] at h
    split at h
    · rename_i fr1 H1 h1
      simp only [Option.some.injEq, Prod.mk.injEq] at h
      obtain ⟨rfl, rfl, rfl⟩ := h
      refine wp_mono (ihx h1 hT hF R hG) ?_
      rintro e a1 w1 ⟨he, j1, g1, g2, g3, g4⟩
      exact ⟨he, j1, keep_rel g1 (some l), g2, g3, g4⟩
    · exact ihx h hT hF R hG
  | scope x x' hx ihx =>
    intro fr fr' H H' ex h top j a w hT hF R hG
    refine wp_scope (wp_mono (ihx h hT hF R hG) ?_)
    rintro e a1 w1 hp
    refine ⟨?_, hp⟩
    rintro l rfl
    have he := hp.1
    cases ex <;> exact he.elim
  | label l =>
    intro fr fr' H H' ex h top j a w hT hF R hG
    simp only [runC, Option.some.injEq, Prod.mk.injEq] at h
    obtain ⟨rfl, rfl, rfl⟩ := h
    exact wp_label ⟨trivial, j, hF, R, hG, Frm.refl _ _ _ _⟩
  | loop x keep x' hx ihx =>
    intro fr fr' H H' ex h top j a w hT hF R hG
    simp only [runC] at h
    have main : ∀ (m : Nat) {fr : Fr} {H : Heap} {j : Inj} {a : Act} {w : World}, loopN (fun fr H => runC cf k x' fr H) keep m fr H = some (ex, fr', H') → FRel w0.heap.size j N fr.get a → Rel w0 ng top j H w → GRel w0.heap.size ngl j →
        Code.rounds P x (CPost w0 ng ngl N top j H w ex fr' H') m a w := by
      intro m
      induction m with
      | zero => intro fr H j a w h; cases h
      | succ m ih =>
        intro fr H j a w h hF R hG
        rw [rounds_succ]
        simp only [loopN] at h
        split at h
        · rename_i fr1 H1 h1
          have hn := loopN_next (fun fr H ex fr' H' h => runC_next hcf k x' h) keep m h
          refine wp_mono (ihx h1 (Nat.le_trans hn hT) (keep_rel hF keep) R hG) ?_
          rintro e a1 w1 ⟨he, j1, g1, g2, g3, g4⟩
          cases e <;> simp only [ExRel] at he
          have hr := ih h g1 g2 g3
          have mono : ∀ (m : Nat) (Q Q' : Exit → Act → World → Prop) (a : Act) (w : World), (∀ e a w, Q e a w → Q' e a w) → Code.rounds P x Q m a w → Code.rounds P x Q' m a w := by
            intro m
            induction m with
            | zero => intro Q Q' a w _ h; exact h
            | succ m ihm =>
              intro Q Q' a w hq h
              rw [rounds_succ] at h ⊢
              refine wp_mono h ?_
              intro e a w he
              cases e with
              | normal => exact ihm Q Q' a w hq he
              | exit i => exact hq _ _ _ he
              | goto l => exact hq _ _ _ he
              | ret => exact hq _ _ _ he
              | panic ch => exact hq _ _ _ he
              | outgrown => exact hq _ _ _ he
          exact mono m _ _ a1 w1 (fun e a w hp => hp.before g4) hr
        · rename_i hne
          refine wp_mono (ihx h hT (keep_rel hF keep) R hG) ?_
          rintro e a1 w1 hp
          obtain ⟨he, hrest⟩ := hp
          cases e with
          | normal =>
            cases ex with
            | normal => exact absurd h (hne _ _)
            | exit i => exact he.elim
            | ret => exact he.elim
          | exit i => exact ⟨he, hrest⟩
          | goto l => exact ⟨he, hrest⟩
          | ret => exact ⟨he, hrest⟩
          | panic ch => exact ⟨he, hrest⟩
          | outgrown => exact ⟨he, hrest⟩
    exact wp_loop_rounds k (main k h hF R hG)

/-! ### Functions -/

def CompRes (P : Program) : List ResultVar → List RV → Prop
  | [], [] => True
  | .tmp t :: r, .tmp t' :: r' => t = t' ∧ CompRes P r r'
  | .cell t ty :: r, .cell t' n agg :: r' => t = t' ∧ (∃ d i, P.underlying ty = some d ∧ P.info? ty = some i ∧ ((isAggD d = true ∧ n = i.size ∧ agg = true) ∨ (isAggD d = false ∧ n = 1 ∧ agg = false))) ∧ CompRes P r r'
  | _, _ => False

structure CompFn (P : Program) (ngl : Nat) (fn : Func) (d : DFn) : Prop where
  name : fn.name ≠ "runtime.NumGoroutine"
  body : ∃ c, fn.body = some c ∧ CompC P ngl fn.ntmps c d.body
  ntmps : d.ntmps = fn.ntmps
  res : CompRes P fn.results.toList d.res

theorem argsFr_get : ∀ (l : List Value) (i : Nat) (fr : Fr) (t : Nat), (argsFr l i fr).get t = if i ≤ t ∧ t < i + l.length then l[t - i]? else fr.get t
  | [], i, fr, t => by simp only [argsFr]; rw [if_neg (by simp)]
  | v :: l, i, fr, t => by
    simp only [argsFr, argsFr_get l (i + 1), List.length_cons]
    by_cases h : i + 1 ≤ t ∧ t < i + 1 + l.length
    · rw [if_pos h, if_pos (by omega), show t - i = (t - (i + 1)) + 1 by omega, List.getElem?_cons_succ]
    · rw [if_neg h, Trie.get_set]
      by_cases e : t = i
      · subst e; rw [if_pos rfl, if_pos (by omega), Nat.sub_self]; rfl
      · rw [if_neg e, if_neg (by omega)]

theorem args_rel {j : Inj} {vs vs' : List Value} (h : LRel w0.heap.size j vs vs') (hN : vs.length ≤ N) : FRel w0.heap.size j N (argsFr vs 0 .leaf).get { tmps := vs'.toArray ++ Array.replicate (N - vs'.toArray.size) undef, defers := [] } := by
  have hl := h.1
  refine ⟨by simp; omega, rfl, fun t => ?_⟩
  rw [argsFr_get]
  by_cases ht : t < vs.length
  · rw [if_pos ⟨Nat.zero_le _, by omega⟩, Nat.sub_zero]
    obtain ⟨v', h1, h2⟩ := h.get (List.getElem?_eq_getElem ht)
    rw [List.getElem?_eq_getElem ht, Option.getD_some]
    have : (vs'.toArray ++ Array.replicate (N - vs'.toArray.size) undef).getD t undef = v' := by
      rw [Array.getD_eq_getD_getElem?, Array.getElem?_append_left (by simp; omega)]
      simp [h1]
    rw [this]; exact h2
  · rw [if_neg (by omega), Trie.get_leaf]
    exact .undef _

theorem res_sound {top : Nat} {j : Inj} {H : Heap} {w : World} (R : Rel w0 ng top j H w) {fr : Fr} {a : Act} (hF : FRel w0.heap.size j N fr.get a) : ∀ {rs : List ResultVar} {ds : List RV} {l : List Value}, CompRes P rs ds → resD fr H ds = some l →
    ∃ l', (rs.mapM (m := Sem) fun | .tmp t => pure (a.tmps.getD t undef) | .cell q t => do loadVar t (← asAddr (a.tmps.getD q undef))).run P w = .ok l' w ∧ LRel w0.heap.size j l l'
  | [], [], l, _, h => by
    simp only [resD, Option.some.injEq] at h
    subst h
    exact ⟨[], rfl, LRel.nil⟩
  | [], .tmp _ :: _, l, hc, _ => hc.elim
  | [], .cell _ _ _ :: _, l, hc, _ => hc.elim
  | .tmp t :: rs, [], l, hc, _ => hc.elim
  | .cell t ty :: rs, [], l, hc, _ => hc.elim
  | .tmp t :: rs, .cell _ _ _ :: ds, l, hc, _ => hc.elim
  | .cell t ty :: rs, .tmp _ :: ds, l, hc, _ => hc.elim
  | .tmp t :: rs, .tmp t' :: ds, l, hc, h => by
    obtain ⟨rfl, hc⟩ := hc
    simp only [resD] at h
    split at h
    · rename_i l1 h1
      cases h
      obtain ⟨l', h2, h3⟩ := res_sound R hF hc h1
      refine ⟨a.tmps.getD t undef :: l', ?_, LRel.cons (hF.2.2 t) h3⟩
      simp only [List.mapM_cons, Sem.run_bind, Sem.run_pure, Result.andThen_ok, h2]
    · cases h
  | .cell t ty :: rs, .cell t' n agg :: ds, l, hc, h => by
    obtain ⟨rfl, ⟨d, i, hu, hi, hcase⟩, hc⟩ := hc
    simp only [resD] at h
    split at h
    · rename_i v l1 hv h1
      cases h
      obtain ⟨l', h2, h3⟩ := res_sound R hF hc h1
      have hp := hF.2.2 t
      -- the load
      have hld : ∃ v', (do loadVar ty (← asAddr (a.tmps.getD t undef)) : Sem Value).run P w = .ok v' w ∧ VRel w0.heap.size j v v' := by
        generalize (fr.get t).getD undef = y at hv hp
        generalize a.tmps.getD t undef = y' at hp
        let o : Oper := { dst := none, op := .load ty (.const y'), type := ty, pos := "", after := #[], guard := none }
        have hcr : compileRead P o = some (.load n agg, [.const y']) := by
          simp only [compileRead, o, hu, hi]
          rcases hcase with ⟨q1, q2, q3⟩ | ⟨q1, q2, q3⟩
          · rw [if_pos q1, q2, q3]
          · rw [if_neg (by rw [q1]; simp), q2, q3]
        obtain ⟨v', g1, g2⟩ := read_sound (P := P) R hcr (ρ := fun | .const c => c | _ => undef) (vs := [y]) (LRel.cons hp LRel.nil) hv
        refine ⟨v', ?_, g2⟩
        cases y with
        | pointer q =>
          cases q with
          | none => simp [readSem] at hv
          | some ad =>
            obtain ⟨a', rfl, _⟩ := ptr_of hp
            simp only [execOp, o, Instr.loadAt, Instr.sureAddr, Sem.run_bind, Sem.run_pure, Result.andThen_ok] at g1
            simp only [asAddr, Sem.run_bind, Sem.run_pure, Result.andThen_ok]
            cases hlv : (loadVar ty a').run P w with
            | ok u w2 =>
              rw [hlv] at g1
              simp only [Result.andThen_ok, Result.ok.injEq, Next.value.injEq] at g1
              rw [g1.1, g1.2]
            | halt x w2 => rw [hlv] at g1; simp [Result.andThen] at g1
        | _ => simp [readSem] at hv
      obtain ⟨v', g1, g2⟩ := hld
      refine ⟨v' :: l', ?_, LRel.cons g2 h3⟩
      simp only [List.mapM_cons, Sem.run_bind, Sem.run_pure, Result.andThen_ok, h2] at g1 ⊢
      rw [g1]
      simp only [Result.andThen_ok, h2]
    · cases h

theorem valOf_rel {n0 : Nat} {j : Inj} {l l' : List Value} (h : LRel n0 j l l') : VRel n0 j (valOf l) (valOf l') := by
  cases l with
  | nil => rw [h.nil_inv]; exact LRel.tuple (by simpa using LRel.nil)
  | cons v r =>
    obtain ⟨v', t, rfl, hv, ht⟩ := h.uncons
    cases r with
    | nil => rw [ht.nil_inv]; exact hv
    | cons u r =>
      obtain ⟨u', t', rfl, hu, ht'⟩ := ht.uncons
      exact LRel.tuple (by simpa using LRel.cons hv (LRel.cons hu ht'))

theorem results_run {top : Nat} {j : Inj} {H : Heap} {w : World} (R : Rel w0 ng top j H w) {fr : Fr} {a : Act} (hF : FRel w0.heap.size j N fr.get a) {fn : Func} {ds : List RV} {l : List Value} (hc : CompRes P fn.results.toList ds) (h : resD fr H ds = some l) :
    ∃ v', (results fn a.tmps).run P w = .ok v' w ∧ VRel w0.heap.size j (valOf l) v' := by
  obtain ⟨l', h1, h2⟩ := res_sound R hF hc h
  refine ⟨valOf l', ?_, valOf_rel h2⟩
  unfold results
  rw [Array.mapM_eq_mapM_toList]
  simp only [Sem.run_bind, Sem.run_map]
  generalize hr : Sem.run P (List.mapM _ fn.results.toList) w = r
  have e : r = .ok l' w := hr.symm.trans h1
  subst e
  cases l' with
  | nil => simp [valOf, Result.andThen]
  | cons v t =>
    cases t with
    | nil => simp [valOf, Result.andThen]
    | cons u t => simp [valOf, Result.andThen]

/-- The calls that the machine reckons are the model's. -/
theorem callM_ok {tb : Nat → Option DFn} {nv : CallF} (htb : ∀ f d, tb f = some d → ∃ fn, P.funcs[f]? = some fn ∧ CompFn P ngl fn d) (hnv : CfOk P w0 ng ngl nv) : ∀ k, CfOk P w0 ng ngl (callM tb nv k) := by
  intro k
  induction k with
  | zero => intro f vs H v H' h; cases h
  | succ k ih =>
    intro f vs H v H' h
    simp only [callM] at h
    split at h
    · rename_i d hd
      obtain ⟨fn, hfn, hcomp⟩ := htb f d hd
      obtain ⟨c, hb, hcc⟩ := hcomp.body
      unfold runFn at h
      split at h
      · rename_i hargs
        have key : ∀ ex fr2 H2, (ex = Ex.normal ∨ ex = Ex.ret) → runC (callM tb nv k) k d.body (argsFr vs 0 .leaf) H = some (ex, fr2, H2) → (match resD fr2 H2 d.res with | some l => some (valOf l, H2) | none => none) = some (v, H') →
            H.next ≤ H'.next ∧ (∃ fn, P.funcs[f]? = some fn ∧ fn.body.isSome = true ∧ fn.name ≠ "runtime.NumGoroutine") ∧
            ∀ (top : Nat) (j : Inj) (w : World) (vs' : List Value), H'.next ≤ top → Rel w0 ng top j H w → GRel w0.heap.size ngl j → LRel w0.heap.size j vs vs' →
              Calls P f vs'.toArray w fun e w' => ∃ v' j', e = .returned v' ∧ VRel w0.heap.size j' v v' ∧ Rel w0 ng top j' H' w' ∧ Frm top j j' H H' w w' := by
          intro ex fr2 H2 hex hrun hres
          split at hres
          · rename_i l hl
            simp only [Option.some.injEq, Prod.mk.injEq] at hres
            obtain ⟨rfl, rfl⟩ := hres
            refine ⟨runC_next ih k d.body hrun, ⟨fn, hfn, by rw [hb]; rfl, hcomp.name⟩, fun top j w vs' hT R hG hl2 => ?_⟩
            refine calls_of_wp hfn hb ?_
            have hF0 := args_rel (N := fn.ntmps) hl2 (by rw [← hcomp.ntmps]; exact hargs)
            refine wp_mono (runC_sound ih k hcc hrun hT hF0 R hG) ?_
            rintro e a' w' ⟨he, j', g1, g2, g3, g4⟩
            obtain ⟨v', r1, r2⟩ := results_run (P := P) g2 g1 hcomp.res hl
            have fin : a'.defers = [] ∧ ∃ v, (results fn a'.tmps).run P w' = .ok v w' ∧ (∃ v' j', Ending.returned v = .returned v' ∧ VRel w0.heap.size j' (valOf l) v' ∧ Rel w0 ng top j' H2 w' ∧ Frm top j j' H H2 w w') :=
              ⟨g1.2.1, v', r1, v', j', rfl, r2, g2, g4⟩
            rcases hex with rfl | rfl
            · cases e <;> simp only [ExRel] at he
              exact fin
            · cases e <;> simp only [ExRel] at he
              exact fin
          · cases hres
        split at h
        · rename_i fr2 H2 hr
          exact key _ _ _ (.inl rfl) hr h
        · rename_i fr2 H2 hr
          exact key _ _ _ (.inr rfl) hr h
        · cases h
      · cases h
    · exact hnv f vs H v H' h

end
end Go.Proofs.YtdpbbppjjjhnoaaGreatDoor.D
