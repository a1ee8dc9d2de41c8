/- The abstract machine "D": a region comes to what the machine reckons, in whatever order the model carries its operations out. No statement of the seat is proved in this text. -/
import Derived.Test.YtdpbbppjjjhnoaaGreatDoorDr
set_option linter.unusedSimpArgs false
set_option linter.unusedVariables false
namespace Go.Proofs.YtdpbbppjjjhnoaaGreatDoor.D
open Go

section
variable {P : Program} {w0 : World} {ng ngl N : Nat} {cf : CallF} {n : Nat} {ds : Nat → DOper} {ops : Array Oper} {bef : Nat → Nat → Prop}
variable {T : Trace cf n ds} {top : Nat} {j0 j : Inj} {wi w : World} {S : Nat → Bool} {p : Nat} {a : Act}

/-- The last operation of a kind in front of a place. -/
theorem last_before (Q : Nat → Bool) : ∀ (p k : Nat), k ≤ p → (∀ e, k ≤ e → e < p → Q e = false) ∨ ∃ e, k ≤ e ∧ e < p ∧ Q e = true ∧ ∀ f, e < f → f < p → Q f = false := by
  intro p
  induction p with
  | zero => intro k hk; left; intro e h1 h2; omega
  | succ p ih =>
    intro k hk
    by_cases hkp : k ≤ p
    · cases hq : Q p with
      | true => exact .inr ⟨p, hkp, Nat.lt_succ_self p, hq, fun f h1 h2 => by omega⟩
      | false =>
        rcases ih k hkp with h | ⟨e, h1, h2, h3, h4⟩
        · left
          intro e g1 g2
          by_cases e0 : e = p
          · subst e0; exact hq
          · exact h e g1 (by omega)
        · refine .inr ⟨e, h1, by omega, h3, fun f g1 g2 => ?_⟩
          by_cases e0 : f = p
          · subst e0; exact hq
          · exact h4 f g1 (by omega)
    · left; intro e h1 h2; omega

theorem inv_step (hcf : CfOk P w0 ng ngl cf) (RO : RegOk P ngl N ops cf n ds T bef) (I : Inv P w0 ng ngl N ops T top j0 wi S p j a w) (hpe : p < n → isEff (ds p).ins = true) (htop : (T.Hs n).next ≤ top)
    {k : Nat} (hk : k < n) (hnS : S k = false) (hpre : ∀ o, ops[k]? = some o → ∀ e ∈ o.after, Region.binds .any e = true → S e.on = true)
    {S' : Nat → Bool} (hS' : ∀ i, i < n → S' i = (S i || i == k)) (hS'n : ∀ i, S' i = true → i < n) (Q : Exit → Act → World → Prop) :
    wpOp P ops Q k (fun a' w' => ∃ p' j', Inv P w0 ng ngl N ops T top j0 wi S' p' j' a' w' ∧ (p' < n → isEff (ds p').ins = true)) a w := by
  obtain ⟨o, ho, hc⟩ := RO.comp k hk
  obtain ⟨hb1, hb2⟩ := ready_sets RO I hk hnS hpre
  have hsl := ready_slots RO I hk hnS hpre
  obtain ⟨hxs, hwant⟩ := ev_congr hsl
  have hstep := T.step k hk
  have hpn := I.pn
  cases he : isEff (ds k).ins with
  | true =>
    -- it writes: it is the next one of those
    have hkp : k = p := by
      by_cases h1 : p < k
      · have h2 := RO.effs p k h1 hk (hpe (by omega)) he
        have := hb1 p h2
        have h3 := I.above p (Nat.le_refl _) (hpe (by omega))
        rw [h3] at this; cases this
      · by_cases h2 : k < p
        · have := I.below k h2 he; rw [hnS] at this; cases this
        · omega
    subst hkp
    have hst : stepD cf (ds k) (lastV T S n) (T.Hs k) = some (T.val k, T.Hs (k + 1)) := by
      rw [← hstep]
      unfold stepD
      rw [hwant, hxs]
    have hmk : T.made k = none := by
      unfold Trace.made
      split
      · rename_i hin; rw [hin] at he; simp [isEff] at he
      · rfl
    refine op_wp hcf ho hc (I.rel.retop (T.Hs (k + 1)).next ?_) I.glob I.fr hst (Nat.le_refl _) _ _ (fun v' w' j' hv R' F => ?_)
    · intro b q hb
      rcases I.dom b q hb with h | h | ⟨i, x, g1, g2, g3, g4, g5⟩
      · exact .inl h
      · have := trace_mono hcf T n (Nat.le_refl _) (k + 1) (by omega); right; omega
      · right
        rw [g5]
        by_cases hik : i = k
        · subst hik; rw [hmk] at g2; cases g2
        · exact trace_mono hcf T i (Nat.le_of_lt g1) (k + 1) (by omega)
    · have I' := inv_advance hcf RO I htop hk hnS hpre hS' hS'n (p' := k + 1) (.inr ⟨rfl, rfl, he⟩) hmk hv R' F ho hc
      obtain ⟨p', I2, hp'⟩ := inv_absorb hcf (n - (k + 1)) (k + 1) rfl I'
      exact ⟨p', j', I2, hp'⟩
  | false =>
    cases hmk : T.made k with
    | some x =>
      -- it makes a block
      obtain ⟨al, f, hin, hw, hal, hval, hH⟩ := mk_step hk hmk
      unfold wpOp
      simp only [ho]
      have hw' : wantD (ds k).guard (lastV T S n) = some true := by rw [hwant]; exact hw
      rw [want_rel I.fr hc hw']
      simp only [if_true]
      obtain ⟨xo, h1, h2⟩ := hc.ins
      have hlr := ev_rel I.fr I.glob h2
      rw [hxs] at hlr
      rw [hin] at h1
      obtain ⟨v', ob, q, r1, r2, r3, r4⟩ := alloc_sound I.rel h1 hlr hal
      left
      unfold Oper.wp
      rw [r1]
      refine ⟨p, _, inv_made hcf RO I htop hk hnS hpre hS' hS'n he hmk r2 r3 (fun j' hj' => by rw [hval]; exact r4 j' _ hj') ho hc, hpe⟩
    | none =>
      have hquiet := quiet_step hk he hmk
      -- it leaves the heap alone: it comes to the same at this place
      have hst : stepD cf (ds k) (lastV T S n) (T.Hs p) = some (T.val k, T.Hs p) := by
        unfold stepD at hstep ⊢
        rw [hwant, hxs]
        split at hstep
        · rename_i hw
          cases hin : (ds k).ins with
          | pure pi =>
            rw [hin] at hstep
            simp only [insD] at hstep ⊢
            split at hstep
            · simp only [Option.some.injEq, Prod.mk.injEq] at hstep ⊢; exact ⟨hstep.1, trivial⟩
            · cases hstep
          | alloc al =>
            rw [hin] at hstep
            simp only [insD] at hstep
            split at hstep
            · rename_i x f hs
              unfold Trace.made at hmk
              rw [hw, hin] at hmk
              simp [hs] at hmk
            · cases hstep
          | eff e => rw [hin] at he; simp [isEff] at he
          | call f => rw [hin] at he; simp [isEff] at he
          | callv => rw [hin] at he; simp [isEff] at he
          | read r chk =>
            rw [hin] at hstep
            simp only [insD] at hstep ⊢
            split at hstep
            · rename_i v hv
              simp only [Option.some.injEq, Prod.mk.injEq] at hstep
              obtain ⟨hv1, _⟩ := hstep
              have hread : readSem r ((ds k).xs.map (ev (T.g k))) (T.Hs p) = some (T.val k) := by
                by_cases hpk : p < k
                · have hee := hpe (by omega)
                  refine RO.chkB r chk k p hk hin hw hpk hee (fun hb => ?_)
                  have := hb1 p hb
                  have h3 := I.above p (Nat.le_refl _) hee
                  rw [h3] at this; cases this
                · rcases last_before (fun e => isEff (ds e).ins) p k (by omega) with h | ⟨e, g1, g2, g3, g4⟩
                  · obtain ⟨q1, q2⟩ := heap_ext (T := T) (by omega : k ≤ p) hpn h I.frs
                    have := readSem_ext q1 q2 hv
                    rw [hv1] at this
                    exact this
                  · have hke : k < e := by
                      by_cases e0 : k = e
                      · subst e0; rw [he] at g3; cases g3
                      · omega
                    have hnb : ¬ bef k e := fun hb => by
                      have := hb2 e (by omega) hb
                      have h5 := I.below e g2 g3
                      rw [this] at h5; cases h5
                    have hf := RO.chkF r chk k e (by omega) hin hw hke g3 hnb
                    obtain ⟨q1, q2⟩ := heap_ext (T := T) (by omega : e + 1 ≤ p) hpn (fun f h1 h2 => g4 f (by omega) h2) I.frs
                    exact readSem_ext q1 q2 hf
              rw [hread]
            · cases hstep
        · simp only [Option.some.injEq, Prod.mk.injEq] at hstep ⊢; exact ⟨hstep.1, trivial⟩
        · cases hstep
      refine op_wp hcf ho hc I.rel I.glob I.fr hst (Nat.le_refl _) _ _ (fun v' w' j' hv R' F => ?_)
      exact ⟨p, j', inv_advance hcf RO I htop hk hnS hpre hS' hS'n (p' := p) (.inl ⟨rfl, he⟩) hmk hv R' F ho hc, hpe⟩

theorem filter_lt {p p' : Nat → Bool} : ∀ (l : List Nat), (∀ x ∈ l, p' x = true → p x = true) → (∃ x ∈ l, p x = true ∧ p' x = false) → (l.filter p').length < (l.filter p).length
  | [], _, h => by obtain ⟨x, hx, _⟩ := h; cases hx
  | y :: l, h1, h2 => by
    have hle : ∀ (l : List Nat), (∀ x ∈ l, p' x = true → p x = true) → (l.filter p').length ≤ (l.filter p).length := by
      intro l
      induction l with
      | nil => intro _; exact Nat.le_refl _
      | cons z l ih =>
        intro h
        have := ih (fun x hx => h x (List.mem_cons_of_mem _ hx))
        simp only [List.filter_cons]
        cases hz : p' z with
        | true => rw [h z (List.mem_cons_self) hz]; simp; exact this
        | false => cases p z <;> simp <;> omega
    simp only [List.filter_cons]
    obtain ⟨x, hx, hpx, hpx'⟩ := h2
    rcases List.mem_cons.1 hx with e | hx
    · subst e
      rw [hpx, hpx']
      have := hle l (fun x hx => h1 x (List.mem_cons_of_mem _ hx))
      simp; omega
    · have := filter_lt l (fun x hx => h1 x (List.mem_cons_of_mem _ hx)) ⟨x, hx, hpx, hpx'⟩
      cases hy : p' y with
      | true => rw [h1 y (List.mem_cons_self) hy]; simp; exact this
      | false => cases p y <;> simp <;> omega

theorem any_sound (hcf : CfOk P w0 ng ngl cf) (RO : RegOk P ngl N ops cf n ds T bef) (htop : (T.Hs n).next ≤ top) (Q : Exit → Act → World → Prop)
    (hQ : ∀ a w j, FRel w0.heap.size j N (T.g n) a → Rel w0 ng top j (T.Hs n) w → GRel w0.heap.size ngl j → Frm top j0 j (T.Hs 0) (T.Hs n) wi w → Q .normal a w) :
    ∀ (fuel : Nat) (listed : Array Bool) (a : Act) (w : World), listed.size = n → ((List.range n).filter (fun i => !listed.getD i true)).length ≤ fuel →
      (∃ p j, Inv P w0 ng ngl N ops T top j0 wi (fun i => listed.getD i false) p j a w ∧ (p < n → isEff (ds p).ins = true)) → wpAny P .any ops Q fuel listed a w := by
  have hsz := RO.size
  -- where nobody is ready all are done
  have hend : ∀ (listed : Array Bool) (a : Act) (w : World), listed.size = n → (∃ p j, Inv P w0 ng ngl N ops T top j0 wi (fun i => listed.getD i false) p j a w ∧ (p < n → isEff (ds p).ins = true)) →
      Region.ready .any ops listed = [] → Q .normal a w := by
    rintro listed a w hl ⟨p, j, I, hpe⟩ hr
    have hall : ∀ m, ∀ i, i < m → i < n → listed.getD i false = true := by
      intro m
      induction m with
      | zero => intro i hi; omega
      | succ m ih =>
        intro i hi hin
        by_cases him : i < m
        · exact ih i him hin
        · have : i = m := by omega
          subst this
          cases hli : listed.getD i false with
          | true => rfl
          | false =>
            exfalso
            obtain ⟨o, ho, hc⟩ := RO.comp i hin
            have hmem : i ∈ Region.ready .any ops listed := by
              unfold Region.ready
              rw [List.mem_filter]
              refine ⟨List.mem_range.2 (by omega), ?_⟩
              have hlt : listed.getD i true = false := by
                rw [Array.getD_eq_getD_getElem?] at hli ⊢
                have hil : i < listed.size := by omega
                simp [hil] at hli ⊢; exact hli
              simp only [hlt, Bool.not_false, Bool.true_and, ho, Option.map_some, Option.getD_some]
              rw [Array.all_eq_true']
              intro e he
              cases hb : Region.binds .any e with
              | false => simp
              | true =>
                have hlt2 := RO.back i o ho e he hb
                simp [ih e.on hlt2 (by omega)]
            rw [hr] at hmem; cases hmem
    have hS : ∀ i, i < n → (fun i => listed.getD i false) i = true := fun i hi => hall n i hi hi
    have hpn : p = n := by
      by_cases h : p < n
      · have := I.above p (Nat.le_refl _) (hpe h)
        have h2 := hS p h
        simp only at this h2
        rw [h2] at this; cases this
      · have := I.pn; omega
    subst hpn
    refine hQ a w j (I.fr.congr fun t => ?_) (I.rel.retop top ?_) I.glob I.frm
    · rw [lastV_all T p (Nat.le_refl _) t]
      have same : ∀ m, m ≤ p → lastV T (fun i => decide (i < p)) m t = lastV T (fun i => listed.getD i false) m t := by
        intro m
        induction m with
        | zero => intro _; rfl
        | succ m ih =>
          intro hm
          have h1 := hS m (by omega)
          simp only at h1
          simp only [lastV, h1, decide_eq_true (show m < p by omega), ih (by omega)]
      exact same p (Nat.le_refl _)
    · intro b q hb
      rcases I.dom b q hb with h | h | ⟨i, x, g1, _, _, g4, _⟩
      · exact .inl h
      · exact .inr h
      · omega
  intro fuel
  induction fuel with
  | zero =>
    intro listed a w hl hf hI
    have hr : Region.ready .any ops listed = [] := by
      unfold Region.ready
      rw [List.filter_eq_nil_iff]
      intro i hi
      have hnil : (List.range n).filter (fun i => !listed.getD i true) = [] := List.eq_nil_of_length_eq_zero (by omega)
      rw [List.filter_eq_nil_iff] at hnil
      have := hnil i (by rw [← hsz]; exact hi)
      simp at this
      simp [this]
    exact ⟨hr, hend listed a w hl hI hr⟩
  | succ fuel ih =>
    intro listed a w hl hf hI
    refine ⟨hend listed a w hl hI, fun i hi => ?_⟩
    obtain ⟨p, j, I, hpe⟩ := hI
    unfold Region.ready at hi
    rw [List.mem_filter] at hi
    obtain ⟨hir, hcond⟩ := hi
    have hin : i < n := by rw [← hsz]; exact List.mem_range.1 hir
    obtain ⟨o, ho, hc⟩ := RO.comp i hin
    simp only [ho, Option.map_some, Option.getD_some, Bool.and_eq_true, Bool.not_eq_eq_eq_not, Bool.not_true] at hcond
    obtain ⟨hni, hall⟩ := hcond
    rw [Array.all_eq_true'] at hall
    have hil : i < listed.size := by omega
    have hnS : listed.getD i false = false := by
      rw [Array.getD_eq_getD_getElem?] at hni ⊢
      simp [hil] at hni ⊢; exact hni
    have hset : ∀ q, q < n → (listed.setIfInBounds i true).getD q false = (listed.getD q false || q == i) := by
      intro q hq
      rw [Array.getD_eq_getD_getElem?, Array.getD_eq_getD_getElem?]
      by_cases e : q = i
      · subst e; simp [hil]
      · rw [Array.getElem?_setIfInBounds_ne (fun h => e h.symm)]
        have : (q == i) = false := by simpa using e
        rw [this, Bool.or_false]
    have hpre : ∀ o', ops[i]? = some o' → ∀ e ∈ o'.after, Region.binds .any e = true → (fun q => listed.getD q false) e.on = true := by
      intro o' ho' e he hb
      rw [ho] at ho'; cases ho'
      have := hall e he
      simpa [hb] using this
    refine wpOp_mono (fun a' w' h => ih (listed.setIfInBounds i true) a' w' (by simp [hl]) ?_ h) (inv_step hcf RO I hpe htop hin hnS hpre (S' := fun q => (listed.setIfInBounds i true).getD q false) hset (fun q hq => ?_) Q)
    · have := filter_lt (p := fun q => !listed.getD q true) (p' := fun q => !(listed.setIfInBounds i true).getD q true) (List.range n) (fun q hq h => by
        by_cases e : q = i
        · subst e; simp [hni]
        · rw [Array.getD_eq_getD_getElem?, Array.getElem?_setIfInBounds_ne (fun h => e h.symm), ← Array.getD_eq_getD_getElem?] at h; exact h)
        ⟨i, List.mem_range.2 hin, by simp [hni], by simp [hil]⟩
      omega
    · rcases Nat.lt_or_ge q n with h | h
      · exact h
      · exfalso
        have h2 : ¬ q < (listed.setIfInBounds i true).size := by simp; omega
        simp only [Array.getD_eq_getD_getElem?] at hq
        rw [Array.getElem?_eq_none (by omega)] at hq
        simp at hq

end
end Go.Proofs.YtdpbbppjjjhnoaaGreatDoor.D
