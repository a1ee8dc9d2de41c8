/- The abstract machine "D": a region whose operations the model carries out in any order: the relation that every order keeps. No statement of the seat is proved in this text. -/
import Derived.Test.YtdpbbppjjjhnoaaGreatDoorDq
set_option linter.unusedSimpArgs false
set_option linter.unusedVariables false
namespace Go.Proofs.YtdpbbppjjjhnoaaGreatDoor.D
open Go

section
variable {P : Program} {w0 : World} {ng ngl N : Nat} {cf : CallF} {n : Nat} {ds : Nat → DOper} {ops : Array Oper} {bef : Nat → Nat → Prop}

structure Inv (P : Program) (w0 : World) (ng ngl N : Nat) (ops : Array Oper) (T : Trace cf n ds) (top : Nat) (j0 : Inj) (wi : World) (S : Nat → Bool) (p : Nat) (j : Inj) (a : Act) (w : World) : Prop where
  pn : p ≤ n
  sin : ∀ i, S i = true → i < n
  clo : ∀ i o, S i = true → ops[i]? = some o → ∀ e ∈ o.after, Region.binds .any e = true → S e.on = true
  below : ∀ e, e < p → isEff (ds e).ins = true → S e = true
  above : ∀ e, p ≤ e → isEff (ds e).ins = true → S e = false
  fr : FRel w0.heap.size j N (lastV T S n) a
  rel : Rel w0 ng (T.Hs p).next j (T.Hs p) w
  glob : GRel w0.heap.size ngl j
  frm : Frm top j0 j (T.Hs 0) (T.Hs p) wi w
  al1 : ∀ i x, i < n → T.made i = some x → (S i = true ↔ ∃ k, j (T.Hs i).next = some k)
  dom : ∀ b k, j b = some k → b < (T.Hs p).next ∨ top ≤ b ∨ ∃ i x, i < n ∧ T.made i = some x ∧ S i = true ∧ p ≤ i ∧ b = (T.Hs i).next
  early : ∀ i x k, i < n → p ≤ i → T.made i = some x → j (T.Hs i).next = some k → BRel w0.heap.size j (some x) k w ∧ ∀ c q, j c = some q → c ≠ (T.Hs i).next → q.rb ≠ k.rb
  late : ∀ i x, i < p → i < n → T.made i = some x → S i = false → (T.Hs p).get (T.Hs i).next = some x
  frs : ∀ i, i ≤ p → ∀ b, (T.Hs i).next ≤ b → (T.Hs i).get b = none

theorem trace_mono (hcf : CfOk P w0 ng ngl cf) (T : Trace cf n ds) : ∀ k, k ≤ n → ∀ i, i ≤ k → (T.Hs i).next ≤ (T.Hs k).next := by
  intro k
  induction k with
  | zero => intro _ i hi; have : i = 0 := by omega
            subst this; exact Nat.le_refl _
  | succ k ih =>
    intro hk i hi
    by_cases e : i = k + 1
    · subst e; exact Nat.le_refl _
    · exact Nat.le_trans (ih (by omega) i (by omega)) (step_next hcf (T.step k (by omega)))

theorem made_next (hcf : CfOk P w0 ng ngl cf) {T : Trace cf n ds} {i k : Nat} {x : Blk} (hi : i < n) (hk : k ≤ n) (h : i < k) (hx : T.made i = some x) : (T.Hs i).next < (T.Hs k).next := by
  obtain ⟨_, _, _, _, _, _, he⟩ := mk_step hi hx
  have h1 := trace_mono hcf T k hk (i + 1) h
  rw [he] at h1
  have : ((T.Hs i).push x).next = (T.Hs i).next + 1 := rfl
  omega

variable {T : Trace cf n ds} {top : Nat} {j0 j : Inj} {wi w : World} {S : Nat → Bool} {p : Nat} {a : Act}

theorem inv_absorb1 (hcf : CfOk P w0 ng ngl cf) (I : Inv P w0 ng ngl N ops T top j0 wi S p j a w) (hp : p < n) (he : isEff (ds p).ins = false) : Inv P w0 ng ngl N ops T top j0 wi S (p + 1) j a w := by
  have below' : ∀ e, e < p + 1 → isEff (ds e).ins = true → S e = true := by
    intro e h1 h2
    by_cases e0 : e = p
    · subst e0; rw [he] at h2; cases h2
    · exact I.below e (by omega) h2
  cases hm : T.made p with
  | none =>
    have hq := quiet_step hp he hm
    refine ⟨by omega, I.sin, I.clo, below', fun e h1 h2 => I.above e (by omega) h2, I.fr, by rw [hq]; exact I.rel, I.glob, by rw [hq]; exact I.frm, I.al1, ?_, fun i x k h1 h2 h3 h4 => I.early i x k h1 (by omega) h3 h4, ?_, ?_⟩
    · intro b k hb
      rw [hq]
      rcases I.dom b k hb with h | h | ⟨i, x, h1, h2, h3, h4, h5⟩
      · exact .inl h
      · exact .inr (.inl h)
      · refine .inr (.inr ⟨i, x, h1, h2, h3, ?_, h5⟩)
        by_cases e0 : i = p
        · subst e0; rw [hm] at h2; cases h2
        · omega
    · intro i x h1 h2 h3 h4
      rw [hq]
      by_cases e0 : i = p
      · subst e0; rw [hm] at h3; cases h3
      · exact I.late i x (by omega) h2 h3 h4
    · intro i hi b hb
      by_cases e0 : i = p + 1
      · subst e0; rw [hq] at hb ⊢; exact I.frs p (Nat.le_refl _) b hb
      · exact I.frs i (by omega) b hb
  | some x =>
    obtain ⟨_, _, _, _, _, _, hq⟩ := mk_step hp hm
    have hn : (T.Hs (p + 1)).next = (T.Hs p).next + 1 := by rw [hq]; rfl
    have hr := absorb_sound I.rel (x := x) (fun k hk => I.early p x k hp (Nat.le_refl _) hm hk)
    refine ⟨by omega, I.sin, I.clo, below', fun e h1 h2 => I.above e (by omega) h2, I.fr, ?_, I.glob, ?_, I.al1, ?_, fun i y k h1 h2 h3 h4 => I.early i y k h1 (by omega) h3 h4, ?_, ?_⟩
    · rw [hq]
      exact hr.retop _ (fun b i _ => Nat.lt_or_ge b _)
    · have F := I.frm
      refine ⟨F.le, by rw [hn]; exact Nat.le_succ_of_le F.next, by rw [hq]; exact F.base, F.size, ?_, F.newd, F.newr, F.real⟩
      intro b hb hj
      have := F.next
      rw [hq, Heap.get_push, if_neg (by omega)]
      exact F.keep b hb hj
    · intro b k hb
      rw [hn]
      rcases I.dom b k hb with h | h | ⟨i, y, h1, h2, h3, h4, h5⟩
      · exact .inl (by omega)
      · exact .inr (.inl h)
      · by_cases e0 : i = p
        · subst e0; left; omega
        · exact .inr (.inr ⟨i, y, h1, h2, h3, by omega, h5⟩)
    · intro i y h1 h2 h3 h4
      rw [hq, Heap.get_push]
      by_cases e0 : i = p
      · subst e0; rw [if_pos rfl]; rw [hm] at h3; exact h3
      · have := made_next hcf h2 (Nat.le_of_lt hp) (by omega : i < p) h3
        rw [if_neg (by omega)]
        exact I.late i y (by omega) h2 h3 h4
    · intro i hi b hb
      by_cases e0 : i = p + 1
      · subst e0
        rw [hq, Heap.get_push, if_neg (by omega)]
        exact I.frs p (Nat.le_refl _) b (by omega)
      · exact I.frs i (by omega) b hb

/-- On to the next operation that writes. -/
theorem inv_absorb (hcf : CfOk P w0 ng ngl cf) : ∀ (m p : Nat), n - p = m → Inv P w0 ng ngl N ops T top j0 wi S p j a w →
    ∃ p', Inv P w0 ng ngl N ops T top j0 wi S p' j a w ∧ (p' < n → isEff (ds p').ins = true)
  | 0, p, hm, I => ⟨p, I, fun h => by omega⟩
  | m + 1, p, hm, I => by
    cases he : isEff (ds p).ins with
    | true => exact ⟨p, I, fun _ => he⟩
    | false => exact inv_absorb hcf m (p + 1) (by omega) (inv_absorb1 hcf I (by omega) he)

theorem ev_congr {g g' : Nat → Option Value} {d : DOper} (h : ∀ t ∈ readsOf d, g t = g' t) : d.xs.map (ev g) = d.xs.map (ev g') ∧ wantD d.guard g = wantD d.guard g' := by
  constructor
  · apply List.map_congr_left
    intro x hx
    cases x with
    | t n =>
      have : n ∈ readsOf d := List.mem_append_left _ (List.mem_filterMap.2 ⟨.t n, hx, rfl⟩)
      simp only [ev, h n this]
    | c v => rfl
  · unfold wantD
    cases hg : d.guard with
    | none => rfl
    | some q =>
      obtain ⟨t, b⟩ := q
      have : t ∈ readsOf d := List.mem_append_right _ (by simp [hg])
      simp only [h t this]

/-- The heap between two operations that write grows alone. -/
theorem heap_ext {k p : Nat} (hkp : k ≤ p) (hpn : p ≤ n) (hne : ∀ e, k ≤ e → e < p → isEff (ds e).ins = false) (hfresh : ∀ i, i ≤ p → ∀ b, (T.Hs i).next ≤ b → (T.Hs i).get b = none) :
    (T.Hs p).base = (T.Hs k).base ∧ ∀ b x, (T.Hs k).get b = some x → (T.Hs p).get b = some x := by
  induction p with
  | zero => have : k = 0 := by omega
            subst this; exact ⟨rfl, fun b x h => h⟩
  | succ p ih =>
    by_cases e : k = p + 1
    · subst e; exact ⟨rfl, fun b x h => h⟩
    · obtain ⟨h1, h2⟩ := ih (by omega) (by omega) (fun e q1 q2 => hne e q1 (by omega)) (fun i hi => hfresh i (by omega))
      cases hm : T.made p with
      | none => rw [quiet_step (by omega) (hne p (by omega) (by omega)) hm]; exact ⟨h1, h2⟩
      | some x =>
        obtain ⟨_, _, _, _, _, _, hq⟩ := mk_step (by omega : p < n) hm
        rw [hq]
        refine ⟨h1, fun b y hb => ?_⟩
        have hb' := h2 b y hb
        rw [Heap.get_push, if_neg]
        · exact hb'
        · intro e0
          rw [hfresh p (by omega) b (by omega)] at hb'
          cases hb'

/-- What comes before an operation that is ready is done; what comes behind it isn't. -/
theorem ready_sets (RO : RegOk P ngl N ops cf n ds T bef) (I : Inv P w0 ng ngl N ops T top j0 wi S p j a w) {k : Nat} (hk : k < n) (hnS : S k = false) (hpre : ∀ o, ops[k]? = some o → ∀ e ∈ o.after, Region.binds .any e = true → S e.on = true) :
    (∀ i, bef i k → S i = true) ∧ ∀ i, i < n → bef k i → S i = false := by
  constructor
  · intro i hb
    have := RO.closed (fun q => S q = true ∨ q = k) (by
      intro q o hq ho e he hbd
      rcases hq with hq | hq
      · exact .inl (I.clo q o hq ho e he hbd)
      · subst hq; exact .inl (hpre o ho e he hbd)) i k hk (.inr rfl) hb
    rcases this with h | h
    · exact h
    · have := RO.lt i k hb; omega
  · intro i hi hb
    cases hs : S i with
    | false => rfl
    | true =>
      have := RO.closed (fun q => S q = true) (fun q o hq ho e he hbd => I.clo q o hq ho e he hbd) k i hi hs hb
      rw [hnS] at this; cases this

theorem ready_slots (RO : RegOk P ngl N ops cf n ds T bef) (I : Inv P w0 ng ngl N ops T top j0 wi S p j a w) {k : Nat} (hk : k < n) (hnS : S k = false) (hpre : ∀ o, ops[k]? = some o → ∀ e ∈ o.after, Region.binds .any e = true → S e.on = true) :
    ∀ t ∈ readsOf (ds k), lastV T S n t = T.g k t := by
  obtain ⟨h1, h2⟩ := ready_sets RO I hk hnS hpre
  intro t ht
  refine lastV_eq T S k (Nat.le_of_lt hk) t (fun i hi hd => h1 i (RO.slots i k hi hk (.inl ⟨t, hd, .inl ht⟩))) (fun i hi hin hd => ?_)
  by_cases e : i = k
  · subst e; exact hnS
  · exact h2 i hin (RO.slots k i (by omega) hin (.inr ⟨t, hd, ht⟩))

theorem inv_frame (RO : RegOk P ngl N ops cf n ds T bef) (I : Inv P w0 ng ngl N ops T top j0 wi S p j a w) {k : Nat} (hk : k < n) (hnS : S k = false) (hpre : ∀ o, ops[k]? = some o → ∀ e ∈ o.after, Region.binds .any e = true → S e.on = true)
    {S' : Nat → Bool} (hS' : ∀ i, i < n → S' i = (S i || i == k)) {j' : Inj} (hj : Inj.le j j') {v' : Value} (hv : VRel w0.heap.size j' (T.val k) v') {o : Oper} (hc : CompOk P ngl N ops o (ds k)) :
    FRel w0.heap.size j' N (lastV T S' n) (a.put o.dst v') := by
  obtain ⟨h1, h2⟩ := ready_sets RO I hk hnS hpre
  have := (I.fr.mono hj).put hc.dlt hv
  refine this.congr fun t => ?_
  rw [lastV_add T S S' k hk hS' hnS t (fun hd i hki hin hd2 => h2 i hin (RO.slots k i hki hin (.inl ⟨t, hd, .inr hd2⟩))), hc.dst]

/-- Behind an operation that makes no block at this place. -/
theorem inv_advance (hcf : CfOk P w0 ng ngl cf) (RO : RegOk P ngl N ops cf n ds T bef) (I : Inv P w0 ng ngl N ops T top j0 wi S p j a w) (htop : (T.Hs n).next ≤ top) {k : Nat} (hk : k < n) (hnS : S k = false) (hpre : ∀ o, ops[k]? = some o → ∀ e ∈ o.after, Region.binds .any e = true → S e.on = true)
    {S' : Nat → Bool} (hS' : ∀ i, i < n → S' i = (S i || i == k)) (hS'n : ∀ i, S' i = true → i < n) {p' : Nat} (hp' : (p' = p ∧ isEff (ds k).ins = false) ∨ (p' = p + 1 ∧ k = p ∧ isEff (ds k).ins = true)) (hmk : T.made k = none)
    {j' : Inj} {v' : Value} {w' : World} (hv : VRel w0.heap.size j' (T.val k) v') (R' : Rel w0 ng (T.Hs p').next j' (T.Hs p') w') (F : Frm (T.Hs p').next j j' (T.Hs p) (T.Hs p') w w') {o : Oper} (ho : ops[k]? = some o) (hc : CompOk P ngl N ops o (ds k)) :
    Inv P w0 ng ngl N ops T top j0 wi S' p' j' (a.put o.dst v') w' := by
  have hpn := I.pn
  have hp'n : p' ≤ n := by rcases hp' with ⟨h, _⟩ | ⟨h1, h2, _⟩ <;> omega
  have hmono := trace_mono hcf T
  have htp : (T.Hs p').next ≤ top := Nat.le_trans (hmono n (Nat.le_refl _) p' hp'n) htop
  have hpp : p ≤ p' := by rcases hp' with ⟨h, _⟩ | ⟨h1, h2, _⟩ <;> omega
  have hSk : S' k = true := by rw [hS' k hk]; simp
  have hup : ∀ i, S i = true → S' i = true := fun i hi => by rw [hS' i (I.sin i hi), hi]; rfl
  -- a number at which a block is made behind here isn't given by this step
  have hnew : ∀ i x q, i < n → T.made i = some x → j (T.Hs i).next = none → j' (T.Hs i).next = some q → False := by
    intro i x q hi hx h1 h2
    obtain ⟨h3, h4⟩ := F.newd _ _ h1 h2
    rcases hp' with ⟨e, _⟩ | ⟨e, e2, _⟩
    · subst e; omega
    · subst e; subst e2
      by_cases hik : i < k
      · have := made_next hcf hi (Nat.le_of_lt hk) hik hx; omega
      · by_cases hik2 : i = k
        · subst hik2; rw [hmk] at hx; cases hx
        · have := hmono i (Nat.le_of_lt hi) (k + 1) (by omega); omega
  refine ⟨hp'n, hS'n, ?_, ?_, ?_, inv_frame RO I hk hnS hpre hS' F.le hv hc, R', I.glob.mono F.le, I.frm.trans (F.retop htp), ?_, ?_, ?_, ?_, ?_⟩
  · intro i q hi hq e he hbd
    have hin := hS'n i hi
    rw [hS' i hin] at hi
    by_cases hik : i = k
    · subst hik
      exact hup _ (hpre q hq e he hbd)
    · have : (i == k) = false := by simpa using hik
      rw [this, Bool.or_false] at hi
      exact hup _ (I.clo i q hi hq e he hbd)
  · intro e h1 h2
    rcases hp' with ⟨e1, _⟩ | ⟨e1, e2, _⟩
    · subst e1; exact hup e (I.below e h1 h2)
    · subst e1
      by_cases e3 : e = k
      · subst e3; exact hSk
      · exact hup e (I.below e (by omega) h2)
  · intro e h1 h2
    have hold := I.above e (by omega) h2
    cases hs : S' e with
    | false => rfl
    | true =>
      have hin := hS'n e hs
      rw [hS' e hin, hold, Bool.false_or] at hs
      have : e = k := by simpa using hs
      subst this
      rcases hp' with ⟨_, e2⟩ | ⟨e1, e2, _⟩
      · rw [h2] at e2; cases e2
      · omega
  · intro i x hi hx
    have hik : i ≠ k := fun e => by subst e; rw [hmk] at hx; cases hx
    have : S' i = S i := by
      rw [hS' i hi]
      have : (i == k) = false := by simpa using hik
      rw [this, Bool.or_false]
    rw [this, I.al1 i x hi hx]
    constructor
    · rintro ⟨q, hq⟩; exact ⟨q, F.le _ _ hq⟩
    · rintro ⟨q, hq⟩
      cases h1 : j (T.Hs i).next with
      | some q' => exact ⟨q', rfl⟩
      | none => exact (hnew i x q hi hx h1 hq).elim
  · intro b q hb
    cases h1 : j b with
    | none => exact .inl (F.newd b q h1 hb).2
    | some q' =>
      rcases I.dom b q' h1 with h | h | ⟨i, x, g1, g2, g3, g4, g5⟩
      · exact .inl (Nat.lt_of_lt_of_le h F.next)
      · exact .inr (.inl h)
      · refine .inr (.inr ⟨i, x, g1, g2, hup i g3, ?_, g5⟩)
        rcases hp' with ⟨e, _⟩ | ⟨e, e2, _⟩
        · omega
        · by_cases hik : i = k
          · subst hik; rw [hmk] at g2; cases g2
          · omega
  · intro i x q hi hpi hx hq
    have hq0 : j (T.Hs i).next = some q := by
      cases h1 : j (T.Hs i).next with
      | none => exact (hnew i x q hi hx h1 hq).elim
      | some q' => rw [F.le _ _ h1] at hq; exact hq
    obtain ⟨hB, hd⟩ := I.early i x q hi (by omega) hx hq0
    have hbig : (T.Hs p').next ≤ (T.Hs i).next := hmono i (Nat.le_of_lt hi) p' hpi
    have hrng := (I.rel.rng _ _ hq0).1
    refine ⟨hB.frame F.le (fun _ => F.real _ hrng fun b l hb hbt => hd b l hb (by omega)), fun c l hc hne => ?_⟩
    cases h1 : j c with
    | some l' => rw [F.le _ _ h1] at hc; cases hc; exact hd c l h1 hne
    | none =>
      rcases F.newr c l h1 hc with h2 | ⟨c2, k2, h3, h4, h5⟩
      · omega
      · rw [← h5]; exact hd c2 k2 h3 (by omega)
  · intro i x h1 h2 h3 h4
    have hik : i ≠ k := fun e => by subst e; rw [hSk] at h4; cases h4
    have hSi : S i = false := by
      rw [hS' i h2] at h4
      cases hs : S i with
      | false => rfl
      | true => rw [hs] at h4; simp at h4
    have hip : i < p := by
      rcases hp' with ⟨e, _⟩ | ⟨e, e2, _⟩ <;> omega
    have hlt := made_next hcf h2 I.pn hip h3
    rw [F.keep _ hlt]
    · exact I.late i x hip h2 h3 hSi
    · cases h5 : j (T.Hs i).next with
      | none => rfl
      | some q =>
        have := (I.al1 i x h2 h3).2 ⟨q, h5⟩
        rw [hSi] at this; cases this
  · intro i hi b hb
    by_cases e : i ≤ p
    · exact I.frs i e b hb
    · have : i = p' := by rcases hp' with ⟨e1, _⟩ | ⟨e1, e2, _⟩ <;> omega
      subst this
      exact R'.fresh b hb

/-- Behind an operation that makes a block. -/
theorem inv_made (hcf : CfOk P w0 ng ngl cf) (RO : RegOk P ngl N ops cf n ds T bef) (I : Inv P w0 ng ngl N ops T top j0 wi S p j a w) (htop : (T.Hs n).next ≤ top) {k : Nat} (hk : k < n) (hnS : S k = false) (hpre : ∀ o, ops[k]? = some o → ∀ e ∈ o.after, Region.binds .any e = true → S e.on = true)
    {S' : Nat → Bool} (hS' : ∀ i, i < n → S' i = (S i || i == k)) (hS'n : ∀ i, S' i = true → i < n) (hne : isEff (ds k).ins = false) {x : Blk} (hmk : T.made k = some x)
    {v' : Value} {ob : Obj} {q : Info} (hq : q.rb = w.heap.size) (hB : ∀ (j' : Inj), Inj.le j j' → ∀ (w' : World), w'.heap[q.rb]? = some ob → BRel w0.heap.size j' (some x) q w') (hv : ∀ (j' : Inj), j' (T.Hs k).next = some q → VRel w0.heap.size j' (T.val k) v')
    {o : Oper} (ho : ops[k]? = some o) (hc : CompOk P ngl N ops o (ds k)) : Inv P w0 ng ngl N ops T top j0 wi S' p (j.upd (T.Hs k).next q) (a.put o.dst v') (wpush w ob) := by
  have hpn := I.pn
  have hmono := trace_mono hcf T
  have hSk : S' k = true := by rw [hS' k hk]; simp
  have hup : ∀ i, S i = true → S' i = true := fun i hi => by rw [hS' i (I.sin i hi), hi]; rfl
  have hnone : j (T.Hs k).next = none := by
    cases h : j (T.Hs k).next with
    | none => rfl
    | some q' =>
      have := (I.al1 k x hk hmk).2 ⟨q', h⟩
      rw [hnS] at this; cases this
  have hself : (j.upd (T.Hs k).next q) (T.Hs k).next = some q := by simp [Inj.upd]
  have hother : ∀ b, b ≠ (T.Hs k).next → (j.upd (T.Hs k).next q) b = j b := fun b hb => by simp [Inj.upd, hb]
  have hwget : (wpush w ob).heap[q.rb]? = some ob := by rw [wpush_get, if_pos hq]
  have hsz : (wpush w ob).heap.size = w.heap.size + 1 := by simp [wpush]
  have hle0 : Inj.le j (j.upd (T.Hs k).next q) := by
    intro c l hcl
    rw [hother c (fun e => by subst e; rw [hnone] at hcl; cases hcl)]
    exact hcl
  have hplace : ((T.Hs k).next < (T.Hs p).next ∧ (T.Hs p).get (T.Hs k).next = some x) ∨ ((T.Hs p).next ≤ (T.Hs k).next ∧ (T.Hs p).next ≤ (T.Hs k).next) := by
    by_cases hkp : k < p
    · exact .inl ⟨made_next hcf hk I.pn hkp hmk, I.late k x hkp hk hmk hnS⟩
    · have := hmono k (Nat.le_of_lt hk) p (by omega)
      exact .inr ⟨this, this⟩
  obtain ⟨R', hle⟩ := add_sound I.rel hnone hplace hq (hB _ hle0 _ hwget)
  have hkn : (T.Hs k).next < top := Nat.lt_of_lt_of_le (made_next hcf hk (Nat.le_refl _) hk hmk) htop
  have hdist : ∀ i y, i < n → T.made i = some y → i ≠ k → (T.Hs i).next ≠ (T.Hs k).next := by
    intro i y hi hy hik
    by_cases h : i < k
    · have := made_next hcf hi (Nat.le_of_lt hk) h hy; omega
    · have := made_next hcf hk (Nat.le_of_lt hi) (by omega : k < i) hmk; omega
  refine ⟨I.pn, hS'n, ?_, fun e h1 h2 => hup e (I.below e h1 h2), ?_, inv_frame RO I hk hnS hpre hS' hle (hv _ hself) hc, R', I.glob.mono hle, ?_, ?_, ?_, ?_, ?_, I.frs⟩
  · intro i y hi hy e he hbd
    have hin := hS'n i hi
    rw [hS' i hin] at hi
    by_cases hik : i = k
    · subst hik
      exact hup _ (hpre y hy e he hbd)
    · have : (i == k) = false := by simpa using hik
      rw [this, Bool.or_false] at hi
      exact hup _ (I.clo i y hi hy e he hbd)
  · intro e h1 h2
    have hold := I.above e h1 h2
    cases hs : S' e with
    | false => rfl
    | true =>
      have hin := hS'n e hs
      rw [hS' e hin, hold, Bool.false_or] at hs
      have : e = k := by simpa using hs
      subst this
      rw [h2] at hne; cases hne
  · have F := I.frm
    refine ⟨Inj.le_trans F.le hle, F.next, F.base, by rw [hsz]; exact Nat.le_succ_of_le F.size, F.keep, ?_, ?_, ?_⟩
    · intro b i h1 h2
      by_cases e : b = (T.Hs k).next
      · subst e; exact ⟨hmono k (Nat.le_of_lt hk) 0 (Nat.zero_le _), hkn⟩
      · rw [hother b e] at h2; exact F.newd b i h1 h2
    · intro b i h1 h2
      by_cases e : b = (T.Hs k).next
      · subst e; rw [hself] at h2; cases h2; left; rw [hq]; exact F.size
      · rw [hother b e] at h2; exact F.newr b i h1 h2
    · intro r hr hn
      have := F.size
      rw [wpush_get, if_neg (by omega)]
      exact F.real r hr hn
  · intro i y hi hy
    by_cases hik : i = k
    · subst hik; exact ⟨fun _ => ⟨q, hself⟩, fun _ => hSk⟩
    · have : S' i = S i := by
        rw [hS' i hi]
        have : (i == k) = false := by simpa using hik
        rw [this, Bool.or_false]
      rw [this, hother _ (hdist i y hi hy hik)]
      exact I.al1 i y hi hy
  · intro b l hb
    by_cases e : b = (T.Hs k).next
    · subst e
      by_cases hkp : k < p
      · exact .inl (made_next hcf hk I.pn hkp hmk)
      · exact .inr (.inr ⟨k, x, hk, hmk, hSk, by omega, rfl⟩)
    · rw [hother b e] at hb
      rcases I.dom b l hb with h | h | ⟨i, y, g1, g2, g3, g4, g5⟩
      · exact .inl h
      · exact .inr (.inl h)
      · exact .inr (.inr ⟨i, y, g1, g2, hup i g3, g4, g5⟩)
  · intro i y l hi hpi hy hl
    by_cases hik : i = k
    · subst hik
      rw [hmk] at hy; cases hy
      rw [hself] at hl; cases hl
      refine ⟨hB _ hle _ hwget, fun c l2 hc2 hne2 => ?_⟩
      rw [hother c hne2] at hc2
      have := (I.rel.rng c l2 hc2).1
      omega
    · rw [hother _ (hdist i y hi hy hik)] at hl
      obtain ⟨hB2, hd⟩ := I.early i y l hi hpi hy hl
      have hrng := (I.rel.rng _ _ hl).1
      refine ⟨hB2.frame hle (fun _ => by rw [wpush_get, if_neg (by omega)]), fun c l2 hc2 hne2 => ?_⟩
      by_cases e : c = (T.Hs k).next
      · subst e; rw [hself] at hc2; cases hc2; omega
      · rw [hother c e] at hc2; exact hd c l2 hc2 hne2
  · intro i y h1 h2 h3 h4
    have hSi : S i = false := by
      cases hs : S i with
      | false => rfl
      | true => have := hup i hs; rw [h4] at this; cases this
    exact I.late i y h1 h2 h3 hSi

end
end Go.Proofs.YtdpbbppjjjhnoaaGreatDoor.D
