/- The abstract machine "D": a region whose operations the model carries out in any order comes to what the machine reckons in the text's order. No statement of the seat is proved in this text. -/
import Derived.Test.YtdpbbppjjjhnoaaGreatDoorDp
set_option linter.unusedSimpArgs false
set_option linter.unusedVariables false
namespace Go.Proofs.YtdpbbppjjjhnoaaGreatDoor.D
open Go

def isEff : Ins → Bool
  | .eff _ | .call _ | .callv => true
  | _ => false

def isAl : Ins → Bool
  | .alloc _ => true
  | _ => false

theorem readSem_ext {r : RI} {vs : List Value} {H H' : Heap} {v : Value} (hb : H'.base = H.base) (hg : ∀ b x, H.get b = some x → H'.get b = some x) (h : readSem r vs H = some v) : readSem r vs H' = some v := by
  have hcells : ∀ a n cs, H.cells a n = some cs → H'.cells a n = some cs := by
    intro a n cs hc
    unfold Heap.cells at hc ⊢
    split at hc
    · rename_i hsp
      cases hx : H.get a.block with
      | none => rw [hx] at hc; simp at hc
      | some x => rw [hx] at hc; rw [hg _ _ hx]; exact hc
    · rw [hb]; exact hc
    · cases hc
  unfold readSem at h ⊢
  split at h
  · split at h
    · rename_i cs hcs
      simp only [hcells _ _ _ hcs]
      exact h
    · cases h
  · exact h
  · split at h
    · rename_i hok
      simp only [hok, if_true]
      split at h
      · rename_i es ck hx
        simp only [hg _ _ hx]
        exact h
      · cases h
    · cases h
  · exact h
  · split at h
    · rename_i es ck hx
      simp only [hg _ _ hx]
      exact h
    · cases h
  · exact h
  · split at h
    · rename_i cs hcs
      simp only [hcells _ _ _ hcs]
      exact h
    · cases h
  · cases h

section
variable {P : Program} {w0 : World} {ng top : Nat} {j : Inj} {H : Heap} {w : World}

theorem Rel.retop (R : Rel w0 ng top j H w) (top' : Nat) (h : ∀ b i, j b = some i → b < H.next ∨ top' ≤ b) : Rel w0 ng top' j H w :=
  ⟨R.base, R.old, R.size, h, R.rng, R.inj, R.blk, R.fresh, R.os, R.tape, R.output⟩

theorem Frm.retop {top' : Nat} {j' : Inj} {H' : Heap} {w' : World} (F : Frm top j j' H H' w w') (h : top ≤ top') : Frm top' j j' H H' w w' :=
  ⟨F.le, F.next, F.base, F.size, F.keep, fun b i h1 h2 => let ⟨a, b⟩ := F.newd b i h1 h2; ⟨a, Nat.lt_of_lt_of_le b h⟩,
    fun b i h1 h2 => (F.newr b i h1 h2).imp id fun ⟨c, k, a, b, d⟩ => ⟨c, k, a, Nat.lt_of_lt_of_le b h, d⟩,
    fun r hr hn => F.real r hr fun b i hb hbt => hn b i hb (Nat.lt_of_lt_of_le hbt h)⟩

/-- A real block is made for an abstract one that is known already, or will be known. -/
theorem add_sound (R : Rel w0 ng top j H w) {b : Nat} (hn : j b = none) {x : Blk} (hb : (b < H.next ∧ H.get b = some x) ∨ (H.next ≤ b ∧ top ≤ b)) {ob : Obj} {k : Info} (hk : k.rb = w.heap.size)
    (hB : BRel w0.heap.size (j.upd b k) (some x) k (wpush w ob)) : Rel w0 ng top (j.upd b k) H (wpush w ob) ∧ Inj.le j (j.upd b k) := by
  have hle : Inj.le j (j.upd b k) := by
    intro c q hc
    simp only [Inj.upd]
    rw [if_neg (fun e => by subst e; rw [hn] at hc; cases hc)]
    exact hc
  have hz : (wpush w ob).heap.size = w.heap.size + 1 := by simp [wpush]
  have hcase : ∀ c q, (j.upd b k) c = some q → (c = b ∧ q = k) ∨ (c ≠ b ∧ j c = some q) := by
    intro c q hc
    simp only [Inj.upd] at hc
    by_cases e : c = b
    · rw [if_pos e] at hc; cases hc; exact .inl ⟨e, rfl⟩
    · rw [if_neg e] at hc; exact .inr ⟨e, hc⟩
  refine ⟨⟨R.base, ?_, by rw [hz]; have := R.size; omega, ?_, ?_, ?_, ?_, R.fresh, R.os, R.tape, R.output⟩, hle⟩
  · intro c h1 h2
    rw [wpush_get, if_neg (by have := R.size; omega)]
    exact R.old c h1 h2
  · intro c q hc
    rcases hcase c q hc with ⟨e, _⟩ | ⟨_, hc⟩
    · subst e; rcases hb with h | h
      · exact .inl h.1
      · exact .inr h.2
    · exact R.dom c q hc
  · intro c q hc
    rw [hz]
    rcases hcase c q hc with ⟨_, e⟩ | ⟨_, hc⟩
    · subst e; rw [hk]; exact ⟨Nat.lt_succ_self _, .inr R.size⟩
    · have := R.rng c q hc; exact ⟨by omega, this.2⟩
  · intro c d q l hc hd ac ad e
    rcases hcase c q hc with ⟨e1, e2⟩ | ⟨n1, hc2⟩ <;> rcases hcase d l hd with ⟨e3, e4⟩ | ⟨n3, hd2⟩
    · rw [e1, e3]
    · have h1 := (R.rng d l hd2).1
      rw [e2, hk] at e; omega
    · have h1 := (R.rng c q hc2).1
      rw [e4, hk] at e; omega
    · exact R.inj c d q l hc2 hd2 ac ad e
  · intro c q hc
    rcases hcase c q hc with ⟨e1, e2⟩ | ⟨n1, hc2⟩
    · subst e1; subst e2
      rcases hb with h | h
      · rw [h.2]; exact hB
      · rw [R.fresh c h.1]; trivial
    · refine (R.blk c q hc2).frame hle (fun _ => ?_)
      rw [wpush_get, if_neg (by have := (R.rng c q hc2).1; omega)]

/-- The machine comes to the place at which a block is made: the real one may be there already, or not yet. -/
theorem absorb_sound (R : Rel w0 ng top j H w) {x : Blk} (hx : ∀ k, j H.next = some k → BRel w0.heap.size j (some x) k w ∧ ∀ c q, j c = some q → c ≠ H.next → q.rb ≠ k.rb) : Rel w0 ng top j (H.push x) w := by
  refine ⟨R.base, R.old, R.size, fun b i hb => (R.dom b i hb).imp Nat.lt_succ_of_lt id, R.rng, ?_, ?_, ?_, R.os, R.tape, R.output⟩
  · intro c d q l hc hd ac ad e
    rw [Heap.get_push] at ac ad
    by_cases e1 : c = H.next
    · by_cases e2 : d = H.next
      · rw [e1, e2]
      · subst e1
        exact absurd e.symm ((hx q hc).2 d l hd e2)
    · by_cases e2 : d = H.next
      · subst e2
        exact absurd e ((hx l hd).2 c q hc e1)
      · rw [if_neg e1] at ac; rw [if_neg e2] at ad
        exact R.inj c d q l hc hd ac ad e
  · intro c q hc
    rw [Heap.get_push]
    by_cases e1 : c = H.next
    · rw [if_pos e1]; subst e1; exact (hx q hc).1
    · rw [if_neg e1]; exact R.blk c q hc
  · intro b hb
    have hb' : H.next + 1 ≤ b := hb
    rw [Heap.get_push, if_neg (by omega)]
    exact R.fresh b (by omega)

end

/-! ### The order of the text, and any other -/

/-- What the machine has reckoned: operation i at the slots 'g i' and the heap 'Hs i' came to 'val i'. -/
structure Trace (cf : CallF) (n : Nat) (ds : Nat → DOper) where
  g : Nat → Nat → Option Value
  Hs : Nat → Heap
  val : Nat → Value
  step : ∀ i, i < n → stepD cf (ds i) (g i) (Hs i) = some (val i, Hs (i + 1))
  put : ∀ i, i < n → ∀ t, g (i + 1) t = if (ds i).dst = some t then some (val i) else g i t

/-- What is made by the operation i, if it makes a block. -/
def Trace.made {cf : CallF} {n : Nat} {ds : Nat → DOper} (T : Trace cf n ds) (i : Nat) : Option Blk :=
  match wantD (ds i).guard (T.g i), (ds i).ins with
  | some true, .alloc a => (allocSem a ((ds i).xs.map (ev (T.g i)))).map (·.1)
  | _, _ => none

/-- The slots of which an operation hangs. -/
def readsOf (d : DOper) : List Nat := (d.xs.filterMap fun | .t n => some n | .c _ => none) ++ (match d.guard with | some (t, _) => [t] | none => [])

/-- What has been checked of a region: 'bef i k': i comes before k in every order. -/
structure RegOk (P : Program) (ngl N : Nat) (ops : Array Oper) (cf : CallF) (n : Nat) (ds : Nat → DOper) (T : Trace cf n ds) (bef : Nat → Nat → Prop) : Prop where
  size : ops.size = n
  comp : ∀ i, i < n → ∃ o, ops[i]? = some o ∧ CompOk P ngl N ops o (ds i)
  closed : ∀ (S : Nat → Prop), (∀ i o, S i → ops[i]? = some o → ∀ e ∈ o.after, Region.binds .any e = true → S e.on) → ∀ i k, k < n → S k → bef i k → S i
  back : ∀ i o, ops[i]? = some o → ∀ e ∈ o.after, Region.binds .any e = true → e.on < i
  lt : ∀ i k, bef i k → i < k
  slots : ∀ i k, i < k → k < n → (∃ t, (ds i).dst = some t ∧ (t ∈ readsOf (ds k) ∨ (ds k).dst = some t)) ∨ (∃ t, (ds k).dst = some t ∧ t ∈ readsOf (ds i)) → bef i k
  effs : ∀ i k, i < k → k < n → isEff (ds i).ins = true → isEff (ds k).ins = true → bef i k
  chkB : ∀ r c k e, k < n → (ds k).ins = .read r c → wantD (ds k).guard (T.g k) = some true → e < k → isEff (ds e).ins = true → ¬ bef e k → readSem r ((ds k).xs.map (ev (T.g k))) (T.Hs e) = some (T.val k)
  chkF : ∀ r c k e, e < n → (ds k).ins = .read r c → wantD (ds k).guard (T.g k) = some true → k < e → isEff (ds e).ins = true → ¬ bef k e → readSem r ((ds k).xs.map (ev (T.g k))) (T.Hs (e + 1)) = some (T.val k)

section
variable {P : Program} {w0 : World} {ng ngl N : Nat} {cf : CallF} {n : Nat} {ds : Nat → DOper} {ops : Array Oper} {bef : Nat → Nat → Prop}

/-- The last value that the operations of S, of those ahead of i, have put into a slot. -/
def lastV (T : Trace cf n ds) (S : Nat → Bool) : Nat → Nat → Option Value
  | 0, t => T.g 0 t
  | i + 1, t => if S i = true ∧ (ds i).dst = some t then some (T.val i) else lastV T S i t

theorem lastV_all (T : Trace cf n ds) : ∀ k, k ≤ n → ∀ t, T.g k t = lastV T (fun i => decide (i < k)) k t := by
  have aux : ∀ k m, k ≤ m → m ≤ n → ∀ t, T.g k t = lastV T (fun i => decide (i < m)) k t := by
    intro k
    induction k with
    | zero => intro m _ _ t; rfl
    | succ k ih =>
      intro m hk hm t
      rw [T.put k (by omega) t, lastV]
      by_cases hd : (ds k).dst = some t
      · rw [if_pos hd, if_pos ⟨by simp; omega, hd⟩]
      · rw [if_neg hd, if_neg (fun h => hd h.2)]
        exact ih m (by omega) hm t
  exact fun k hk t => aux k k (Nat.le_refl _) hk t

/-- Where S holds all that writes the slot ahead of k, and nothing that writes it from k on, its value is the text's. -/
theorem lastV_eq (T : Trace cf n ds) (S : Nat → Bool) (k : Nat) (hk : k ≤ n) (t : Nat) (h1 : ∀ i, i < k → (ds i).dst = some t → S i = true) (h2 : ∀ i, k ≤ i → i < n → (ds i).dst = some t → S i = false) : lastV T S n t = T.g k t := by
  have low : ∀ m, m ≤ k → lastV T S m t = T.g m t := by
    intro m
    induction m with
    | zero => intro _; rfl
    | succ m ih =>
      intro hm
      rw [lastV, T.put m (by omega) t]
      by_cases hd : (ds m).dst = some t
      · rw [if_pos ⟨h1 m (by omega) hd, hd⟩, if_pos hd]
      · rw [if_neg (fun h => hd h.2), if_neg hd]; exact ih (by omega)
  have high : ∀ m, k ≤ m → m ≤ n → lastV T S m t = T.g k t := by
    intro m
    induction m with
    | zero => intro hkm _; have : k = 0 := by omega
              subst this; rfl
    | succ m ih =>
      intro hkm hm
      by_cases he : k = m + 1
      · subst he; exact low _ (Nat.le_refl _)
      · rw [lastV, if_neg (fun h => by have := h2 m (by omega) (by omega) h.2; rw [this] at h; exact absurd h.1 (by simp))]
        exact ih (by omega) (by omega)
  exact high n hk (Nat.le_refl _)

/-- S with k. -/
theorem lastV_add (T : Trace cf n ds) (S S' : Nat → Bool) (k : Nat) (hk : k < n) (hS : ∀ i, i < n → S' i = (S i || i == k)) (hnk : S k = false) (t : Nat) (h2 : (ds k).dst = some t → ∀ i, k < i → i < n → (ds i).dst = some t → S i = false) :
    lastV T S' n t = if (ds k).dst = some t then some (T.val k) else lastV T S n t := by
  by_cases hd : (ds k).dst = some t
  · rw [if_pos hd]
    have high : ∀ m, k < m → m ≤ n → lastV T S' m t = some (T.val k) := by
      intro m
      induction m with
      | zero => intro h; omega
      | succ m ih =>
        intro hkm hm
        rw [lastV]
        by_cases he : m = k
        · subst he; rw [if_pos ⟨by rw [hS m (by omega)]; simp, hd⟩]
        · rw [if_neg]
          · exact ih (by omega) (by omega)
          · rintro ⟨hs, hd2⟩
            rw [hS m (by omega), h2 hd m (by omega) (by omega) hd2] at hs
            simp at hs; exact he hs
    exact high n hk (Nat.le_refl _)
  · rw [if_neg hd]
    have same : ∀ m, m ≤ n → lastV T S' m t = lastV T S m t := by
      intro m
      induction m with
      | zero => intro _; rfl
      | succ m ih =>
        intro hm
        rw [lastV, lastV]
        by_cases he : m = k
        · subst he; rw [if_neg (fun h => hd h.2), if_neg (fun h => hd h.2)]; exact ih (by omega)
        · rw [hS m (by omega)]
          have : (m == k) = false := by simpa using he
          rw [this, Bool.or_false, ih (by omega)]
    exact same n (Nat.le_refl _)

theorem mk_step {T : Trace cf n ds} {i : Nat} (hi : i < n) {x : Blk} (hx : T.made i = some x) : ∃ a f, (ds i).ins = .alloc a ∧ wantD (ds i).guard (T.g i) = some true ∧ allocSem a ((ds i).xs.map (ev (T.g i))) = some (x, f) ∧ T.val i = f (T.Hs i).next ∧ T.Hs (i + 1) = (T.Hs i).push x := by
  unfold Trace.made at hx
  split at hx
  · rename_i a hw ha
    cases hs : allocSem a ((ds i).xs.map (ev (T.g i))) with
    | none => rw [hs] at hx; simp at hx
    | some q =>
      obtain ⟨y, f⟩ := q
      rw [hs] at hx
      simp at hx
      subst hx
      have := T.step i hi
      simp only [stepD, hw, insD, ha, hs, Option.some.injEq, Prod.mk.injEq] at this
      exact ⟨a, f, ha, hw, hs, this.1.symm, this.2.symm⟩
  · cases hx

theorem quiet_step {T : Trace cf n ds} {i : Nat} (hi : i < n) (he : isEff (ds i).ins = false) (hx : T.made i = none) : T.Hs (i + 1) = T.Hs i := by
  have := T.step i hi
  unfold stepD at this
  unfold Trace.made at hx
  split at this
  · rename_i hw
    unfold insD at this
    split at this
    · split at this
      · simp only [Option.some.injEq, Prod.mk.injEq] at this; exact this.2.symm
      · cases this
    · split at this
      · simp only [Option.some.injEq, Prod.mk.injEq] at this; exact this.2.symm
      · cases this
    · rename_i a ha
      split at this
      · rename_i x f hs
        rw [hw, ha] at hx
        simp [hs] at hx
      · cases this
    · rename_i e hin; rw [hin] at he; simp [isEff] at he
    · rename_i f hin; rw [hin] at he; simp [isEff] at he
    · rename_i hin; rw [hin] at he; simp [isEff] at he
  · simp only [Option.some.injEq, Prod.mk.injEq] at this; exact this.2.symm
  · cases this

end
end Go.Proofs.YtdpbbppjjjhnoaaGreatDoor.D
