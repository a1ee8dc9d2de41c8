/- The abstract machine "D": how an abstract heap stands to the model's world; reading, writing and making memory on both sides. No statement of the seat is proved in this text. -/
import Derived.Test.YtdpbbppjjjhnoaaGreatDoorDa
namespace Go.Proofs.YtdpbbppjjjhnoaaGreatDoor.D
open Go

/-! ### The relation of a heap to a world -/

def ERel (n0 : Nat) (j : Inj) (l l' : List MapEntry) : Prop :=
  l.length = l'.length ∧ ∀ (k : Nat) e e', l[k]? = some e → l'[k]? = some e' → VRel n0 j e.key e'.key ∧ VRel n0 j e.val e'.val ∧ e.born = e'.born

theorem ERel.mono {n0 : Nat} {j j' : Inj} (h : Inj.le j j') {l l' : List MapEntry} (r : ERel n0 j l l') : ERel n0 j' l l' :=
  ⟨r.1, fun k e e' a b => let ⟨x, y, z⟩ := r.2 k e e' a b; ⟨x.mono h, y.mono h, z⟩⟩

def BRel (n0 : Nat) (j : Inj) (x : Option Blk) (i : Info) (w : World) : Prop :=
  match x with
  | some (.row cs e) => e = i.esz ∧ ∃ c t fr, w.heap[i.rb]? = some (.cells c t fr) ∧ c.size = i.size ∧ i.dl + cs.length ≤ c.size ∧
      (∀ (k : Nat) v, cs[k]? = some v → ∃ v', c[i.dl + k]? = some v' ∧ VRel n0 j v v') ∧ (∀ o, o < c.size → ¬ (fr.1 ≤ o ∧ o < fr.2))
  | some (.map es ck) => i.dl = 0 ∧ ∃ es', w.heap[i.rb]? = some (.map es' ck) ∧ ERel n0 j es es'.toList
  | some (.iter s p) => i.dl = 0 ∧ w.heap[i.rb]? = some (.stringIter s p)
  | _ => True

def alive : Option Blk → Prop
  | some .dead | none => False
  | _ => True

/-- 'top': the numbers from there on are not given in the run that is looked at. -/
structure Rel (w0 : World) (ng top : Nat) (j : Inj) (H : Heap) (w : World) : Prop where
  base : ∀ b o v, H.base b o = some v → ng ≤ b ∧ b < w0.heap.size ∧ ∃ v', w0.cell? ⟨b, o, none⟩ = some v' ∧ VRel w0.heap.size (fun _ => none) v v'
  old : ∀ b, ng ≤ b → b < w0.heap.size → w.heap[b]? = w0.heap[b]?
  size : w0.heap.size ≤ w.heap.size
  dom : ∀ b i, j b = some i → b < H.next ∨ top ≤ b
  rng : ∀ b i, j b = some i → i.rb < w.heap.size ∧ (i.rb < ng ∨ w0.heap.size ≤ i.rb)
  inj : ∀ b c i k, j b = some i → j c = some k → alive (H.get b) → alive (H.get c) → i.rb = k.rb → b = c
  blk : ∀ b i, j b = some i → BRel w0.heap.size j (H.get b) i w
  fresh : ∀ b, H.next ≤ b → H.get b = none
  os : w.os = w0.os
  tape : w.tape = w0.tape
  output : w.output = w0.output

/-- What a step leaves alone. -/
structure Frm (top : Nat) (j j' : Inj) (H H' : Heap) (w w' : World) : Prop where
  le : Inj.le j j'
  next : H.next ≤ H'.next
  base : H'.base = H.base
  size : w.heap.size ≤ w'.heap.size
  keep : ∀ b, b < H.next → j b = none → H'.get b = H.get b
  newd : ∀ b i, j b = none → j' b = some i → H.next ≤ b ∧ b < top
  newr : ∀ b i, j b = none → j' b = some i → w.heap.size ≤ i.rb ∨ ∃ c k, j c = some k ∧ c < top ∧ k.rb = i.rb
  real : ∀ r, r < w.heap.size → (∀ b i, j b = some i → b < top → i.rb ≠ r) → w'.heap[r]? = w.heap[r]?

theorem Frm.refl (top : Nat) (j : Inj) (H : Heap) (w : World) : Frm top j j H H w w :=
  ⟨Inj.le_refl j, Nat.le_refl _, rfl, Nat.le_refl _, fun _ _ _ => rfl, fun b i h h' => by (rw [h] at h'; cases h'), fun b i h h' => by (rw [h] at h'; cases h'), fun _ _ _ => rfl⟩

theorem Frm.trans {top : Nat} {j j1 j2 : Inj} {H H1 H2 : Heap} {w w1 w2 : World} (a : Frm top j j1 H H1 w w1) (b : Frm top j1 j2 H1 H2 w1 w2) : Frm top j j2 H H2 w w2 := by
  have hnone : ∀ x, x < H.next → j x = none → j1 x = none := fun x hx h => by
    cases h1 : j1 x with
    | none => rfl
    | some i => have := (a.newd x i h h1).1; omega
  refine ⟨Inj.le_trans a.le b.le, Nat.le_trans a.next b.next, b.base.trans a.base, Nat.le_trans a.size b.size, ?_, ?_, ?_, ?_⟩
  · intro x hx h
    rw [b.keep x (Nat.lt_of_lt_of_le hx a.next) (hnone x hx h), a.keep x hx h]
  · intro x i h h2
    cases h1 : j1 x with
    | none => have := b.newd x i h1 h2; exact ⟨Nat.le_trans a.next this.1, this.2⟩
    | some k => exact a.newd x k h h1
  · intro x i h h2
    cases h1 : j1 x with
    | none =>
      rcases b.newr x i h1 h2 with h3 | ⟨c, k, hc, hct, hk⟩
      · exact .inl (Nat.le_trans a.size h3)
      · cases h0 : j c with
        | none =>
          rcases a.newr c k h0 hc with h3 | ⟨c', k', hc', hct', hk'⟩
          · exact .inl (hk ▸ h3)
          · exact .inr ⟨c', k', hc', hct', hk'.trans hk⟩
        | some k0 =>
          have := a.le c k0 h0
          rw [hc] at this; cases this
          exact .inr ⟨c, k, h0, hct, hk⟩
    | some k =>
      have := b.le x k h1
      rw [h2] at this; cases this
      exact a.newr x i h h1
  · intro r hr hn
    rw [b.real r (Nat.lt_of_lt_of_le hr a.size) ?_, a.real r hr hn]
    intro x i h1 hxt e
    cases h : j x with
    | none =>
      rcases a.newr x i h h1 with h3 | ⟨c, k, hc, hct, hk⟩
      · omega
      · exact hn c k hc hct (hk.trans e)
    | some k =>
      have := a.le x k h
      rw [h1] at this; cases this
      exact hn x i h hxt e

theorem Rel.lt {w0 : World} {ng top : Nat} {j : Inj} {H : Heap} {w : World} (R : Rel w0 ng top j H w) {b : Nat} {x : Blk} (h : H.get b = some x) : b < H.next := by
  rcases Nat.lt_or_ge b H.next with h1 | h1
  · exact h1
  · rw [R.fresh b h1] at h; cases h

/-! ### Writing into a block -/

def aput : Array Value → Nat → List Value → Array Value
  | c, _, [] => c
  | c, o, v :: vs => aput (c.setIfInBounds o v) (o + 1) vs

theorem aput_size : ∀ (vs : List Value) (c : Array Value) (o : Nat), (aput c o vs).size = c.size
  | [], _, _ => rfl
  | v :: vs, c, o => by rw [aput, aput_size vs]; simp

theorem aput_get : ∀ (vs : List Value) (c : Array Value) (o : Nat) (k : Nat), o + vs.length ≤ c.size →
    (aput c o vs)[k]? = if o ≤ k ∧ k < o + vs.length then vs[k - o]? else c[k]?
  | [], c, o, k, _ => by
    simp only [aput, List.length_nil, Nat.add_zero]
    rw [if_neg (by omega)]
  | v :: vs, c, o, k, h => by
    simp only [List.length_cons] at h ⊢
    rw [aput, aput_get vs _ _ _ (by simp; omega)]
    by_cases h1 : o + 1 ≤ k ∧ k < o + 1 + vs.length
    · rw [if_pos h1, if_pos (by omega), show k - o = (k - (o + 1)) + 1 by omega, List.getElem?_cons_succ]
    · rw [if_neg h1]
      by_cases h2 : k = o
      · have hk : k < c.size := by omega
        rw [if_pos (by omega), h2, Nat.sub_self, Array.getElem?_setIfInBounds_self_of_lt (by omega)]
        rfl
      · rw [if_neg (by omega)]
        rw [Array.getElem?_setIfInBounds_ne (by omega)]

def wset (w : World) (b : Nat) (o : Obj) : World := { w with heap := w.heap.setIfInBounds b o }

theorem wset_get (w : World) (b : Nat) (o : Obj) (r : Nat) (hb : b < w.heap.size) : (wset w b o).heap[r]? = if r = b then some o else w.heap[r]? := by
  unfold wset
  simp only
  by_cases h : r = b
  · subst h; simp [hb]
  · rw [if_neg h, Array.getElem?_setIfInBounds_ne (by omega)]

theorem wset_size (w : World) (b : Nat) (o : Obj) : (wset w b o).heap.size = w.heap.size := by simp [wset]

theorem lt_of_some {α : Type} {a : Array α} {i : Nat} {x : α} (h : a[i]? = some x) : i < a.size := by
  obtain ⟨h, _⟩ := Array.getElem?_eq_some_iff.1 h; exact h

theorem setCell_wset (w : World) (b o : Nat) (c : Array Value) (t : TypeId) (fr : Nat × Nat) (v : Value) (hb : w.heap[b]? = some (.cells c t fr)) :
    w.setCell ⟨b, o, none⟩ v = wset w b (.cells (c.setIfInBounds o v) t fr) := by
  have hlt := lt_of_some hb
  unfold World.setCell wset
  congr 1
  apply Array.ext_getElem?
  intro k
  rw [Array.getElem?_modify]
  by_cases hk : b = k
  · subst hk
    have e : w.heap[b] = .cells c t fr := by simpa [hlt] using hb
    simp [hlt, e]
  · rw [if_neg hk, Array.getElem?_setIfInBounds_ne hk]

theorem wset_wset (w : World) (b : Nat) (x y : Obj) : wset (wset w b x) b y = wset w b y := by
  unfold wset
  simp

section run
variable {P : Program}

theorem run_store_one (w : World) (b o : Nat) (c : Array Value) (t : TypeId) (fr : Nat × Nat) (v : Value) (hb : w.heap[b]? = some (.cells c t fr)) (ho : o < c.size)
    (hf : ¬ (fr.1 ≤ o ∧ o < fr.2)) (h1 : oneC v = true) : (store ⟨b, o, none⟩ v).run P w = .ok () (wset w b (.cells (c.setIfInBounds o v) t fr)) := by
  have hc : w.cell? ⟨b, o, none⟩ = some c[o] := by simp [World.cell?, hb, ho]
  have hz : w.frozen? ⟨b, o, none⟩ = false := by
    simp only [World.frozen?, hb, Bool.and_eq_false_iff, decide_eq_false_iff_not]
    by_cases h : fr.1 ≤ o
    · right; intro h2; exact hf ⟨h, h2⟩
    · left; exact h
  rw [← setCell_wset w b o c t fr v hb]
  unfold store
  cases v <;> first
    | (simp [oneC] at h1; done)
    | simp only [Sem.run, hc, hz, if_false, Bool.false_eq_true]

theorem run_storeCells (b o : Nat) (t : TypeId) (fr : Nat × Nat) : ∀ (vs : List Value) (i : Nat) (w : World) (c : Array Value), w.heap[b]? = some (.cells c t fr) → o + i + vs.length ≤ c.size →
    (∀ x, x < c.size → ¬ (fr.1 ≤ x ∧ x < fr.2)) → (∀ v ∈ vs, oneC v = true) →
    ∃ w', (storeCells ⟨b, o, none⟩ vs i).run P w = .ok () w' ∧ w' = wset w b (.cells (aput c (o + i) vs) t fr)
  | [], i, w, c, hb, _, _, _ => by
    refine ⟨w, rfl, ?_⟩
    have hlt := lt_of_some hb
    unfold wset aput
    have : w.heap.setIfInBounds b (.cells c t fr) = w.heap := by
      apply Array.ext_getElem?
      intro k
      by_cases hk : b = k
      · subst hk
        have e : w.heap[b] = .cells c t fr := by simpa [hlt] using hb
        simp [hlt, e]
      · rw [Array.getElem?_setIfInBounds_ne hk]
    rw [this]
  | v :: r, i, w, c, hb, hl, hf, h1 => by
    simp only [List.length_cons] at hl
    have hadd : (⟨b, o, none⟩ : Addr).add i = ⟨b, o + i, none⟩ := by unfold Addr.add; split <;> simp_all
    have hst := run_store_one (P := P) w b (o + i) c t fr v hb (by omega) (hf _ (by omega)) (h1 v (by simp))
    obtain ⟨w', hr, he⟩ := run_storeCells b o t fr r (i + 1) (wset w b (.cells (c.setIfInBounds (o + i) v) t fr)) (c.setIfInBounds (o + i) v)
      (by rw [wset_get _ _ _ _ (lt_of_some hb), if_pos rfl]) (by simp; omega) (by simpa using hf) (fun x hx => h1 x (by simp [hx]))
    refine ⟨w', ?_, ?_⟩
    · simp only [storeCells, hadd, Sem.run_bind, hst, Result.andThen_ok, hr]
    · rw [he, wset_wset, aput]; rfl

end run

/-! ### splice, takeN -/

theorem takeN_spec : ∀ (n : Nat) (l r : List Value), takeN l n = some r → r.length = n ∧ ∀ k, k < n → r[k]? = l[k]?
  | 0, l, r, h => by
    have : r = [] := by cases l <;> simpa [takeN] using h.symm
    subst this; exact ⟨rfl, fun k hk => by omega⟩
  | n + 1, [], r, h => by simp [takeN] at h
  | n + 1, v :: l, r, h => by
    simp only [takeN] at h
    cases ht : takeN l n with
    | none => rw [ht] at h; simp at h
    | some q =>
      rw [ht] at h
      obtain rfl : v :: q = r := by simpa using h
      obtain ⟨h1, h2⟩ := takeN_spec n l q ht
      refine ⟨by simp [h1], fun k hk => ?_⟩
      cases k with
      | zero => simp
      | succ k => simpa using h2 k (by omega)

theorem splice_length : ∀ (o : Nat) (cs vs : List Value), o + vs.length ≤ cs.length → (splice cs o vs).length = cs.length
  | 0, cs, vs, h => by simp [splice]; omega
  | o + 1, [], vs, h => by simp at h
  | o + 1, c :: cs, vs, h => by simp only [splice, List.length_cons] at *; rw [splice_length o cs vs (by omega)]

theorem splice_get : ∀ (o : Nat) (cs vs : List Value) (k : Nat), o + vs.length ≤ cs.length → (splice cs o vs)[k]? = if o ≤ k ∧ k < o + vs.length then vs[k - o]? else cs[k]?
  | 0, cs, vs, k, h => by
    simp only [splice]
    by_cases hk : k < vs.length
    · rw [List.getElem?_append_left hk, if_pos (by omega)]; rfl
    · rw [List.getElem?_append_right (by omega), if_neg (by omega), List.getElem?_drop]; congr 1; omega
  | o + 1, [], vs, k, h => by simp at h
  | o + 1, c :: cs, vs, 0, h => by simp [splice]
  | o + 1, c :: cs, vs, k + 1, h => by
    simp only [splice, List.length_cons, List.getElem?_cons_succ] at *
    rw [splice_get o cs vs k (by omega)]
    by_cases hk : o ≤ k ∧ k < o + vs.length
    · rw [if_pos hk, if_pos (by omega)]; congr 1; omega
    · rw [if_neg hk, if_neg (by omega)]

theorem rdBase_spec (base : Nat → Nat → Option Value) (b : Nat) : ∀ (n o : Nat) (r : List Value), rdBase base b o n = some r → r.length = n ∧ ∀ k v, r[k]? = some v → base b (o + k) = some v
  | 0, o, r, h => by
    have : r = [] := by simpa [rdBase] using h.symm
    subst this; simp
  | n + 1, o, r, h => by
    simp only [rdBase] at h
    cases hv : base b o with
    | none => rw [hv] at h; simp at h
    | some x =>
      rw [hv] at h
      cases ht : rdBase base b (o + 1) n with
      | none => rw [ht] at h; simp at h
      | some q =>
        rw [ht] at h
        obtain rfl : x :: q = r := by simpa using h
        obtain ⟨h1, h2⟩ := rdBase_spec base b n (o + 1) q ht
        refine ⟨by simp [h1], fun k v hk => ?_⟩
        cases k with
        | zero => simp at hk; subst hk; simpa using hv
        | succ k => have := h2 k v (by simpa using hk); rwa [show o + 1 + k = o + (k + 1) by omega] at this

/-! ### Reading -/

theorem ARel.spot {n0 : Nat} {j : Inj} {a a' : Addr} (h : ARel n0 j a a') : a'.spot = none := by cases h <;> rfl

theorem ARel.add {n0 : Nat} {j : Inj} {a a' : Addr} (h : ARel n0 j a a') (n : Nat) : ARel n0 j (aadd a n) (a'.add n) := by
  cases h with
  | new b o i hb =>
    have : (⟨i.rb, o + i.dl, none⟩ : Addr).add n = ⟨i.rb, (o + n) + i.dl, none⟩ := by
      unfold Addr.add; split
      · simp_all
      · simp; omega
    rw [this]; exact .new b (o + n) i hb
  | old b o hb =>
    have : (⟨b, o, none⟩ : Addr).add n = ⟨b, o + n, none⟩ := by
      unfold Addr.add; split
      · simp_all
      · simp
    rw [this]; exact .old b (o + n) hb

theorem ARel.add_eq {n0 : Nat} {j : Inj} {a a' : Addr} (h : ARel n0 j a a') (n : Nat) : a'.add n = ⟨a'.block, a'.off + n, none⟩ := by
  have := h.spot
  unfold Addr.add; split
  · subst_vars; cases a'; simp_all
  · rfl

section mem
variable {P : Program} {w0 : World} {ng top : Nat} {j : Inj} {H : Heap} {w : World}

/-- Reading n cells. -/
theorem cells_sound (R : Rel w0 ng top j H w) {a a' : Addr} (ha : ARel w0.heap.size j a a') {n : Nat} {cs : List Value} (h : H.cells a n = some cs) :
    cs.length = n ∧ ∃ cs', cs'.length = n ∧ LRel w0.heap.size j cs cs' ∧ ∀ k v, cs'[k]? = some v → w.cell? (a'.add k) = some v := by
  cases ha with
  | new b o i hb =>
    simp only [Heap.cells] at h
    have hB := R.blk b i hb
    cases hg : H.get b with
    | none => rw [hg] at h; simp at h
    | some x =>
      rw [hg] at h hB
      cases x with
      | row cells e =>
        obtain ⟨he, c, t, fr, hh, hs, hle, hv, hf⟩ := hB
        simp only at h
        obtain ⟨hl, hk⟩ := takeN_spec n _ _ h
        have hget : ∀ k, k < n → ∃ v, cs[k]? = some v ∧ cells[o + k]? = some v := by
          intro k hkn
          have hlt : k < cs.length := by omega
          refine ⟨cs[k], List.getElem?_eq_getElem hlt, ?_⟩
          have := hk k hkn
          rw [List.getElem?_eq_getElem hlt, List.getElem?_drop] at this
          exact this.symm
        have hlen : n = 0 ∨ o + n ≤ cells.length := by
          by_cases hn : n = 0
          · exact .inl hn
          · obtain ⟨v, _, h2⟩ := hget (n - 1) (by omega)
            obtain ⟨h3, _⟩ := List.getElem?_eq_some_iff.1 h2
            exact .inr (by omega)
        refine ⟨hl, (c.toList.drop (i.dl + o)).take n, ?_, ⟨?_, ?_⟩, ?_⟩
        · simp; rcases hlen with h0 | h0 <;> omega
        · simp [hl]; rcases hlen with h0 | h0 <;> omega
        · intro k v v' hkv hkv'
          rw [List.getElem?_take] at hkv'
          by_cases hkn : k < n
          · rw [if_pos hkn, List.getElem?_drop] at hkv'
            obtain ⟨u, hu1, hu2⟩ := hget k hkn
            rw [hu1] at hkv; cases hkv
            obtain ⟨u', hu', hr⟩ := hv (o + k) _ hu2
            have e : i.dl + (o + k) = i.dl + o + k := by omega
            rw [e] at hu'
            have : c.toList[i.dl + o + k]? = some u' := by simpa using hu'
            rw [this] at hkv'; cases hkv'
            exact hr
          · rw [if_neg hkn] at hkv'; cases hkv'
        · intro k v hkv
          rw [List.getElem?_take] at hkv
          by_cases hkn : k < n
          · rw [if_pos hkn, List.getElem?_drop] at hkv
            have hadd := (ARel.new (n0 := w0.heap.size) b o i hb).add_eq k
            rw [hadd]
            simp only [World.cell?, hh]
            have e : o + i.dl + k = i.dl + o + k := by omega
            rw [e]
            simpa using hkv
          · rw [if_neg hkn] at hkv; cases hkv
      | map es ck => simp at h
      | iter s p => simp at h
      | dead => simp at h
  | old b o hb =>
    simp only [Heap.cells] at h
    obtain ⟨hl, hk⟩ := rdBase_spec H.base b n o cs h
    have hget : ∀ k, k < n → ∃ v', w0.cell? ⟨b, o + k, none⟩ = some v' ∧ ∀ v, cs[k]? = some v → VRel w0.heap.size (fun _ => none) v v' := by
      intro k hkn
      have hlt : k < cs.length := by omega
      obtain ⟨_, _, v', hv', hr⟩ := R.base b (o + k) _ (hk k _ (List.getElem?_eq_getElem hlt))
      exact ⟨v', hv', fun v hv => by rw [List.getElem?_eq_getElem hlt] at hv; cases hv; exact hr⟩
    have hng : n = 0 ∨ ng ≤ b := by
      by_cases hn : n = 0
      · exact .inl hn
      · obtain ⟨h1, _⟩ := R.base b (o + 0) _ (hk 0 _ (List.getElem?_eq_getElem (by omega)))
        exact .inr h1
    refine ⟨hl, (List.range n).map fun k => (w0.cell? ⟨b, o + k, none⟩).getD undef, by simp, ⟨by simp [hl], ?_⟩, ?_⟩
    · intro k v v' hv hv'
      have hkn : k < n := by obtain ⟨h3, _⟩ := List.getElem?_eq_some_iff.1 hv; omega
      obtain ⟨u, hu, hr⟩ := hget k hkn
      simp [hkn, hu] at hv'
      subst hv'
      exact (hr v hv).mono (fun _ _ e => by cases e)
    · intro k v hv
      have hkn : k < n := by obtain ⟨h3, _⟩ := List.getElem?_eq_some_iff.1 hv; simpa using h3
      obtain ⟨u, hu, hr⟩ := hget k hkn
      simp [hkn, hu] at hv
      subst hv
      have hadd := (ARel.old (n0 := w0.heap.size) (j := j) b o hb).add_eq k
      rw [hadd]
      have hold := R.old b (by rcases hng with h0 | h0 <;> omega) hb
      have : w.cell? ⟨b, o + k, none⟩ = w0.cell? ⟨b, o + k, none⟩ := by simp only [World.cell?, hold]
      simp only
      rw [this, hu]

theorem run_cells (R : Rel w0 ng top j H w) {a a' : Addr} (ha : ARel w0.heap.size j a a') {n : Nat} {cs : List Value} (h : H.cells a n = some cs) :
    ∃ cs' : Array Value, (loadCells a' n).run P w = .ok cs' w ∧ LRel w0.heap.size j cs cs'.toList := by
  obtain ⟨hl, cs', hl', hr, hc⟩ := cells_sound R ha h
  refine ⟨cs'.toArray, ?_, by simpa using hr⟩
  have := run_loadCells_list (P := P) w a' cs' hc
  rwa [hl'] at this

/-- Writing cells. -/
theorem store_sound (R : Rel w0 ng top j H w) (hT : H.next ≤ top) {a a' : Addr} (ha : ARel w0.heap.size j a a') {vs vs' : List Value} {H' : Heap} (h : H.store a vs = some H') (hv : LRel w0.heap.size j vs vs') :
    ∃ w', (storeCells a' vs').run P w = .ok () w' ∧ Rel w0 ng top j H' w' ∧ Frm top j j H H' w w' := by
  cases ha with
  | old b o hb => simp [Heap.store] at h
  | new b o i hb =>
    simp only [Heap.store] at h
    have hB := R.blk b i hb
    cases hg : H.get b with
    | none => rw [hg] at h; simp at h
    | some x =>
      rw [hg] at h hB
      cases x with
      | row cells e =>
        obtain ⟨he, c, t, fr, hh, hs, hle, hcv, hf⟩ := hB
        have hbt : b < top := Nat.lt_of_lt_of_le (R.lt hg) hT
        simp only at h
        split at h
        · rename_i hlen
          split at h
          · rename_i hone
            cases h
            have hone' : ∀ v ∈ vs', oneC v = true := by
              intro v hvm
              obtain ⟨k, hk⟩ := List.mem_iff_getElem?.1 hvm
              obtain ⟨hkl, _⟩ := List.getElem?_eq_some_iff.1 hk
              have hkl' : k < vs.length := by have := hv.1; omega
              have hr := hv.2 k _ v (List.getElem?_eq_getElem hkl') hk
              exact hr.oneC (List.all_eq_true.1 hone _ (List.getElem_mem hkl'))
            obtain ⟨w', hrun, hw'⟩ := run_storeCells (P := P) i.rb (o + i.dl) t fr vs' 0 w c hh (by have := hv.1; omega) hf hone'
            refine ⟨w', hrun, ?_, ?_⟩
            · subst hw'
              have hrb := (R.rng b i hb)
              have hget : ∀ r, (wset w i.rb (.cells (aput c (o + i.dl + 0) vs') t fr)).heap[r]? = if r = i.rb then some (.cells (aput c (o + i.dl + 0) vs') t fr) else w.heap[r]? := fun r => wset_get _ _ _ _ hrb.1
              have hz : (wset w i.rb (.cells (aput c (o + i.dl + 0) vs') t fr)).heap.size = w.heap.size := wset_size _ _ _
              have hal : ∀ x, alive ((H.set b (.row (splice cells o vs) e)).get x) → alive (H.get x) := by
                intro x hx
                rw [Heap.get_set] at hx
                by_cases e' : x = b
                · subst e'; rw [hg]; trivial
                · rwa [if_neg e'] at hx
              refine ⟨R.base, ?_, by rw [hz]; exact R.size, R.dom, fun x k hx => by rw [hz]; exact R.rng x k hx, ?_, ?_, ?_, R.os, R.tape, R.output⟩
              · intro x hx1 hx2
                rw [hget, if_neg (by omega)]
                exact R.old x hx1 hx2
              · intro x y ix iy hx hy ax ay e'
                exact R.inj x y ix iy hx hy (hal x ax) (hal y ay) e'
              · intro x k hx
                rw [Heap.get_set]
                by_cases e' : x = b
                · subst e'
                  rw [hb] at hx; cases hx
                  rw [if_pos rfl]
                  refine ⟨he, aput c (o + i.dl + 0) vs', t, fr, by rw [hget, if_pos rfl], by rw [aput_size]; exact hs, by rw [splice_length _ _ _ hlen, aput_size]; exact hle, ?_, by rw [aput_size]; exact hf⟩
                  intro q v hq
                  rw [splice_get _ _ _ _ hlen] at hq
                  rw [aput_get _ _ _ _ (by have := hv.1; omega)]
                  have hl := hv.1
                  by_cases hin : o ≤ q ∧ q < o + vs.length
                  · rw [if_pos hin] at hq
                    rw [if_pos (by omega)]
                    obtain ⟨v', hv', hr'⟩ := hv.get hq
                    exact ⟨v', by rw [show i.dl + q - (o + i.dl + 0) = q - o by omega]; exact hv', hr'⟩
                  · rw [if_neg hin] at hq
                    rw [if_neg (by omega)]
                    exact hcv q v hq
                · rw [if_neg e']
                  have hBx := R.blk x k hx
                  have hne : alive (H.get x) → k.rb ≠ i.rb := fun ax e2 => e' (R.inj x b k i hx hb ax (by rw [hg]; trivial) e2)
                  cases hgx : H.get x with
                  | none => trivial
                  | some y =>
                    rw [hgx] at hBx
                    cases y with
                    | row cs2 e2 =>
                      obtain ⟨q1, c2, t2, fr2, q2, q3⟩ := hBx
                      exact ⟨q1, c2, t2, fr2, by rw [hget, if_neg (hne (by rw [hgx]; trivial))]; exact q2, q3⟩
                    | map es ck =>
                      obtain ⟨q1, es', q2, q3⟩ := hBx
                      exact ⟨q1, es', by rw [hget, if_neg (hne (by rw [hgx]; trivial))]; exact q2, q3⟩
                    | iter s p =>
                      obtain ⟨q1, q2⟩ := hBx
                      exact ⟨q1, by rw [hget, if_neg (hne (by rw [hgx]; trivial))]; exact q2⟩
                    | dead => trivial
              · intro x hx
                rw [Heap.get_set, if_neg (by have := R.lt hg; have : H.next ≤ x := hx; omega)]
                exact R.fresh x hx
            · subst hw'
              refine ⟨Inj.le_refl _, Nat.le_refl _, rfl, by rw [wset_size]; exact Nat.le_refl _, ?_, fun x k h1 h2 => by (rw [h1] at h2; cases h2), fun x k h1 h2 => by (rw [h1] at h2; cases h2), ?_⟩
              · intro x hx hn
                rw [Heap.get_set, if_neg (fun e' => by subst e'; rw [hb] at hn; cases hn)]
              · intro r hr hn
                rw [wset_get _ _ _ _ (R.rng b i hb).1, if_neg (fun e' => hn b i hb hbt e'.symm)]
          · cases h
        · cases h
      | map es ck => simp at h
      | iter s p => simp at h
      | dead => simp at h

end mem

/-! ### Making a block -/

def Inj.upd (j : Inj) (b : Nat) (i : Info) : Inj := fun x => if x = b then some i else j x

def wpush (w : World) (o : Obj) : World := { w with heap := w.heap.push o }

theorem wpush_get (w : World) (o : Obj) (r : Nat) : (wpush w o).heap[r]? = if r = w.heap.size then some o else w.heap[r]? := by
  unfold wpush; simp only
  rw [Array.getElem?_push]

theorem BRel.frame {n0 : Nat} {j j' : Inj} {x : Option Blk} {i : Info} {w w' : World} (hj : Inj.le j j') (hw : alive x → w'.heap[i.rb]? = w.heap[i.rb]?) (h : BRel n0 j x i w) : BRel n0 j' x i w' := by
  cases x with
  | none => trivial
  | some y =>
    cases y with
    | row cs e =>
      obtain ⟨q1, c, t, fr, q2, q3, q4, q5, q6⟩ := h
      exact ⟨q1, c, t, fr, by rw [hw trivial]; exact q2, q3, q4, fun k v hk => let ⟨v', a, b⟩ := q5 k v hk; ⟨v', a, b.mono hj⟩, q6⟩
    | map es ck =>
      obtain ⟨q1, es', q2, q3⟩ := h
      exact ⟨q1, es', by rw [hw trivial]; exact q2, q3.mono hj⟩
    | iter s p =>
      obtain ⟨q1, q2⟩ := h
      exact ⟨q1, by rw [hw trivial]; exact q2⟩
    | dead => trivial

/-- A new block on both sides. -/
theorem push_sound {w0 : World} {ng top : Nat} {j : Inj} {H : Heap} {w : World} (R : Rel w0 ng top j H w) (hT : H.next < top) (x : Blk) (o : Obj) (i : Info) (hi : i.rb = w.heap.size)
    (hB : BRel w0.heap.size (j.upd H.next i) (some x) i (wpush w o)) :
    Rel w0 ng top (j.upd H.next i) (H.push x) (wpush w o) ∧ Frm top j (j.upd H.next i) H (H.push x) w (wpush w o) ∧ (j.upd H.next i) H.next = some i := by
  have hle : Inj.le j (j.upd H.next i) := by
    intro b k hb
    have := R.dom b k hb
    simp only [Inj.upd]
    rw [if_neg (by omega)]
    exact hb
  have hz : (wpush w o).heap.size = w.heap.size + 1 := by simp [wpush]
  have hcase : ∀ b k, (j.upd H.next i) b = some k → (b = H.next ∧ k = i) ∨ (b ≠ H.next ∧ j b = some k) := by
    intro b k hb
    simp only [Inj.upd] at hb
    by_cases e : b = H.next
    · rw [if_pos e] at hb; cases hb; exact .inl ⟨e, rfl⟩
    · rw [if_neg e] at hb; exact .inr ⟨e, hb⟩
  refine ⟨⟨R.base, ?_, by rw [hz]; have := R.size; omega, ?_, ?_, ?_, ?_, ?_, R.os, R.tape, R.output⟩, ⟨hle, Nat.le_succ _, rfl, by rw [hz]; omega, ?_, ?_, ?_, ?_⟩, by simp [Inj.upd]⟩
  · intro b h1 h2
    rw [wpush_get, if_neg (by have := R.size; omega)]
    exact R.old b h1 h2
  · intro b k hb
    rcases hcase b k hb with ⟨e, _⟩ | ⟨_, hb⟩
    · subst e; exact .inl (Nat.lt_succ_self _)
    · exact (R.dom b k hb).imp Nat.lt_succ_of_lt id
  · intro b k hb
    rw [hz]
    rcases hcase b k hb with ⟨_, e⟩ | ⟨_, hb⟩
    · subst e; rw [hi]; exact ⟨Nat.lt_succ_self _, .inr R.size⟩
    · have := R.rng b k hb; exact ⟨by omega, this.2⟩
  · intro b c k l hb hc ab ac e
    rw [Heap.get_push] at ab ac
    rcases hcase b k hb with ⟨e1, e2⟩ | ⟨n1, hb2⟩ <;> rcases hcase c l hc with ⟨e3, e4⟩ | ⟨n3, hc2⟩
    · rw [e1, e3]
    · have h1 := (R.rng c l hc2).1
      rw [e2, hi] at e; omega
    · have h1 := (R.rng b k hb2).1
      rw [e4, hi] at e; omega
    · rw [if_neg n1] at ab; rw [if_neg n3] at ac
      exact R.inj b c k l hb2 hc2 ab ac e
  · intro b k hb
    rw [Heap.get_push]
    rcases hcase b k hb with ⟨e1, e2⟩ | ⟨n1, hb⟩
    · subst e2; rw [if_pos e1]; exact hB
    · rw [if_neg n1]
      refine (R.blk b k hb).frame hle (fun _ => ?_)
      rw [wpush_get, if_neg (by have := (R.rng b k hb).1; omega)]
  · intro b hb
    have hb' : H.next + 1 ≤ b := hb
    rw [Heap.get_push, if_neg (by omega)]
    exact R.fresh b (by omega)
  · intro b hb hn
    rw [Heap.get_push, if_neg (by omega)]
  · intro b k hn hb
    rcases hcase b k hb with ⟨e, _⟩ | ⟨_, hb⟩
    · subst e; exact ⟨Nat.le_refl _, hT⟩
    · rw [hn] at hb; cases hb
  · intro b k hn hb
    rcases hcase b k hb with ⟨_, e⟩ | ⟨_, hb⟩
    · subst e; left; omega
    · rw [hn] at hb; cases hb
  · intro r hr _
    rw [wpush_get, if_neg (by omega)]

/-- A new row: the real one may be longer. -/
theorem newRow_sound {P : Program} {w0 : World} {ng top : Nat} {j : Inj} {H : Heap} {w : World} (R : Rel w0 ng top j H w) (hT : H.next < top) (t : TypeId) (cs : List Value) (c' : Array Value) (esz : Nat)
    (hle : cs.length ≤ c'.size) (hv : ∀ (k : Nat) v, cs[k]? = some v → ∃ v', c'[k]? = some v' ∧ VRel w0.heap.size j v v') :
    ∃ w' j' i, (newRow t c').run P w = .ok ⟨w.heap.size, 0, none⟩ w' ∧ Rel w0 ng top j' (H.push (.row cs esz)) w' ∧ Frm top j j' H (H.push (.row cs esz)) w w' ∧ j' H.next = some i ∧
      i = { rb := w.heap.size, dl := 0, esz, size := c'.size } ∧ w' = wpush w (.cells c' t) ∧ j' = j.upd H.next i := by
  have hup : Inj.le j (j.upd H.next { rb := w.heap.size, dl := 0, esz, size := c'.size }) := by
    intro b k hb
    have := R.dom b k hb
    simp only [Inj.upd]
    rw [if_neg (by omega)]
    exact hb
  have := push_sound R hT (.row cs esz) (.cells c' t) { rb := w.heap.size, dl := 0, esz, size := c'.size } rfl
    ⟨rfl, c', t, (0, 0), by rw [wpush_get, if_pos rfl], rfl, by simpa using hle, fun k v hk => by obtain ⟨v', h1, h2⟩ := hv k v hk; exact ⟨v', by simpa using h1, h2.mono hup⟩, fun o _ h => by simp at h⟩
  obtain ⟨r1, r2, r3⟩ := this
  exact ⟨_, _, _, rfl, r1, r2, r3, rfl, rfl, rfl⟩

end Go.Proofs.YtdpbbppjjjhnoaaGreatDoor.D
