/- The abstract machine "D": loops over ranges; slices that can be read. No statement of the seat is proved in this text. -/
import Derived.Test.YtfflfehfjgkcdaaEb
set_option linter.unusedSimpArgs false
set_option linter.unusedVariables false
namespace Go.Proofs.Ytfflfehfjgkcdaa.D
open Go

/-- A loop of N rounds, and a last look. -/
theorem wLoop_range {tb : Nat → Option DFn} {nv : CallF} {c : C} {keep : List Nat} {K : Kont} (N : Nat) (I : Nat → WFr → Heap → Prop)
    (step : ∀ i wf H, i < N → I i wf H → ∀ K' : WFr → Heap → Prop, (∀ wf' H', I (i + 1) (keepWO (some keep) wf') H' → K' wf' H') → wC tb nv c wf H (kSeq K' K))
    (last : ∀ wf H, I N wf H → ∀ K' : WFr → Heap → Prop, wC tb nv c wf H (kSeq K' K)) {wf : WFr} {H : Heap} (h0 : I 0 wf H) : wLoop tb nv c keep wf H K := by
  have main : ∀ (d i : Nat) (wf : WFr) (H : Heap), i + d = N → I i wf H → wLn (fun wf H Q => wC tb nv c wf H Q) (some keep) (d + 1) wf H K := by
    intro d
    induction d with
    | zero =>
      intro i wf H hi hI
      obtain rfl : i = N := by omega
      exact last wf H hI _
    | succ d ih =>
      intro i wf H hi hI
      exact step i wf H (by omega) hI _ fun wf' H' h' => ih (i + 1) _ H' (by omega) h'
  exact ⟨N + 1, main N 0 wf H (by omega) h0⟩

/-- The cells that a pointer points to. -/
inductive PAt (n : Nat) (H : Heap) : Value → List Value → Prop where
  | new (b o : Nat) (all cs : List Value) (e : Nat) (h : At H b (.row all e)) (hc : takeN (all.drop o) n = some cs) : PAt n H (.pointer (some ⟨b, o, none⟩)) cs
  | old (b o : Nat) (cs : List Value) (h : rdBase H.base b o n = some cs) : PAt n H (.pointer (some ⟨b, o, some 0⟩)) cs

theorem PAt.load {n : Nat} {H : Heap} {p : Value} {cs : List Value} {Q : Value → Prop} (h : PAt n H p cs) (q : Q (.agg ⟨cs⟩)) : wR (.load n true) [p] H Q := by
  cases h with
  | new b o all cs e h hc => exact wR_new (v := .agg ⟨cs⟩) h.get (by unfold ldv; rw [hc]; rfl) q
  | old b o cs h => exact wR_old (v := .agg ⟨cs⟩) (ldb_agg h) q

theorem PAt.load1 {H : Heap} {p v : Value} {Q : Value → Prop} (h : PAt 1 H p [v]) (q : Q v) : wR (.load 1 false) [p] H Q := by
  cases h with
  | new b o all cs e h hc => exact wR_new (v := v) h.get (by unfold ldv; rw [hc]; rfl) q
  | old b o cs h => exact wR_old (v := v) (ldb_one h) q

/-- A slice that can be read: how many there are, and their cells. -/
inductive RSl (n : Nat) (H : Heap) : Value → Nat → List Value → Prop where
  | nil : RSl n H (.slice none 0 0) 0 []
  | new (b o len cap : Nat) (s : Option Nat) (hs : s = none ∨ ∃ k, s = some (k + 1)) (all L : List Value) (e : Nat) (h : At H b (.row all e)) (hc : takeN (all.drop o) (len * n) = some L) : RSl n H (.slice (some ⟨b, o, s⟩) len cap) len L
  | old (b o len cap : Nat) (L : List Value) (h : rdBase H.base b o (len * n) = some L) : RSl n H (.slice (some ⟨b, o, some 0⟩) len cap) len L

/-- The blocks made since that a slice has. -/
def newOf : Value → List Nat
  | .slice (some ⟨_, _, some 0⟩) _ _ => []
  | .slice (some a) _ _ => [a.block]
  | _ => []

theorem newOf_sub {v : Value} {b : Nat} (h : b ∈ newOf v) : b ∈ blkOf v := by
  unfold newOf at h
  split at h
  · simp at h
  · simpa [blkOf] using h
  · simp at h

theorem USl.rsl {n : Nat} {H : Heap} {v : Value} {len : Nat} {L : List Value} (h : USl n H v len L) : RSl n H v len L := by
  cases h with
  | nil => exact .nil
  | mk b o len cs h hl =>
    refine .new b o len 0 _ (.inr ⟨_, rfl⟩) cs _ n h ?_
    rw [takeN_take (by simp; omega), List.take_of_length_le (by simp; omega)]

theorem RSl.keep {n : Nat} {H H' : Heap} {v : Value} {len : Nat} {L : List Value} {M : List Nat} (h : RSl n H v len L) (k : Keeps H H' M) (hm : ∀ b ∈ newOf v, b ∉ M) : RSl n H' v len L := by
  cases h with
  | nil => exact .nil
  | new b o len cap s hs all L e h hc =>
    refine .new b o len cap s hs all L e (h.keep k (hm b ?_)) hc
    rcases hs with rfl | ⟨k, rfl⟩ <;> simp [newOf]
  | old b o len cap L h => exact .old b o len cap L (by rw [k.base]; exact h)

theorem RSl.lt {n : Nat} {H : Heap} {v : Value} {len : Nat} {L : List Value} (h : RSl n H v len L) : ∀ b ∈ newOf v, b < H.next := by
  cases h with
  | nil => simp [newOf]
  | new b o len cap s hs all L e h hc =>
    intro b' hb
    rcases hs with rfl | ⟨z, rfl⟩
    · simp only [newOf, List.mem_singleton] at hb; subst hb; exact h.lt
    · simp only [newOf, List.mem_singleton] at hb; subst hb; exact h.lt
  | old => simp [newOf]

theorem RSl.isLen {n : Nat} {H : Heap} {v : Value} {len : Nat} {L : List Value} (h : RSl n H v len L) : ∃ a cap, v = .slice a len cap := by
  cases h <;> exact ⟨_, _, rfl⟩

theorem takeN_drop {l L cs : List Value} {m i n : Nat} (h : takeN l m = some L) (hi : i + n ≤ m) (hc : takeN (L.drop i) n = some cs) : takeN (l.drop i) n = some cs := by
  obtain ⟨h1, h2⟩ := takeN_len h
  obtain ⟨h3, h4⟩ := takeN_len hc
  have hl : m ≤ l.length := by
    have := h1
    rw [h2, List.length_take] at this
    omega
  rw [takeN_take (by simp; omega), h4, h2]
  congr 1
  rw [List.drop_take, List.take_take, Nat.min_eq_left (by omega)]

theorem rdBase_drop {base : Nat → Nat → Option Value} {b : Nat} : ∀ {m i n o : Nat} {L cs : List Value}, rdBase base b o m = some L → i + n ≤ m → takeN (L.drop i) n = some cs → rdBase base b (o + i) n = some cs
  | m, 0, 0, o, L, cs, h, hi, hc => by
    cases L <;> cases hc <;> rfl
  | 0, 0, n + 1, o, L, cs, h, hi, hc => by omega
  | m + 1, 0, n + 1, o, L, cs, h, hi, hc => by
    simp only [rdBase] at h ⊢
    split at h
    · cases h
    · rename_i v hv
      split at h
      · cases h
      · rename_i l hl
        cases h
        simp only [List.drop_zero, takeN] at hc
        split at hc
        · cases hc
        · rename_i r hr
          cases hc
          have := rdBase_drop (i := 0) (n := n) hl (by omega) (by simpa using hr)
          simp only [Nat.add_zero] at this ⊢
          rw [hv]
          simp only
          rw [this]
  | 0, i + 1, n, o, L, cs, h, hi, hc => by omega
  | m + 1, i + 1, n, o, L, cs, h, hi, hc => by
    simp only [rdBase] at h
    split at h
    · cases h
    · split at h
      · cases h
      · rename_i l hl
        cases h
        have := rdBase_drop (i := i) (n := n) hl (by omega) (by simpa using hc)
        rw [show o + (i + 1) = o + 1 + i by omega]
        exact this

/-- The place of one element. -/
theorem RSl.iadd {n : Nat} {H : Heap} {v : Value} {len : Nat} {L cs : List Value} {i : Nat} {Q : Value → Prop} (h : RSl n H v len L) (hi : i < len) (hc : takeN (L.drop (i * n)) n = some cs)
    (q : ∀ p, (∀ H' M, Keeps H H' M → (∀ b ∈ newOf v, b ∉ M) → PAt n H' p cs) → Q p) : wP (.iaddS n) [v, .int .i64 (i : Int)] Q := by
  have hin : i * n + n ≤ len * n := by
    have := Nat.mul_le_mul_right n (show i + 1 ≤ len by omega)
    rw [Nat.add_mul, Nat.one_mul] at this
    exact this
  cases h with
  | nil => omega
  | new b o len cap s hs all L e h hk =>
    have e1 : toPtr ⟨b, o, s⟩ = ⟨b, o, none⟩ := by rcases hs with rfl | ⟨k, rfl⟩ <;> rfl
    refine ⟨.pointer (some ⟨b, o + i * n, none⟩), ?_, q _ fun H' M k hm => .new b (o + i * n) all cs e (h.keep k (hm b ?_)) ?_⟩
    · show (if 0 ≤ (i : Int) ∧ (i : Int) < len then some (Value.pointer (some (aadd (toPtr ⟨b, o, s⟩) ((i : Int).toNat * n)))) else none) = _
      rw [if_pos ⟨by omega, by omega⟩, e1]
      rfl
    · rcases hs with rfl | ⟨k, rfl⟩ <;> simp [newOf]
    · rw [← List.drop_drop]
      exact takeN_drop hk hin hc
  | old b o len cap L h =>
    refine ⟨.pointer (some ⟨b, o + i * n, some 0⟩), ?_, q _ fun H' M k hm => .old b (o + i * n) cs ?_⟩
    · show (if 0 ≤ (i : Int) ∧ (i : Int) < len then some (Value.pointer (some (aadd (toPtr ⟨b, o, some 0⟩) ((i : Int).toNat * n)))) else none) = _
      rw [if_pos ⟨by omega, by omega⟩]
      rfl
    · rw [k.base]
      exact rdBase_drop h hin hc

theorem RSl.lenS {n : Nat} {H : Heap} {v : Value} {len : Nat} {L : List Value} {Q : Value → Prop} (h : RSl n H v len L) (q : Q (.int .i64 (len : Int))) : wP .lenS [v] Q := by
  obtain ⟨a, cap, rfl⟩ := h.isLen
  exact ⟨_, rfl, q⟩

/-- Elements of n cells, one behind the other. -/
theorem takeN_flat {α : Type} {f : α → List Value} {n : Nat} (hf : ∀ a, (f a).length = n) : ∀ {l : List α} {i : Nat} {a : α}, l[i]? = some a → takeN ((l.flatMap f).drop (i * n)) n = some (f a)
  | [], i, a, h => by simp at h
  | b :: l, 0, a, h => by
    simp at h
    subst h
    rw [Nat.zero_mul, List.drop_zero, List.flatMap_cons, takeN_take (by simp [hf]), List.take_append_of_le_length (by rw [hf]; exact Nat.le_refl _), List.take_of_length_le (by rw [hf]; exact Nat.le_refl _)]
  | b :: l, i + 1, a, h => by
    rw [List.flatMap_cons, List.drop_append]
    rw [List.drop_of_length_le (by rw [hf, Nat.add_mul]; omega), List.nil_append, hf, show (i + 1) * n - n = i * n by rw [Nat.add_mul]; omega]
    exact takeN_flat hf (by simpa using h)

theorem rdBase_app {base : Nat → Nat → Option Value} {b : Nat} : ∀ {m o n : Nat} {L M : List Value}, rdBase base b o m = some L → rdBase base b (o + m) n = some M → rdBase base b o (m + n) = some (L ++ M)
  | 0, o, n, L, M, h, k => by
    cases h
    simpa using k
  | m + 1, o, n, L, M, h, k => by
    simp only [rdBase] at h
    split at h
    · cases h
    · rename_i v hv
      split at h
      · cases h
      · rename_i l hl
        cases h
        have := rdBase_app (n := n) hl (show rdBase base b (o + 1 + m) n = some M by rw [show o + 1 + m = o + (m + 1) by omega]; exact k)
        rw [show m + 1 + n = (m + n) + 1 by omega]
        simp only [rdBase, hv, this, List.cons_append]

theorem rdBase_list {base : Nat → Nat → Option Value} {b o n : Nat} {α : Type} {f : α → List Value} {p : α → Prop} : ∀ {len : Nat}, (∀ i, i < len → ∃ a, rdBase base b (o + i * n) n = some (f a) ∧ p a) →
    ∃ l : List α, l.length = len ∧ rdBase base b o (len * n) = some (l.flatMap f) ∧ ∀ a ∈ l, p a
  | 0, _ => ⟨[], rfl, by rw [Nat.zero_mul]; rfl, by simp⟩
  | len + 1, h => by
    obtain ⟨l, h1, h2, h3⟩ := rdBase_list (len := len) fun i hi => h i (by omega)
    obtain ⟨a, h4, h5⟩ := h len (by omega)
    refine ⟨l ++ [a], by simp [h1], ?_, ?_⟩
    · rw [Nat.add_mul, Nat.one_mul, rdBase_app h2 h4, List.flatMap_append]
      simp
    · intro x hx
      rcases List.mem_append.1 hx with hx | hx
      · exact h3 x hx
      · simp only [List.mem_singleton] at hx
        subst hx
        exact h5

/-- A slice of old, read as a list. -/
theorem ShOk.list {base : Nat → Nat → Option Value} {n : Nat} {sh : List Sh} {v : Value} {α : Type} {f : α → List Value} {p : α → Prop} (h : ShOk base (.sl n sh) v) (hf : ∀ cs, ShsOk base sh cs → ∃ a, cs = f a ∧ p a) :
    ∃ l : List α, (∀ H : Heap, H.base = base → RSl n H v l.length (l.flatMap f)) ∧ newOf v = [] ∧ l.length ≤ maxLen ∧ ∀ a ∈ l, p a := by
  simp only [ShOk] at h
  rcases h with rfl | ⟨b, o, len, cap, rfl, h1, h2, h3⟩
  · exact ⟨[], fun H hB => .nil, rfl, Nat.zero_le _, by simp⟩
  · obtain ⟨l, h4, h5, h6⟩ := rdBase_list (base := base) (b := b) (o := o) (n := n) (f := f) (p := p) (len := len) fun i hi => by
      obtain ⟨cs, h7, h8⟩ := h3 i hi
      obtain ⟨a, rfl, hp⟩ := hf cs h8
      exact ⟨a, h7, hp⟩
    refine ⟨l, fun H hB => ?_, rfl, by omega, h6⟩
    subst h4
    exact .old b o _ cap _ (by rw [hB]; exact h5)

theorem RSl.isOne {n : Nat} {H : Heap} {v : Value} {len : Nat} {L : List Value} (h : RSl n H v len L) : oneC v = true := by
  obtain ⟨a, cap, rfl⟩ := h.isLen
  rfl

theorem RSl.src {n : Nat} {H : Heap} {v : Value} {len : Nat} {L : List Value} (h : RSl n H v len L) : srcD n v H = some (len, L) := by
  cases h with
  | nil => rfl
  | new b o len cap s hs all L e h hc =>
    by_cases h0 : len = 0
    · subst h0
      rw [Nat.zero_mul] at hc
      have : L = [] := by
        have := (takeN_len hc).1
        exact List.eq_nil_of_length_eq_zero this
      rw [this]
      exact srcD_zero
    · rcases hs with rfl | ⟨k, rfl⟩
      · exact srcD_new h.get hc h0
      · exact srcD_u h.get hc h0
  | old b o len cap L h =>
    by_cases h0 : len = 0
    · subst h0
      rw [Nat.zero_mul] at h
      cases h
      exact srcD_zero
    · exact srcD_old h h0

theorem RSl.length {n : Nat} {H : Heap} {v : Value} {len : Nat} {L : List Value} (h : RSl n H v len L) : L.length = len * n := by
  cases h with
  | nil => simp
  | new b o len cap s hs all L e h hc => exact (takeN_len hc).1
  | old b o len cap L h => exact rdBase_len h

/-- Cells of an element, one by one. -/
theorem PAt.cell {n : Nat} {H : Heap} {p v : Value} {cs : List Value} {i : Nat} {Q : Value → Prop} (h : PAt n H p cs) (hi : cs[i]? = some v) (q : Q v) : wP (.fadd i) [p] fun x => wR (.load 1 false) [x] H Q := by
  have hlt : i < cs.length := by
    rcases Nat.lt_or_ge i cs.length with h | h
    · exact h
    · rw [List.getElem?_eq_none h] at hi; cases hi
  have hc : takeN (cs.drop i) 1 = some [v] := by
    rw [takeN_take (by simp; omega)]
    congr 1
    rw [List.getElem?_eq_getElem hlt] at hi
    rw [List.drop_eq_getElem_cons hlt, Option.some.inj hi]
    rfl
  cases h with
  | new b o all cs e h hk =>
    refine wP.mk _ rfl ?_
    refine wR_new (v := v) h.get ?_ q
    have hl := (takeN_len hk).1
    have hz := takeN_drop (i := i) (n := 1) hk (by omega) hc
    rw [List.drop_drop] at hz
    unfold ldv
    show (match takeN (all.drop (o + i)) 1 with | some l => _ | none => _) = _
    rw [hz]
    rfl
  | old b o cs h =>
    have hl := rdBase_len h
    refine wP.mk _ rfl ?_
    refine wR_old (v := v) ?_ q
    exact ldb_one (rdBase_drop (i := i) (n := 1) h (by omega) hc)

/-- A part of an element. -/
theorem PAt.fadd {n m i : Nat} {H : Heap} {p : Value} {cs ds : List Value} {Q : Value → Prop} (h : PAt n H p cs) (hc : takeN (cs.drop i) m = some ds) (him : i + m ≤ n) (q : ∀ p', PAt m H p' ds → Q p') : wP (.fadd i) [p] Q := by
  cases h with
  | new b o all cs e h hk =>
    refine ⟨.pointer (some ⟨b, o + i, none⟩), rfl, q _ ?_⟩
    have hz := takeN_drop (i := i) (n := m) hk him hc
    rw [List.drop_drop] at hz
    exact .new b (o + i) all ds e h hz
  | old b o cs h =>
    refine ⟨.pointer (some ⟨b, o + i, some 0⟩), rfl, q _ ?_⟩
    exact .old b (o + i) ds (rdBase_drop (i := i) (n := m) h him hc)

end Go.Proofs.Ytfflfehfjgkcdaa.D
