/- The abstract machine "D": slices that are only appended to. No statement of the seat is proved in this text. -/
import Derived.Test.YtdpbbppjjjhnoaaGreatDoorEa
set_option linter.unusedSimpArgs false
set_option linter.unusedVariables false
namespace Go.Proofs.YtdpbbppjjjhnoaaGreatDoor.D
open Go

/-- A slice of elements of n cells that was made by appending: how many there are, and their cells. -/
inductive USl (n : Nat) (H : Heap) : Value → Nat → List Value → Prop where
  | nil : USl n H (.slice none 0 0) 0 []
  | mk (b o len : Nat) (cs : List Value) (h : At H b (.row cs n)) (hl : o + len * n = cs.length) : USl n H (.slice (some ⟨b, o, some (n + 1)⟩) len 0) len (cs.drop o)

def blkOf : Value → List Nat
  | .slice (some a) _ _ => [a.block]
  | _ => []

theorem USl.length {n : Nat} {H : Heap} {v : Value} {len : Nat} {L : List Value} (h : USl n H v len L) : L.length = len * n := by
  cases h with
  | nil => simp
  | mk b o len cs h hl => simp; omega

theorem USl.isOne {n : Nat} {H : Heap} {v : Value} {len : Nat} {L : List Value} (h : USl n H v len L) : oneC v = true := by
  cases h <;> rfl

theorem USl.keep {n : Nat} {H H' : Heap} {v : Value} {len : Nat} {L : List Value} {M : List Nat} (h : USl n H v len L) (k : Keeps H H' M) (hm : ∀ b ∈ blkOf v, b ∉ M) : USl n H' v len L := by
  cases h with
  | nil => exact .nil
  | mk b o len cs h hl => exact .mk b o len cs (h.keep k (hm b (by simp [blkOf]))) hl

theorem USl.ne {n : Nat} {H : Heap} {v : Value} {len : Nat} {L : List Value} (h : USl n H v len L) {b : Nat} {X : Blk} (hb : At H b X) (hx : ∀ cs, X ≠ .row cs n) : b ∉ blkOf v := by
  cases h with
  | nil => simp [blkOf]
  | mk b' o len cs h hl =>
    simp only [blkOf, List.mem_singleton]
    exact hb.ne h (hx cs)

theorem USl.disj {n m : Nat} {H : Heap} {v w : Value} {len len' : Nat} {L L' : List Value} (h : USl n H v len L) (k : USl m H w len' L') (hn : n ≠ m) : ∀ b ∈ blkOf v, b ∉ blkOf w := by
  cases h with
  | nil => simp [blkOf]
  | mk b o len cs h hl =>
    intro b' hb'
    simp only [blkOf, List.mem_singleton] at hb'
    subst hb'
    exact k.ne h fun cs' e => hn (by cases e; rfl)

theorem USl.lt {n : Nat} {H : Heap} {v : Value} {len : Nat} {L : List Value} (h : USl n H v len L) : ∀ b ∈ blkOf v, b < H.next := by
  cases h with
  | nil => simp [blkOf]
  | mk b o len cs h hl =>
    intro b' hb'
    simp only [blkOf, List.mem_singleton] at hb'
    subst hb'
    exact h.lt

/-- More is appended. -/
theorem USl.app {n bytes : Nat} {H : Heap} {v x : Value} {len k : Nat} {L l : List Value} (h : USl n H v len L) (hx : srcD n x H = some (k, l)) (hk : k ≠ 0) (hlen : l.length = k * n) (ho : l.all oneC = true) (hr : roomD (len + k) bytes = true)
    {Q : Value → Heap → Prop} (q : ∀ v' H', USl n H' v' (len + k) (L ++ l) → Keeps H H' (blkOf v) → blkOf v' = [H.next] → H'.next = H.next + 1 → Q v' H') : wE (.app n bytes) [v, x] H Q := by
  cases h with
  | nil =>
    rw [Nat.zero_add] at hr
    refine wE_appNil hx hk hr ?_
    have := q (.slice (some ⟨H.next, 0, some (n + 1)⟩) k 0) (H.push (.row l n)) (by
      have := USl.mk (n := n) (H := H.push (.row l n)) H.next 0 k l At.new (by omega)
      simpa using this) (Keeps.push' Keeps.refl') rfl rfl
    exact this
  | mk b o len cs h hl =>
    refine wE_appU hx hk h.get hl hr ho ?_
    refine q _ _ ?_ (Keeps.push' (Keeps.set' Keeps.refl' (.inl (by simp [blkOf])))) rfl rfl
    have hd : (cs.drop o).length = len * n := by simp; omega
    have := USl.mk (n := n) (H := (H.set b .dead).push (.row (cs.drop o ++ l) n)) H.next 0 (len + k) (cs.drop o ++ l) At.new (by simp [hd, hlen, Nat.add_mul])
    simpa using this

/-- The first ones are cut off. -/
theorem USl.tail {n : Nat} {H : Heap} {v : Value} {len k : Nat} {L : List Value} (h : USl n H v len L) (hk : k ≤ len) (h0 : k ≠ 0) {Q : Value → Prop} (q : ∀ v', USl n H v' (len - k) (L.drop (k * n)) → blkOf v' = blkOf v → Q v') :
    wP (.slcS n true false false) [v, .int .i64 (k : Int)] Q := by
  cases h with
  | nil => omega
  | mk b o len cs h hl =>
    refine ⟨.slice (some ⟨b, o + k * n, some (n + 1)⟩) (len - k) 0, ?_, q _ ?_ rfl⟩
    · show sliceD n ⟨b, o, some (n + 1)⟩ len 0 true false false [.int .i64 (k : Int)] = _
      have hb : boundD (.int .i64 (k : Int)) len = some k := by
        simp only [boundD]
        rw [if_pos ⟨by omega, by omega⟩]
        simp
      simp only [sliceD, if_pos rfl, boundsD, hb, aadd]
      rfl
    · rw [List.drop_drop]
      have hle : k * n ≤ len * n := Nat.mul_le_mul_right _ hk
      exact .mk b (o + k * n) (len - k) cs h (by rw [Nat.sub_mul]; omega)

/-- One element is read. -/
theorem USl.read {n : Nat} {H : Heap} {v : Value} {len : Nat} {L cs : List Value} (h : USl n H v len L) {i : Nat} (hi : i < len) (hc : takeN (L.drop (i * n)) n = some cs) :
    ∃ b o, ∃ all, v = .slice (some ⟨b, o, some (n + 1)⟩) len 0 ∧ At H b (.row all n) ∧ takeN (all.drop (o + i * n)) n = some cs := by
  cases h with
  | nil => omega
  | mk b o len all h hl =>
    refine ⟨b, o, all, rfl, h, ?_⟩
    rw [List.drop_drop] at hc
    exact hc

theorem USl.src {n : Nat} {H : Heap} {v : Value} {len : Nat} {L : List Value} (h : USl n H v len L) : srcD n v H = some (len, L) := by
  cases h with
  | nil => rfl
  | mk b o len cs h hl =>
    by_cases h0 : len = 0
    · subst h0
      rw [srcD_zero]
      simp
      omega
    · refine srcD_u h.get ?_ h0
      rw [takeN_take (by simp; omega)]
      rw [List.take_of_length_le (by simp; omega)]

/-! ### Typed memory of old -/

/-- What a cell holds. -/
inductive Sh where
  | b | i (k : IntKind) | s | sl (n : Nat) (l : List Sh)

mutual
def ShOk (base : Nat → Nat → Option Value) : Sh → Value → Prop
  | .b, v => ∃ x, v = .bool x
  | .i k, v => ∃ n, v = .int k n ∧ k.min ≤ n ∧ n ≤ k.max
  | .s, v => ∃ x, v = .string x ∧ x.size ≤ maxLen
  | .sl n l, v => v = .slice none 0 0 ∨ ∃ b o len cap, v = .slice (some ⟨b, o, some 0⟩) len cap ∧ len ≤ cap ∧ cap ≤ maxLen ∧ ∀ i, i < len → ∃ cs, rdBase base b (o + i * n) n = some cs ∧ ShsOk base l cs
def ShsOk (base : Nat → Nat → Option Value) : List Sh → List Value → Prop
  | [], [] => True
  | a :: l, v :: r => ShOk base a v ∧ ShsOk base l r
  | _, _ => False
end

/-- A slice of old: how long it is, and its elements. -/
theorem ShOk.slice {base : Nat → Nat → Option Value} {n : Nat} {l : List Sh} {v : Value} (h : ShOk base (.sl n l) v) :
    ∃ len, len ≤ maxLen ∧ (∃ a cap, v = .slice a len cap) ∧ ∀ i, i < len → ∃ b o cap cs, v = .slice (some ⟨b, o, some 0⟩) len cap ∧ rdBase base b (o + i * n) n = some cs ∧ ShsOk base l cs := by
  simp only [ShOk] at h
  rcases h with rfl | ⟨b, o, len, cap, rfl, h1, h2, h3⟩
  · exact ⟨0, Nat.zero_le _, ⟨_, _, rfl⟩, fun i hi => by omega⟩
  · refine ⟨len, by omega, ⟨_, _, rfl⟩, fun i hi => ?_⟩
    obtain ⟨cs, h4, h5⟩ := h3 i hi
    exact ⟨b, o, cap, cs, rfl, h4, h5⟩

theorem ShsOk.nil {base : Nat → Nat → Option Value} {cs : List Value} (h : ShsOk base [] cs) : cs = [] := by
  cases cs with
  | nil => rfl
  | cons => simp [ShsOk] at h
theorem ShsOk.cons {base : Nat → Nat → Option Value} {a : Sh} {l : List Sh} {cs : List Value} (h : ShsOk base (a :: l) cs) : ∃ v r, cs = v :: r ∧ ShOk base a v ∧ ShsOk base l r := by
  cases cs with
  | nil => simp [ShsOk] at h
  | cons v r => simp only [ShsOk] at h; exact ⟨v, r, rfl, h.1, h.2⟩
theorem ShOk.int {base : Nat → Nat → Option Value} {k : IntKind} {v : Value} (h : ShOk base (.i k) v) : ∃ n, v = .int k n ∧ k.min ≤ n ∧ n ≤ k.max := by simpa only [ShOk] using h
theorem ShOk.str {base : Nat → Nat → Option Value} {v : Value} (h : ShOk base .s v) : ∃ x, v = .string x ∧ x.size ≤ maxLen := by simpa only [ShOk] using h
theorem ShOk.bool {base : Nat → Nat → Option Value} {v : Value} (h : ShOk base .b v) : ∃ x, v = .bool x := by simpa only [ShOk] using h

end Go.Proofs.YtdpbbppjjjhnoaaGreatDoor.D
