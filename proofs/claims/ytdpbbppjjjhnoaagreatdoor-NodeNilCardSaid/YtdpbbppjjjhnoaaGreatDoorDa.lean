/- A deterministic abstract machine "D" over Go's code as the model has it: tries, heaps, values' relation to the model's values, the instructions and their meaning. No statement of the seat is proved in this text. -/
import Derived.Orders
import Derived.LoopN
import Derived.Below
import Derived.Laws.Cells
import Derived.Laws.IdiomCopy
namespace Go.Proofs.YtdpbbppjjjhnoaaGreatDoor.D
open Go

/-! ### Tries: finite maps from numbers, cheap to reckon with in the kernel -/

inductive Trie (α : Type) where
  | leaf
  | node (v : Option α) (l r : Trie α)

def Trie.get {α : Type} : Trie α → Nat → Option α
  | .leaf, _ => none
  | .node v l r, n => cond (Nat.beq n 0) v (cond (Nat.beq (Nat.mod n 2) 1) (l.get (Nat.div n 2)) (r.get (Nat.pred (Nat.div n 2))))

def Trie.put {α : Type} : Nat → Trie α → Nat → α → Trie α
  | 0, t, _, _ => t
  | k + 1, .leaf, n, x =>
    cond (Nat.beq n 0) (.node (some x) .leaf .leaf)
      (cond (Nat.beq (Nat.mod n 2) 1) (.node none (Trie.put k .leaf (Nat.div n 2) x) .leaf) (.node none .leaf (Trie.put k .leaf (Nat.pred (Nat.div n 2)) x)))
  | k + 1, .node v l r, n, x =>
    cond (Nat.beq n 0) (.node (some x) l r)
      (cond (Nat.beq (Nat.mod n 2) 1) (.node v (Trie.put k l (Nat.div n 2) x) r) (.node v l (Trie.put k r (Nat.pred (Nat.div n 2)) x)))

def Trie.set {α : Type} (t : Trie α) (n : Nat) (x : α) : Trie α := Trie.put (n + 1) t n x

theorem nbeq (a b : Nat) : Nat.beq a b = (a == b) := by
  rw [Bool.eq_iff_iff, Nat.beq_eq]; simp

theorem Trie.get_leaf {α : Type} (n : Nat) : (Trie.leaf : Trie α).get n = none := by
  unfold Trie.get; rfl

theorem Trie.get_node {α : Type} (v : Option α) (l r : Trie α) (n : Nat) :
    (Trie.node v l r).get n = if n = 0 then v else if n % 2 = 1 then l.get (n / 2) else r.get (n / 2 - 1) := by
  conv => lhs; unfold Trie.get
  simp only [nbeq]
  show cond (n == 0) v (cond ((n % 2) == 1) (l.get (n / 2)) (r.get (n / 2 - 1))) = _
  by_cases h0 : n = 0
  · simp [h0]
  · have hb : (n == 0) = false := by simp [h0]
    rw [hb, cond_false, if_neg h0]
    by_cases h1 : n % 2 = 1
    · have hb1 : ((n % 2) == 1) = true := by simp [h1]
      rw [hb1, cond_true, if_pos h1]
    · have hb1 : ((n % 2) == 1) = false := by simp [h1]
      rw [hb1, cond_false, if_neg h1]

theorem Trie.get_put {α : Type} : ∀ (k : Nat) (t : Trie α) (n m : Nat) (x : α), n < k → (Trie.put k t n x).get m = if m = n then some x else t.get m
  | 0, _, _, _, _, h => absurd h (Nat.not_lt_zero _)
  | k + 1, t, n, m, x, h => by
    have main : ∀ (v : Option α) (l r : Trie α), (cond (n == 0) (Trie.node (some x) l r) (cond ((n % 2) == 1) (.node v (Trie.put k l (n / 2) x) r) (.node v l (Trie.put k r (n / 2 - 1) x)))).get m
        = if m = n then some x else (Trie.node v l r).get m := by
      intro v l r
      by_cases h0 : n = 0
      · subst h0
        simp only [BEq.rfl, cond_true, Trie.get_node]
        by_cases hm : m = 0 <;> simp [hm]
      · have hb : (n == 0) = false := by simp [h0]
        rw [hb, cond_false]
        by_cases h1 : n % 2 = 1
        · have hb1 : ((n % 2) == 1) = true := by simp [h1]
          rw [hb1, cond_true, Trie.get_node, Trie.get_node, Trie.get_put k l (n / 2) (m / 2) x (by omega)]
          by_cases hm : m = 0
          · rw [if_pos hm, if_neg (by omega)]; simp [hm]
          · rw [if_neg hm]
            by_cases hm1 : m % 2 = 1
            · rw [if_pos hm1]
              by_cases e : m = n
              · rw [if_pos (by omega), if_pos e]
              · rw [if_neg (by omega), if_neg e, if_neg hm, if_pos hm1]
            · rw [if_neg hm1, if_neg (by omega), if_neg hm, if_neg hm1]
        · have hb1 : ((n % 2) == 1) = false := by simp [h1]
          rw [hb1, cond_false, Trie.get_node, Trie.get_node, Trie.get_put k r (n / 2 - 1) (m / 2 - 1) x (by omega)]
          by_cases hm : m = 0
          · rw [if_pos hm, if_neg (by omega)]; simp [hm]
          · rw [if_neg hm]
            by_cases hm1 : m % 2 = 1
            · rw [if_pos hm1, if_neg (by omega), if_neg hm, if_pos hm1]
            · rw [if_neg hm1]
              by_cases e : m = n
              · rw [if_pos (by omega), if_pos e]
              · rw [if_neg (by omega), if_neg e, if_neg hm, if_neg hm1]
    cases t with
    | leaf =>
      have hl := main none .leaf .leaf
      have e : (Trie.node none .leaf .leaf : Trie α).get m = (Trie.leaf : Trie α).get m := by simp [Trie.get_node, Trie.get_leaf]
      rw [e] at hl
      unfold Trie.put
      simp only [nbeq]
      exact hl
    | node v l r =>
      unfold Trie.put
      simp only [nbeq]
      exact main v l r

theorem Trie.get_set {α : Type} (t : Trie α) (n m : Nat) (x : α) : (t.set n x).get m = if m = n then some x else t.get m :=
  Trie.get_put (n + 1) t n m x (Nat.lt_succ_self n)

/-! ### Heaps -/

inductive Blk where
  | row (cells : List Value) (esz : Nat)
  | map (es : List MapEntry) (clock : Nat)
  | iter (s : ByteArray) (pos : Nat)
  | dead

/-- 'base': the memory that was there when the law was called (it is never written); 'tr': what has been made since. -/
structure Heap where
  base : Nat → Nat → Option Value
  tr : Trie Blk
  next : Nat

def Heap.get (H : Heap) (b : Nat) : Option Blk := H.tr.get b
def Heap.set (H : Heap) (b : Nat) (x : Blk) : Heap := { base := H.base, tr := H.tr.set b x, next := H.next }
def Heap.push (H : Heap) (x : Blk) : Heap := { base := H.base, tr := H.tr.set H.next x, next := H.next + 1 }

theorem Heap.get_set (H : Heap) (b c : Nat) (x : Blk) : (H.set b x).get c = if c = b then some x else H.get c := Trie.get_set _ _ _ _
theorem Heap.get_push (H : Heap) (c : Nat) (x : Blk) : (H.push x).get c = if c = H.next then some x else H.get c := Trie.get_set _ _ _ _

/-- An address n cells on. The mark of the zone (spot: none: made since; some 0: of old; some (k + 1): of a slice of elements of k cells whose capacity is not known) stays. -/
def aadd (a : Addr) (n : Nat) : Addr := { block := a.block, off := a.off + n, spot := a.spot }

/-- The address of a slice's first cell, as a pointer has it. -/
def toPtr (a : Addr) : Addr := match a.spot with | some (_ + 1) => { block := a.block, off := a.off, spot := none } | _ => a

def rdBase (base : Nat → Nat → Option Value) (b : Nat) : Nat → Nat → Option (List Value)
  | _, 0 => some []
  | o, n + 1 => match base b o with
    | none => none
    | some v => match rdBase base b (o + 1) n with
      | none => none
      | some l => some (v :: l)

/-- The n first of a list, if there are as many. -/
def takeN : List Value → Nat → Option (List Value)
  | _, 0 => some []
  | [], _ + 1 => none
  | v :: l, n + 1 => match takeN l n with
    | none => none
    | some r => some (v :: r)

def Heap.cells (H : Heap) (a : Addr) (n : Nat) : Option (List Value) :=
  match a.spot with
  | none => match H.get a.block with
    | some (.row cs _) => takeN (cs.drop a.off) n
    | _ => none
  | some 0 => rdBase H.base a.block a.off n
  | some (_ + 1) => none

def splice : List Value → Nat → List Value → List Value
  | cs, 0, vs => vs ++ cs.drop vs.length
  | [], _ + 1, _ => []
  | c :: cs, o + 1, vs => c :: splice cs o vs

/-- The mark of an operation that was passed by. -/
def skipV : Value := .chan none

/-- The value of one cell: no struct, no array, no tuple (and no mark). -/
def oneC : Value → Bool
  | .agg _ | .tuple _ | .chan _ => false
  | _ => true

def Heap.store (H : Heap) (a : Addr) (vs : List Value) : Option Heap :=
  match a.spot with
  | none => match H.get a.block with
    | some (.row cs e) => if a.off + vs.length ≤ cs.length then (if vs.all oneC then some (H.set a.block (.row (splice cs a.off vs) e)) else none) else none
    | _ => none
  | some _ => none

/-! ### How abstract values stand to the model's -/

/-- Where an abstract block lies: the real block, how many cells further on, cells of an element, cells of the real block. -/
structure Info where
  rb : Nat
  dl : Nat
  esz : Nat
  size : Nat

abbrev Inj := Nat → Option Info

def Inj.le (j j' : Inj) : Prop := ∀ b i, j b = some i → j' b = some i
theorem Inj.le_refl (j : Inj) : Inj.le j j := fun _ _ h => h
theorem Inj.le_trans {a b c : Inj} (h : Inj.le a b) (k : Inj.le b c) : Inj.le a c := fun x i e => k x i (h x i e)

inductive ARel (n0 : Nat) (j : Inj) : Addr → Addr → Prop where
  | new (b o : Nat) (i : Info) (h : j b = some i) : ARel n0 j ⟨b, o, none⟩ ⟨i.rb, o + i.dl, none⟩
  | old (b o : Nat) (h : b < n0) : ARel n0 j ⟨b, o, some 0⟩ ⟨b, o, none⟩

inductive VRel (n0 : Nat) (j : Inj) : Value → Value → Prop where
  | undef (v : Value) : VRel n0 j undef v
  | skip : VRel n0 j (.chan none) undef
  | bool (b : Bool) : VRel n0 j (.bool b) (.bool b)
  | int (k : IntKind) (n : Int) : VRel n0 j (.int k n) (.int k n)
  | string (s : ByteArray) : VRel n0 j (.string s) (.string s)
  | nilPtr : VRel n0 j (.pointer none) (.pointer none)
  | ptr (a a' : Addr) (h : ARel n0 j a a') : VRel n0 j (.pointer (some a)) (.pointer (some a'))
  | nilSlice : VRel n0 j (.slice none 0 0) (.slice none 0 0)
  | slice (a a' : Addr) (len cap : Nat) (h : ARel n0 j a a') (hl : len ≤ cap) : VRel n0 j (.slice (some a) len cap) (.slice (some a') len cap)
  | slice0 (a' : Addr) : VRel n0 j (.slice (some ⟨0, 0, some 0⟩) 0 0) (.slice (some a') 0 0)
  | uslice (b o len cap' : Nat) (a' : Addr) (i : Info) (h : j b = some i) (hl : len ≤ cap') (ha : cap' = 0 ∨ (a' = ⟨i.rb, o + i.dl, none⟩ ∧ o + i.dl + cap' * i.esz ≤ i.size)) :
      VRel n0 j (.slice (some ⟨b, o, some (i.esz + 1)⟩) len 0) (.slice (some a') len cap')
  | nilMap : VRel n0 j (.map none) (.map none)
  | map (b : Nat) (i : Info) (h : j b = some i) : VRel n0 j (.map (some b)) (.map (some i.rb))
  | nilFunc : VRel n0 j .nilFunc .nilFunc
  | func (fn : Fn) (f c f' c' : Array Value) (hf : f.size = f'.size) (hc : c.size = c'.size) (h1 : ∀ (k : Nat) v v', f[k]? = some v → f'[k]? = some v' → VRel n0 j v v')
      (h2 : ∀ (k : Nat) v v', c[k]? = some v → c'[k]? = some v' → VRel n0 j v v') : VRel n0 j (.func fn f c) (.func fn f' c')
  | nilIface : VRel n0 j .nilIface .nilIface
  | iface (t : TypeId) (v v' : Value) (h : VRel n0 j v v') : VRel n0 j (.iface t v) (.iface t v')
  | agg (c c' : Array Value) (hs : c.size = c'.size) (h : ∀ (k : Nat) v v', c[k]? = some v → c'[k]? = some v' → VRel n0 j v v') : VRel n0 j (.agg c) (.agg c')
  | tuple (c c' : Array Value) (hs : c.size = c'.size) (h : ∀ (k : Nat) v v', c[k]? = some v → c'[k]? = some v' → VRel n0 j v v') : VRel n0 j (.tuple c) (.tuple c')

theorem ARel.mono {n0 : Nat} {j j' : Inj} (h : Inj.le j j') {a a' : Addr} (r : ARel n0 j a a') : ARel n0 j' a a' := by
  cases r with
  | new b o i hb => exact .new b o i (h _ _ hb)
  | old b o hb => exact .old b o hb

theorem VRel.mono {n0 : Nat} {j j' : Inj} (h : Inj.le j j') {v v' : Value} (r : VRel n0 j v v') : VRel n0 j' v v' := by
  induction r with
  | undef v => exact .undef v
  | skip => exact .skip
  | bool b => exact .bool b
  | int k n => exact .int k n
  | string s => exact .string s
  | nilPtr => exact .nilPtr
  | ptr a a' r => exact .ptr a a' (r.mono h)
  | nilSlice => exact .nilSlice
  | slice a a' len cap r hl => exact .slice a a' len cap (r.mono h) hl
  | slice0 a' => exact .slice0 a'
  | uslice b o len cap' a' i hb hl ha => exact .uslice b o len cap' a' i (h _ _ hb) hl ha
  | nilMap => exact .nilMap
  | map b i hb => exact .map b i (h _ _ hb)
  | nilFunc => exact .nilFunc
  | func fn f c f' c' hf hc _ _ ih1 ih2 => exact .func fn f c f' c' hf hc ih1 ih2
  | nilIface => exact .nilIface
  | iface t v v' _ ih => exact .iface t v v' ih
  | agg c c' hs _ ih => exact .agg c c' hs ih
  | tuple c c' hs _ ih => exact .tuple c c' hs ih

/-- Lists of values, one by one. -/
def LRel (n0 : Nat) (j : Inj) (l l' : List Value) : Prop := l.length = l'.length ∧ ∀ (k : Nat) v v', l[k]? = some v → l'[k]? = some v' → VRel n0 j v v'

theorem LRel.nil {n0 : Nat} {j : Inj} : LRel n0 j [] [] := ⟨rfl, by simp⟩

theorem LRel.cons {n0 : Nat} {j : Inj} {v v' : Value} {l l' : List Value} (h : VRel n0 j v v') (t : LRel n0 j l l') : LRel n0 j (v :: l) (v' :: l') := by
  refine ⟨by simp [t.1], fun k x x' hx hx' => ?_⟩
  cases k with
  | zero => simp at hx hx'; subst hx; subst hx'; exact h
  | succ k => exact t.2 k x x' (by simpa using hx) (by simpa using hx')

theorem LRel.uncons {n0 : Nat} {j : Inj} {v : Value} {l l' : List Value} (h : LRel n0 j (v :: l) l') : ∃ v' t, l' = v' :: t ∧ VRel n0 j v v' ∧ LRel n0 j l t := by
  cases l' with
  | nil => have := h.1; simp at this
  | cons v' t => exact ⟨v', t, rfl, h.2 0 v v' rfl rfl, ⟨by have := h.1; simpa using this, fun k x x' hx hx' => h.2 (k + 1) x x' (by simpa using hx) (by simpa using hx')⟩⟩

theorem LRel.nil_inv {n0 : Nat} {j : Inj} {l' : List Value} (h : LRel n0 j [] l') : l' = [] := by
  have := h.1
  cases l' with
  | nil => rfl
  | cons => simp at this

theorem LRel.mono {n0 : Nat} {j j' : Inj} (h : Inj.le j j') {l l' : List Value} (r : LRel n0 j l l') : LRel n0 j' l l' := ⟨r.1, fun k v v' a b => (r.2 k v v' a b).mono h⟩

theorem LRel.append {n0 : Nat} {j : Inj} {a a' b b' : List Value} (h : LRel n0 j a a') (k : LRel n0 j b b') : LRel n0 j (a ++ b) (a' ++ b') := by
  refine ⟨by simp [h.1, k.1], fun i v v' hv hv' => ?_⟩
  have hl := h.1
  by_cases hi : i < a.length
  · rw [List.getElem?_append_left hi] at hv; rw [List.getElem?_append_left (by omega)] at hv'; exact h.2 i v v' hv hv'
  · rw [List.getElem?_append_right (by omega)] at hv; rw [List.getElem?_append_right (by omega)] at hv'; rw [← hl] at hv'; exact k.2 _ v v' hv hv'

theorem LRel.drop {n0 : Nat} {j : Inj} {a a' : List Value} (n : Nat) (h : LRel n0 j a a') : LRel n0 j (a.drop n) (a'.drop n) :=
  ⟨by simp [h.1], fun k v v' hv hv' => h.2 (n + k) v v' (by simpa using hv) (by simpa using hv')⟩

theorem LRel.take {n0 : Nat} {j : Inj} {a a' : List Value} (n : Nat) (h : LRel n0 j a a') : LRel n0 j (a.take n) (a'.take n) :=
  ⟨by simp [h.1], fun k v v' hv hv' => by
    rw [List.getElem?_take] at hv hv'
    by_cases hk : k < n <;> simp [hk] at hv hv'
    exact h.2 k v v' hv hv'⟩

theorem LRel.get {n0 : Nat} {j : Inj} {a a' : List Value} (h : LRel n0 j a a') {k : Nat} {v : Value} (hv : a[k]? = some v) : ∃ v', a'[k]? = some v' ∧ VRel n0 j v v' := by
  obtain ⟨hk, _⟩ := List.getElem?_eq_some_iff.1 hv
  have hk' : k < a'.length := by have := h.1; omega
  exact ⟨a'[k], List.getElem?_eq_getElem hk', h.2 k v _ hv (List.getElem?_eq_getElem hk')⟩

theorem LRel.agg {n0 : Nat} {j : Inj} {c c' : Array Value} (h : LRel n0 j c.toList c'.toList) : VRel n0 j (.agg c) (.agg c') :=
  .agg c c' (by simpa using h.1) fun k v v' hv hv' => h.2 k v v' (by simpa using hv) (by simpa using hv')

theorem LRel.tuple {n0 : Nat} {j : Inj} {c c' : Array Value} (h : LRel n0 j c.toList c'.toList) : VRel n0 j (.tuple c) (.tuple c') :=
  .tuple c c' (by simpa using h.1) fun k v v' hv hv' => h.2 k v v' (by simpa using hv) (by simpa using hv')

theorem LRel.of_arr {n0 : Nat} {j : Inj} {c c' : Array Value} (hs : c.size = c'.size) (h : ∀ (k : Nat) v v', c[k]? = some v → c'[k]? = some v' → VRel n0 j v v') : LRel n0 j c.toList c'.toList :=
  ⟨by simpa using hs, fun k v v' hv hv' => h k v v' (by simpa using hv) (by simpa using hv')⟩

theorem VRel.oneC {n0 : Nat} {j : Inj} {v v' : Value} (h : VRel n0 j v v') (ho : D.oneC v = true) : D.oneC v' = true := by
  cases h <;> first | rfl | exact ho | (simp [Go.undef, D.oneC] at ho; done)

end Go.Proofs.YtdpbbppjjjhnoaaGreatDoor.D
