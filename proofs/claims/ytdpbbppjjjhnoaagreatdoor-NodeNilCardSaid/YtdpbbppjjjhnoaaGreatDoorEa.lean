/- The abstract machine "D": steps of a walk over a function's shallow form, as lemmas; typed memory of old. No statement of the seat is proved in this text. -/
import Derived.Test.YtdpbbppjjjhnoaaGreatDoorDz
set_option linter.unusedSimpArgs false
set_option linter.unusedVariables false
namespace Go.Proofs.YtdpbbppjjjhnoaaGreatDoor.D
open Go

theorem get_push_eq {H : Heap} {X : Blk} {b : Nat} (h : b = H.next) : (H.push X).get b = some X := by rw [Heap.get_push, if_pos h]
theorem get_push_ne {H : Heap} {X : Blk} {b : Nat} (h : b ≠ H.next) : (H.push X).get b = H.get b := by rw [Heap.get_push, if_neg h]
theorem get_set_eq {H : Heap} {X : Blk} {b : Nat} : (H.set b X).get b = some X := by rw [Heap.get_set, if_pos rfl]
theorem get_set_eq' {H : Heap} {X : Blk} {b c : Nat} (h : c = b) : (H.set b X).get c = some X := by rw [Heap.get_set, if_pos h]
theorem get_set_ne {H : Heap} {X : Blk} {b c : Nat} (h : c ≠ b) : (H.set b X).get c = H.get c := by rw [Heap.get_set, if_neg h]
theorem next_push {H : Heap} {X : Blk} : (H.push X).next = H.next + 1 := rfl
theorem next_set {H : Heap} {X : Blk} {b : Nat} : (H.set b X).next = H.next := rfl
theorem base_push {H : Heap} {X : Blk} : (H.push X).base = H.base := rfl
theorem base_set {H : Heap} {X : Blk} {b : Nat} : (H.set b X).base = H.base := rfl

/-- What a load of a row's cells gives. -/
def ldv (cs : List Value) (o n : Nat) (agg : Bool) : Option Value :=
  match takeN (cs.drop o) n with
  | some l => if agg then some (.agg ⟨l⟩) else (match l with | [v] => some v | _ => none)
  | none => none

def ldb (base : Nat → Nat → Option Value) (b o n : Nat) (agg : Bool) : Option Value :=
  match rdBase base b o n with
  | some l => if agg then some (.agg ⟨l⟩) else (match l with | [v] => some v | _ => none)
  | none => none

theorem wR_new {H : Heap} {b o n : Nat} {agg : Bool} {Q : Value → Prop} {cs : List Value} {e : Nat} {v : Value} (hb : H.get b = some (.row cs e)) (hv : ldv cs o n agg = some v) (q : Q v) :
    wR (.load n agg) [.pointer (some ⟨b, o, none⟩)] H Q := by
  refine ⟨v, ?_, q⟩
  simp only [readSem, Heap.cells, hb]
  exact hv

theorem wR_old {H : Heap} {b o n : Nat} {agg : Bool} {Q : Value → Prop} {v : Value} (hv : ldb H.base b o n agg = some v) (q : Q v) :
    wR (.load n agg) [.pointer (some ⟨b, o, some 0⟩)] H Q := ⟨v, hv, q⟩

theorem wE_store {H : Heap} {b o n : Nat} {Q : Value → Heap → Prop} {v : Value} {cs c cs' : List Value} {e : Nat} (hb : H.get b = some (.row cs e)) (hc : vcells v = some c) (hl : c.length = n)
    (hr : o + n ≤ cs.length) (ho : c.all oneC = true) (hs : splice cs o c = cs') (q : Q undef (H.set b (.row cs' e))) : wE (.store n) [.pointer (some ⟨b, o, none⟩), v] H Q := by
  subst hl
  refine ⟨undef, H.set b (.row cs' e), ?_, q⟩
  have e1 : H.store ⟨b, o, none⟩ c = some (H.set b (.row cs' e)) := by
    simp only [Heap.store, hb]
    rw [if_pos hr, if_pos ho, hs]
  simp only [effSem, hc]
  rw [if_pos trivial, e1]

theorem vcells_one {v : Value} (h : oneC v = true) : vcells v = some [v] := by
  cases v <;> first | rfl | (simp [oneC] at h)
theorem all_one {v : Value} (h : oneC v = true) : [v].all oneC = true := by simp [h]

theorem wE_app0 {H : Heap} {n bytes : Nat} {Q : Value → Heap → Prop} {s x : Value} {l : List Value} (hx : srcD n x H = some (0, l)) (hs : (∃ a k c, s = .slice a k c)) (q : Q s H) : wE (.app n bytes) [s, x] H Q := by
  obtain ⟨a, k, c, rfl⟩ := hs
  refine ⟨_, H, ?_, q⟩
  simp only [effSem, hx]
  unfold appD
  rw [if_pos rfl]

/-- Appended to nothing. -/
theorem wE_appNil {H : Heap} {n bytes k : Nat} {Q : Value → Heap → Prop} {x : Value} {l : List Value} (hx : srcD n x H = some (k, l)) (hk : k ≠ 0) (hr : roomD k bytes = true)
    (q : Q (.slice (some ⟨H.next, 0, some (n + 1)⟩) k 0) (H.push (.row l n))) : wE (.app n bytes) [.slice none 0 0, x] H Q := by
  refine ⟨_, _, ?_, q⟩
  simp only [effSem, hx]
  unfold appD
  rw [if_neg hk]
  simp only
  rw [if_pos hr]

/-- Appended to what was appended to. -/
theorem wE_appU {H : Heap} {b o n bytes len k : Nat} {Q : Value → Heap → Prop} {x : Value} {l cs : List Value} {e : Nat} (hx : srcD n x H = some (k, l)) (hk : k ≠ 0) (hb : H.get b = some (.row cs e)) (hl : o + len * n = cs.length) (hr : roomD (len + k) bytes = true) (ho : l.all oneC = true)
    (q : Q (.slice (some ⟨H.next, 0, some (n + 1)⟩) (len + k) 0) ((H.set b .dead).push (.row (cs.drop o ++ l) n))) : wE (.app n bytes) [.slice (some ⟨b, o, some (n + 1)⟩) len 0, x] H Q := by
  refine ⟨_, _, ?_, q⟩
  simp only [effSem, hx]
  unfold appD
  rw [if_neg hk]
  simp only [hb]
  rw [if_pos trivial, if_pos hl, if_pos hr, if_pos ho]

/-- Appended to a full slice that is no other's. -/
theorem wE_appFull {H : Heap} {b o n bytes len cap k : Nat} {Q : Value → Heap → Prop} {x : Value} {l old : List Value} (hx : srcD n x H = some (k, l)) (hk : k ≠ 0) (hc : cap < len + k) (hb : H.cells ⟨b, o, none⟩ (len * n) = some old) (hr : roomD (len + k) bytes = true)
    (q : Q (.slice (some ⟨H.next, 0, some (n + 1)⟩) (len + k) 0) (H.push (.row (old ++ l) n))) : wE (.app n bytes) [.slice (some ⟨b, o, none⟩) len cap, x] H Q := by
  refine ⟨_, _, ?_, q⟩
  simp only [effSem, hx]
  unfold appD
  rw [if_neg hk]
  simp only [hb]
  rw [if_neg (by omega), if_pos hr]

theorem srcD_new {H : Heap} {b o n len cap : Nat} {cs l : List Value} {e : Nat} (hb : H.get b = some (.row cs e)) (hl : takeN (cs.drop o) (len * n) = some l) (h0 : len ≠ 0) : srcD n (.slice (some ⟨b, o, none⟩) len cap) H = some (len, l) := by
  simp only [srcD, if_neg h0, toPtr, Heap.cells, hb, hl]

theorem srcD_u {H : Heap} {b o n m len cap : Nat} {cs l : List Value} {e : Nat} (hb : H.get b = some (.row cs e)) (hl : takeN (cs.drop o) (len * n) = some l) (h0 : len ≠ 0) : srcD n (.slice (some ⟨b, o, some (m + 1)⟩) len cap) H = some (len, l) := by
  simp only [srcD, if_neg h0, toPtr, Heap.cells, hb, hl]

theorem srcD_old {H : Heap} {b o n len cap : Nat} {l : List Value} (hl : rdBase H.base b o (len * n) = some l) (h0 : len ≠ 0) : srcD n (.slice (some ⟨b, o, some 0⟩) len cap) H = some (len, l) := by
  simp only [srcD, if_neg h0, toPtr, Heap.cells, hl]

theorem srcD_zero {H : Heap} {n cap : Nat} {a : Option Addr} : srcD n (.slice a 0 cap) H = some (0, []) := by
  cases a <;> simp [srcD]

theorem asB_both {c : Bool} {A B : Prop} (ha : c = true → A) (hb : c = false → B) : asB (.bool c) fun b => onB b A B := by
  cases c
  · exact hb rfl
  · exact ha rfl
theorem asB_tt {c : Bool} {A B : Prop} (h : c = true) (ha : A) : asB (.bool c) fun b => onB b A B := by subst h; exact ha
theorem asB_ff {c : Bool} {A B : Prop} (h : c = false) (hb : B) : asB (.bool c) fun b => onB b A B := by subst h; exact hb

theorem takeN_take : ∀ {n : Nat} {l : List Value}, n ≤ l.length → takeN l n = some (l.take n)
  | 0, l, h => by cases l <;> rfl
  | n + 1, [], h => by simp at h
  | n + 1, v :: l, h => by
    simp only [takeN]
    rw [takeN_take (n := n) (l := l) (by simpa using h)]
    rfl

theorem takeN_len : ∀ {n : Nat} {l r : List Value}, takeN l n = some r → r.length = n ∧ r = l.take n
  | 0, l, r, h => by cases l <;> (cases h; exact ⟨rfl, rfl⟩)
  | n + 1, [], r, h => by cases h
  | n + 1, v :: l, r, h => by
    simp only [takeN] at h
    split at h
    · cases h
    · rename_i r' hr
      cases h
      obtain ⟨h1, h2⟩ := takeN_len hr
      exact ⟨by simp [h1], by simp [h2]⟩

/-- A whole row written at once. -/
theorem splice_whole {cs vs : List Value} (h : vs.length = cs.length) : splice cs 0 vs = vs := by
  cases cs <;> simp [splice, h]

/-! ### How a heap goes on -/

/-- All blocks but those of M stay. -/
structure Keeps (H H' : Heap) (M : List Nat) : Prop where
  next : H.next ≤ H'.next
  base : H'.base = H.base
  get : ∀ b, b < H.next → b ∉ M → H'.get b = H.get b

theorem Keeps.refl {H : Heap} : Keeps H H [] := ⟨Nat.le_refl _, rfl, fun _ _ _ => rfl⟩
theorem Keeps.trans {H H1 H2 : Heap} {M N : List Nat} (h : Keeps H H1 M) (k : Keeps H1 H2 N) : Keeps H H2 (M ++ N) :=
  ⟨Nat.le_trans h.next k.next, k.base.trans h.base, fun b hb hm => by
    rw [List.mem_append] at hm
    rw [k.get b (Nat.lt_of_lt_of_le hb h.next) (fun h => hm (.inr h)), h.get b hb (fun h => hm (.inl h))]⟩
theorem Keeps.mono {H H' : Heap} {M N : List Nat} (h : Keeps H H' M) (hm : ∀ x ∈ M, x ∈ N ∨ H.next ≤ x) : Keeps H H' N :=
  ⟨h.next, h.base, fun b hb hn => h.get b hb fun hx => by
    rcases hm b hx with h1 | h1
    · exact hn h1
    · omega⟩
theorem Keeps.push {H : Heap} {X : Blk} : Keeps H (H.push X) [] := ⟨Nat.le_succ _, rfl, fun b hb _ => get_push_ne (by omega)⟩
theorem Keeps.set {H : Heap} {b : Nat} {X : Blk} : Keeps H (H.set b X) [b] := ⟨Nat.le_refl _, rfl, fun c hb hm => get_set_ne (by simpa using hm)⟩

/-- A block that is there. -/
structure At (H : Heap) (b : Nat) (X : Blk) : Prop where
  get : H.get b = some X
  lt : b < H.next

theorem At.keep {H H' : Heap} {M : List Nat} {b : Nat} {X : Blk} (h : At H b X) (k : Keeps H H' M) (hm : b ∉ M) : At H' b X := ⟨(k.get b h.lt hm).trans h.get, Nat.lt_of_lt_of_le h.lt k.next⟩
theorem At.ne {H : Heap} {b c : Nat} {X Y : Blk} (h : At H b X) (k : At H c Y) (e : X ≠ Y) : b ≠ c := fun hbc => by
  subst hbc
  have := h.get.symm.trans k.get
  exact e (by simpa using this)

theorem Keeps.refl' {H : Heap} {M : List Nat} : Keeps H H M := ⟨Nat.le_refl _, rfl, fun _ _ _ => rfl⟩
theorem Keeps.push' {H H1 : Heap} {M : List Nat} {X : Blk} (k : Keeps H H1 M) : Keeps H (H1.push X) M :=
  ⟨Nat.le_succ_of_le k.next, k.base, fun b hb hm => by rw [get_push_ne (by have := k.next; omega), k.get b hb hm]⟩
theorem Keeps.set' {H H1 : Heap} {M : List Nat} {b : Nat} {X : Blk} (k : Keeps H H1 M) (h : b ∈ M ∨ H.next ≤ b) : Keeps H (H1.set b X) M :=
  ⟨k.next, k.base, fun c hc hm => by
    rw [get_set_ne, k.get c hc hm]
    intro e
    subst e
    rcases h with h | h
    · exact hm h
    · omega⟩
theorem Keeps.comp {H Ha H1 : Heap} {M N : List Nat} (k : Keeps H Ha M) (k1 : Keeps Ha H1 N) (hn : ∀ x ∈ N, x ∈ M ∨ H.next ≤ x) : Keeps H H1 M :=
  (k.trans k1).mono fun x hx => by
    rcases List.mem_append.1 hx with h | h
    · exact .inl h
    · exact hn x h
theorem Keeps.comp0 {H Ha H1 : Heap} {M : List Nat} (k : Keeps H Ha M) (k1 : Keeps Ha H1 []) : Keeps H H1 M := k.comp k1 (by simp)

theorem Keeps.comp1 {H Ha H1 : Heap} {M : List Nat} (k1 : Keeps Ha H1 []) (k : Keeps H Ha M) : Keeps H H1 M := k.comp k1 (by simp)

theorem At.push {H : Heap} {b : Nat} {X Y : Blk} (h : At H b X) : At (H.push Y) b X := ⟨(get_push_ne (by have := h.lt; omega)).trans h.get, Nat.lt_succ_of_lt h.lt⟩
theorem At.new {H : Heap} {X : Blk} : At (H.push X) H.next X := ⟨get_push_eq rfl, Nat.lt_succ_self _⟩
theorem At.here {H : Heap} {b : Nat} {X Y : Blk} (h : At H b Y) : At (H.set b X) b X := ⟨get_set_eq, h.lt⟩
theorem At.set {H : Heap} {b c : Nat} {X Y : Blk} (hn : b ≠ c) (h : At H b X) : At (H.set c Y) b X := ⟨(get_set_ne hn).trans h.get, h.lt⟩
theorem At.keep1 {H H' : Heap} {b : Nat} {X : Blk} (k : Keeps H H' []) (h : At H b X) : At H' b X := h.keep k (by simp)
theorem At.keep0 {H H' : Heap} {b : Nat} {X : Blk} (h : At H b X) (k : Keeps H H' []) : At H' b X := h.keep k (by simp)

/-! ### Steps that only reckon -/

theorem wrap64 {n : Int} (h1 : -9223372036854775808 ≤ n) (h2 : n ≤ 9223372036854775807) : IntKind.i64.wrap n = n := by
  have e : IntKind.i64.wrap n = if n % 18446744073709551616 ≥ 9223372036854775808 then n % 18446744073709551616 - 18446744073709551616 else n % 18446744073709551616 := by
    unfold IntKind.wrap
    simp [IntKind.bits, IntKind.signed]
  rw [e]
  split <;> omega

theorem wP_add {a b : Int} {Q : Value → Prop} (h1 : -9223372036854775808 ≤ a + b) (h2 : a + b ≤ 9223372036854775807) (q : Q (.int .i64 (a + b))) : wP (.bin .add) [.int .i64 a, .int .i64 b] Q := by
  refine ⟨_, ?_, q⟩
  show some (Value.int .i64 (IntKind.i64.wrap (a + b))) = _
  rw [wrap64 h1 h2]
theorem wP_sub {a b : Int} {Q : Value → Prop} (h1 : -9223372036854775808 ≤ a - b) (h2 : a - b ≤ 9223372036854775807) (q : Q (.int .i64 (a - b))) : wP (.bin .sub) [.int .i64 a, .int .i64 b] Q := by
  refine ⟨_, ?_, q⟩
  show some (Value.int .i64 (IntKind.i64.wrap (a - b))) = _
  rw [wrap64 h1 h2]
theorem wP_iaddN {b o len cap n : Nat} {i : Int} {Q : Value → Prop} (h1 : 0 ≤ i) (h2 : i < len) (q : Q (.pointer (some ⟨b, o + i.toNat * n, none⟩))) : wP (.iaddS n) [.slice (some ⟨b, o, none⟩) len cap, .int .i64 i] Q := by
  refine ⟨_, ?_, q⟩
  show (if 0 ≤ i ∧ i < len then _ else _) = _
  rw [if_pos ⟨h1, h2⟩]
  rfl
theorem wP_iaddO {b o len cap n : Nat} {i : Int} {Q : Value → Prop} (h1 : 0 ≤ i) (h2 : i < len) (q : Q (.pointer (some ⟨b, o + i.toNat * n, some 0⟩))) : wP (.iaddS n) [.slice (some ⟨b, o, some 0⟩) len cap, .int .i64 i] Q := by
  refine ⟨_, ?_, q⟩
  show (if 0 ≤ i ∧ i < len then _ else _) = _
  rw [if_pos ⟨h1, h2⟩]
  rfl
theorem wP_iaddU {b o m len cap n : Nat} {i : Int} {Q : Value → Prop} (h1 : 0 ≤ i) (h2 : i < len) (q : Q (.pointer (some ⟨b, o + i.toNat * n, none⟩))) : wP (.iaddS n) [.slice (some ⟨b, o, some (m + 1)⟩) len cap, .int .i64 i] Q := by
  refine ⟨_, ?_, q⟩
  show (if 0 ≤ i ∧ i < len then _ else _) = _
  rw [if_pos ⟨h1, h2⟩]
  rfl

theorem wP_build {zero : List Value} {places : List (Nat × Nat)} {vs l : List Value} {Q : Value → Prop} (h : fillD zero places vs = some l) (q : Q (.agg ⟨l⟩)) : wP (.build zero places) vs Q := by
  refine ⟨_, ?_, q⟩
  show (match fillD zero places vs with | some l => some (Value.agg ⟨l⟩) | none => none) = _
  rw [h]
theorem wA_bslice {zero : List Value} {places : List (Nat × Nat)} {vs l : List Value} {n len : Nat} {H : Heap} {Q : Value → Heap → Prop} (h : fillD zero places vs = some l) (q : Q (.slice (some ⟨H.next, 0, none⟩) len len) (H.push (.row l n))) : wA (.bslice zero places n len) vs H Q := by
  refine ⟨.row l n, fun b => .slice (some ⟨b, 0, none⟩) len len, ?_, q⟩
  show (match fillD zero places vs with | some c => some (Blk.row c n, fun b => Value.slice (some ⟨b, 0, none⟩) len len) | none => none) = _
  rw [h]

theorem wP_conv64 {k : IntKind} {n : Int} {Q : Value → Prop} (h1 : -9223372036854775808 ≤ n) (h2 : n ≤ 9223372036854775807) (q : Q (.int .i64 n)) : wP (.conv .i64) [.int k n] Q := by
  refine ⟨_, ?_, q⟩
  show some (Value.int .i64 (IntKind.i64.wrap n)) = _
  rw [wrap64 h1 h2]
theorem wP_aggEq {neg r : Bool} {ks : List CK} {a b : List Value} {Q : Value → Prop} (h1 : a.length = ks.length) (h2 : b.length = ks.length) (h : eqCells ks a b = some r) (q : Q (.bool (cond neg (!r) r))) : wP (.aggEq neg ks) [.agg ⟨a⟩, .agg ⟨b⟩] Q := by
  refine ⟨_, ?_, q⟩
  show (if a.length = ks.length ∧ b.length = ks.length then (match eqCells ks a b with | some r => some (Value.bool (cond neg (!r) r)) | none => none) else none) = _
  rw [if_pos ⟨h1, h2⟩, h]
theorem rdBase_len {base : Nat → Nat → Option Value} {b : Nat} : ∀ {n o : Nat} {cs : List Value}, rdBase base b o n = some cs → cs.length = n
  | 0, o, cs, h => by cases h; rfl
  | n + 1, o, cs, h => by
    simp only [rdBase] at h
    split at h
    · cases h
    · split at h
      · cases h
      · rename_i l hl
        cases h
        simp [rdBase_len hl]
theorem ldb_agg {base : Nat → Nat → Option Value} {b o n : Nat} {cs : List Value} (h : rdBase base b o n = some cs) : ldb base b o n true = some (.agg ⟨cs⟩) := by
  unfold ldb
  rw [h]
  rfl
theorem ldb_one {base : Nat → Nat → Option Value} {b o : Nat} {v : Value} (h : rdBase base b o 1 = some [v]) : ldb base b o 1 false = some v := by
  unfold ldb
  rw [h]
  rfl

theorem wChk1_nil {c : Chk} {hs : List Heap} {A : Prop} (h : A) : wChk1 c hs [] A := h
theorem wChk_nil {hs : List Heap} {A : Prop} (h : A) : wChk hs [] A := h
theorem wP_mul {a b : Int} {Q : Value → Prop} (h1 : -9223372036854775808 ≤ a * b) (h2 : a * b ≤ 9223372036854775807) (q : Q (.int .i64 (a * b))) : wP (.bin .mul) [.int .i64 a, .int .i64 b] Q := by
  refine ⟨_, ?_, q⟩
  show some (Value.int .i64 (IntKind.i64.wrap (a * b))) = _
  rw [wrap64 h1 h2]


theorem wP_max {a b : Int} {Q : Value → Prop} (q : Q (.int .i64 (max a b))) : wP .max [.int .i64 a, .int .i64 b] Q := by
  refine ⟨_, ?_, q⟩
  show some (Value.int .i64 (cond true (if b > a then b else a) (if b < a then b else a))) = _
  simp only [cond_true]
  congr 2
  split <;> omega

theorem wP_remN {a : Int} {n : Nat} {Q : Value → Prop} (ha : 0 ≤ a) (hn : n ≠ 0) (q : Q (.int .i64 ((a.toNat % n : Nat) : Int))) : wP (.bin .rem) [.int .i64 a, .int .i64 (n : Int)] Q := by
  refine ⟨_, ?_, q⟩
  show (if (n : Int) = 0 then none else some (Value.int .i64 (a.tmod n))) = _
  rw [if_neg (by omega), Int.tmod_eq_emod_of_nonneg ha, Int.natCast_emod, Int.toNat_of_nonneg ha]

theorem id_wR {r : RI} {vs : List Value} {H : Heap} {Q : Value → Prop} (h : wR r vs H Q) : wR r vs H Q := h
theorem id_wP {p : PI} {vs : List Value} {Q : Value → Prop} (h : wP p vs Q) : wP p vs Q := h
theorem id_wA {a : AI} {vs : List Value} {H : Heap} {Q : Value → Heap → Prop} (h : wA a vs H Q) : wA a vs H Q := h
theorem id_wE {e : EI} {vs : List Value} {H : Heap} {Q : Value → Heap → Prop} (h : wE e vs H Q) : wE e vs H Q := h
theorem id_asB {v : Value} {K : Bool → Prop} (h : asB v K) : asB v K := h

theorem id_new {n b o : Nat} {agg : Bool} {H : Heap} {Q : Value → Prop} (h : wR (.load n agg) [.pointer (some ⟨b, o, none⟩)] H Q) : wR (.load n agg) [.pointer (some ⟨b, o, none⟩)] H Q := h
theorem id_newS {n b o : Nat} {v : Value} {H : Heap} {Q : Value → Heap → Prop} (h : wE (.store n) [.pointer (some ⟨b, o, none⟩), v] H Q) : wE (.store n) [.pointer (some ⟨b, o, none⟩), v] H Q := h

/-! ### The same steps, with what they ask for looked up -/

theorem atp {H : Heap} {b : Nat} {X : Blk} (h : At H b X := by (repeat' (first | assumption | exact At.new | apply At.here | apply At.push | (apply At.set; (· (first | assumption | omega | (simp only [next_push, next_set]; omega) | (intro h_; subst h_; omega) | (exact At.ne (by assumption) (by assumption) (by simp))))) | (apply At.keep1; (· assumption))))) : At H b X := h
theorem kp {H H' : Heap} {M : List Nat} (h : Keeps H H' M := by (repeat' (first | exact Keeps.refl' | apply Keeps.push' | (refine Keeps.set' ?_ (by first | exact Or.inr (by first | omega | (simp only [next_push, next_set]; omega)) | exact Or.inl (by simp))) | (apply Keeps.comp1; (· assumption))))) : Keeps H H' M := h
theorem xAdd {a b : Int} {Q : Value → Prop} (q : Q (.int .i64 (a + b))) (h1 : -9223372036854775808 ≤ a + b := by omega) (h2 : a + b ≤ 9223372036854775807 := by omega) : wP (.bin .add) [.int .i64 a, .int .i64 b] Q := wP_add h1 h2 q
theorem xSub {a b : Int} {Q : Value → Prop} (q : Q (.int .i64 (a - b))) (h1 : -9223372036854775808 ≤ a - b := by omega) (h2 : a - b ≤ 9223372036854775807 := by omega) : wP (.bin .sub) [.int .i64 a, .int .i64 b] Q := wP_sub h1 h2 q
theorem xMul {a b : Int} {Q : Value → Prop} (q : Q (.int .i64 (a * b))) (h1 : -9223372036854775808 ≤ a * b := by omega) (h2 : a * b ≤ 9223372036854775807 := by omega) : wP (.bin .mul) [.int .i64 a, .int .i64 b] Q := wP_mul h1 h2 q
theorem xConv {k : IntKind} {n : Int} {Q : Value → Prop} (q : Q (.int .i64 n)) (h1 : -9223372036854775808 ≤ n := by omega) (h2 : n ≤ 9223372036854775807 := by omega) : wP (.conv .i64) [.int k n] Q := wP_conv64 h1 h2 q
theorem xIaN {b o len cap n : Nat} {i : Int} {Q : Value → Prop} (q : Q (.pointer (some ⟨b, o + i.toNat * n, none⟩))) (h1 : 0 ≤ i := by omega) (h2 : i < len := by omega) : wP (.iaddS n) [.slice (some ⟨b, o, none⟩) len cap, .int .i64 i] Q := wP_iaddN h1 h2 q
theorem xIaO {b o len cap n : Nat} {i : Int} {Q : Value → Prop} (q : Q (.pointer (some ⟨b, o + i.toNat * n, some 0⟩))) (h1 : 0 ≤ i := by omega) (h2 : i < len := by omega) : wP (.iaddS n) [.slice (some ⟨b, o, some 0⟩) len cap, .int .i64 i] Q := wP_iaddO h1 h2 q
theorem xIaU {b o m len cap n : Nat} {i : Int} {Q : Value → Prop} (q : Q (.pointer (some ⟨b, o + i.toNat * n, none⟩))) (h1 : 0 ≤ i := by omega) (h2 : i < len := by omega) : wP (.iaddS n) [.slice (some ⟨b, o, some (m + 1)⟩) len cap, .int .i64 i] Q := wP_iaddU h1 h2 q
theorem xBuild {zero : List Value} {places : List (Nat × Nat)} {vs l : List Value} {Q : Value → Prop} (q : Q (.agg ⟨l⟩)) (h : fillD zero places vs = some l := by (simp only [fillD, vcells, splice, List.drop_succ_cons, List.drop_zero, List.drop_nil, List.length_cons, List.length_nil, List.cons_append, List.nil_append, Nat.reduceAdd, Nat.reduceLeDiff, Nat.reduceEqDiff, Nat.le_refl, ↓reduceIte]; rfl)) : wP (.build zero places) vs Q := wP_build h q
theorem xBsl {zero : List Value} {places : List (Nat × Nat)} {vs l : List Value} {n len : Nat} {H : Heap} {Q : Value → Heap → Prop} (q : Q (.slice (some ⟨H.next, 0, none⟩) len len) (H.push (.row l n))) (h : fillD zero places vs = some l := by (simp only [fillD, vcells, splice, List.drop_succ_cons, List.drop_zero, List.drop_nil, List.length_cons, List.length_nil, List.cons_append, List.nil_append, Nat.reduceAdd, Nat.reduceLeDiff, Nat.reduceEqDiff, Nat.le_refl, ↓reduceIte]; rfl)) : wA (.bslice zero places n len) vs H Q := wA_bslice h q
theorem xPure {p : PI} {vs : List Value} {v : Value} {Q : Value → Prop} (q : Q v) (h : pureSem p vs = some v := by rfl) : wP p vs Q := ⟨v, h, q⟩
theorem xRead {H : Heap} {b o n : Nat} {agg : Bool} {Q : Value → Prop} {cs : List Value} {e : Nat} {v : Value} (q : Q v) (hb : At H b (.row cs e) := by (repeat' (first | assumption | exact At.new | apply At.here | apply At.push | (apply At.set; (· (first | assumption | omega | (simp only [next_push, next_set]; omega) | (intro h_; subst h_; omega) | (exact At.ne (by assumption) (by assumption) (by simp))))) | (apply At.keep1; (· assumption))))) (hv : ldv cs o n agg = some v := by rfl) :
    wR (.load n agg) [.pointer (some ⟨b, o, none⟩)] H Q := wR_new hb.get hv q
theorem xAlloc {a : AI} {vs : List Value} {H : Heap} {Q : Value → Heap → Prop} {x : Blk} {f : Nat → Value} (q : Q (f H.next) (H.push x)) (h : allocSem a vs = some (x, f) := by rfl) : wA a vs H Q := ⟨x, f, h, q⟩
theorem xStore {H : Heap} {b o n : Nat} {Q : Value → Heap → Prop} {v : Value} {cs c cs' : List Value} {e : Nat} (q : Q undef (H.set b (.row cs' e))) (hb : At H b (.row cs e) := by (repeat' (first | assumption | exact At.new | apply At.here | apply At.push | (apply At.set; (· (first | assumption | omega | (simp only [next_push, next_set]; omega) | (intro h_; subst h_; omega) | (exact At.ne (by assumption) (by assumption) (by simp))))) | (apply At.keep1; (· assumption))))) (hc : vcells v = some c := by first | rfl | exact vcells_one (by assumption)) (hl : c.length = n := by rfl)
    (hr : o + n ≤ cs.length := by (simp only [List.length_cons, List.length_nil]; omega)) (ho : c.all oneC = true := by first | rfl | exact all_one (by assumption) | assumption) (hs : splice cs o c = cs' := by (simp only [Nat.zero_add, splice, List.drop_succ_cons, List.drop_zero, List.drop_nil, List.length_cons, List.length_nil, List.cons_append, List.nil_append, Nat.reduceAdd]; rfl)) : wE (.store n) [.pointer (some ⟨b, o, none⟩), v] H Q := wE_store hb.get hc hl hr ho hs q
theorem xTt {c : Bool} {A B : Prop} (ha : A) (h : c = true := by first | rfl | exact decide_eq_true (by omega)) : asB (.bool c) fun b => onB b A B := asB_tt h ha
theorem xFf {c : Bool} {A B : Prop} (hb : B) (h : c = false := by first | rfl | exact decide_eq_false (by omega)) : asB (.bool c) fun b => onB b A B := asB_ff h hb

end Go.Proofs.YtdpbbppjjjhnoaaGreatDoor.D
