/- The abstract machine "D": the instructions that write memory: their meaning, and which operations they stand for. No statement of the seat is proved in this text. -/
import Derived.Test.YtdpbbppjjjhnoaaGreatDoorDk
set_option linter.unusedSimpArgs false
set_option linter.unusedVariables false
namespace Go.Proofs.YtdpbbppjjjhnoaaGreatDoor.D
open Go

inductive EI where
  | store (n : Nat)
  | mupd (kk : KK) | mentry (kk : KK) (zero : Value) | estore | del (kk : KK)
  | app (n bytes : Nat) | copy (n : Nat) | clear (n : Nat) (zero : List Value)
  | snext

def modD : List MapEntry → Nat → (MapEntry → MapEntry) → List MapEntry
  | [], _, _ => []
  | e :: es, 0, f => f e :: es
  | e :: es, i + 1, f => e :: modD es i f

def eraseD : List MapEntry → Nat → List MapEntry
  | [], _ => []
  | _ :: es, 0 => es
  | e :: es, i + 1 => e :: eraseD es i

def bornD (st : Int) : List MapEntry → Nat → Option Nat
  | [], _ => none
  | e :: es, i => if (e.born : Int) = st then some i else bornD st es (i + 1)

/-- What is appended, or copied: how many elements, and their cells. -/
def srcD (n : Nat) (x : Value) (H : Heap) : Option (Nat × List Value) :=
  match x with
  | .slice none _ _ => some (0, [])
  | .slice (some a) len _ => if len = 0 then some (0, []) else (match H.cells (toPtr a) (len * n) with | some l => some (len, l) | none => none)
  | .string s => if n = 1 then some (s.size, s.data.toList.map fun b => .int .u8 b.toNat) else none
  | _ => none

def roomD (need bytes : Nat) : Bool := Nat.ble ((2 * need + 512) * bytes) 281474976710656

def appD (n bytes : Nat) (s : Value) (k : Nat) (new : List Value) (H : Heap) : Option (Value × Heap) :=
  if k = 0 then (match s with | .slice _ _ _ => some (s, H) | _ => none) else
  match s with
  | .slice none 0 0 => if roomD k bytes then some (.slice (some ⟨H.next, 0, some (n + 1)⟩) k 0, H.push (.row new n)) else none
  | .slice (some a) len cap => match a.spot with
    | some (e + 1) => if e = n then (match H.get a.block with
      | some (.row cells _) => if a.off + len * n = cells.length then (if roomD (len + k) bytes then (if new.all oneC then
          some (.slice (some ⟨H.next, 0, some (n + 1)⟩) (len + k) 0, (H.set a.block .dead).push (.row (cells.drop a.off ++ new) n)) else none) else none) else none
      | _ => none) else none
    | _ => if len + k ≤ cap then (match H.store (aadd a (len * n)) new with | some H' => some (.slice (some a) (len + k) cap, H') | none => none)
      else if roomD (len + k) bytes then (match H.cells a (len * n) with
        | some old => some (.slice (some ⟨H.next, 0, some (n + 1)⟩) (len + k) 0, H.push (.row (old ++ new) n))
        | none => none) else none
  | _ => none

def effSem : EI → List Value → Heap → Option (Value × Heap)
  | .store n, [.pointer (some a), v], H => match vcells v with
    | some c => if c.length = n then (match H.store a c with | some H' => some (undef, H') | none => none) else none
    | none => none
  | .mupd kk, [.map (some b), k, v], H => if keyOk kk k then (match H.get b with
    | some (.map es ck) => (match findD kk k es 0 with
      | some (some (i, _)) => some (undef, H.set b (.map (modD es i fun e => { e with key := k, val := v }) ck))
      | some none => some (undef, H.set b (.map (es ++ [{ key := k, val := v, born := ck }]) (ck + 1)))
      | none => none)
    | _ => none) else none
  | .mentry kk zero, [.map (some b), k], H => if keyOk kk k then (match H.get b with
    | some (.map es ck) => (match findD kk k es 0 with
      | some (some (i, v)) => some (.tuple #[v, goInt (((es[i]?).map (·.born)).getD 0)], H.set b (.map (modD es i fun e => { e with key := k }) ck))
      | some none => some (.tuple #[zero, goInt ck], H.set b (.map (es ++ [{ key := k, val := zero, born := ck }]) (ck + 1)))
      | none => none)
    | _ => none) else none
  | .estore, [.map (some b), .int _ st, v], H => match H.get b with
    | some (.map es ck) => (match bornD st es 0 with
      | some i => some (undef, H.set b (.map (modD es i fun e => { e with val := v }) ck))
      | none => none)
    | _ => none
  | .del kk, [.map none, k], H => if keyOk kk k then some (undef, H) else none
  | .del kk, [.map (some b), k], H => if keyOk kk k then (match H.get b with
    | some (.map es ck) => (match findD kk k es 0 with
      | some (some (i, _)) => some (undef, H.set b (.map (eraseD es i) ck))
      | some none => some (undef, H)
      | none => none)
    | _ => none) else none
  | .app n bytes, [s, x], H => match srcD n x H with
    | some (k, new) => appD n bytes s k new H
    | none => none
  | .copy n, [.slice d dl _, x], H => match srcD n x H with
    | some (k, new) => if Nat.min k dl = 0 then some (goInt 0, H) else (match d with
      | some a => (match H.store (toPtr a) (new.take (Nat.min k dl * n)) with | some H' => some (goInt (Nat.min k dl), H') | none => none)
      | none => none)
    | none => none
  | .clear n zero, [.slice d len _], H => if len = 0 then some (undef, H) else (match d with
      | some a => (match H.store (toPtr a) (tile zero (len * n)) with | some H' => some (undef, H') | none => none)
      | none => none)
  | .snext, [.pointer (some ⟨b, 0, none⟩)], H => match H.get b with
    | some (.iter s pos) => if pos < s.size then
        some (.tuple #[.bool true, goInt pos, .int .i32 (Utf8.decode s pos).1], H.set b (.iter s (pos + (Utf8.decode s pos).2)))
      else some (.tuple #[.bool false], H)
    | _ => none
  | _, _, _ => none

def compileEff (P : Program) (o : Oper) : Option (EI × List Operand) :=
  match o.op with
  | .store t a v => match P.info? t with
    | some i => some (.store i.size, [a, v])
    | none => none
  | .mapUpdate t m k v | .insert t m k v => match P.underlying t with
    | some (.map kt _) => (match keyKind P kt with | some kk => some (.mupd kk, [m, k, v]) | none => none)
    | _ => none
  | .mapEntry t m k => match P.underlying t with
    | some (.map kt et) => (match keyKind P kt, (P.info? et).bind (·.zero) with
      | some kk, some z => if cst z then some (.mentry kk z, [m, k]) else none
      | _, _ => none)
    | _ => none
  | .entryStore _ m s v => some (.estore, [m, s, v])
  | .next it isString => if isString then some (.snext, [it]) else none
  | .call { callee := .builtin .delete, args, argTypes } => match args.toList, argTypes.toList with
    | [m, k], [t, _] => (match P.underlying t with
      | some (.map kt _) => (match keyKind P kt with | some kk => some (.del kk, [m, k]) | none => none)
      | _ => none)
    | _, _ => none
  | .call { callee := .builtin .append, args, argTypes } => match args.toList, argTypes.toList with
    | [s, x], [t, u] => (match P.underlying t, P.underlying u with
      | some (.slice e), some (.slice _) => (match P.info? e with
        | some i => (match i.zero with
          | some z => if z.cells.size == i.size && decide (0 < i.size) && decide (0 < i.bytes) then some (.app i.size i.bytes, [s, x]) else none
          | none => none)
        | none => none)
      | some (.slice e), some .string => (match P.info? e with
        | some i => (match i.zero with
          | some z => if z.cells.size == i.size && decide (0 < i.size) && decide (0 < i.bytes) then some (.app i.size i.bytes, [s, x]) else none
          | none => none)
        | none => none)
      | _, _ => none)
    | _, _ => none
  | .call { callee := .builtin .copy, args, argTypes } => match args.toList, argTypes.toList with
    | [d, x], [t, _] => (match P.underlying t with
      | some (.slice e) => (match P.info? e with | some i => if 0 < i.size then some (.copy i.size, [d, x]) else none | none => none)
      | _ => none)
    | _, _ => none
  | .call { callee := .builtin .clear, args, argTypes } => match args.toList, argTypes.toList with
    | [s], [t] => (match P.underlying t with
      | some (.slice e) => (match P.info? e with
        | some i => (match i.zero with
          | some z => if z.cells.toList.all cst1 && z.cells.size == i.size && decide (0 < i.size) then some (.clear i.size z.cells.toList, [s]) else none
          | none => none)
        | none => none)
      | _ => none)
    | _, _ => none
  | _ => none

/-! ### Lists of entries -/

theorem modD_get : ∀ (es : List MapEntry) (i k : Nat) (f : MapEntry → MapEntry), (modD es i f)[k]? = if k = i then (es[k]?).map f else es[k]?
  | [], i, k, f => by simp [modD]
  | e :: es, 0, 0, f => by simp [modD]
  | e :: es, 0, k + 1, f => by simp [modD]
  | e :: es, i + 1, 0, f => by simp [modD]
  | e :: es, i + 1, k + 1, f => by simp [modD, modD_get es i k f]

theorem modD_length : ∀ (es : List MapEntry) (i : Nat) (f : MapEntry → MapEntry), (modD es i f).length = es.length
  | [], _, _ => rfl
  | _ :: _, 0, _ => rfl
  | _ :: es, i + 1, f => by simp [modD, modD_length es i f]

theorem eraseD_eq : ∀ (es : List MapEntry) (i : Nat), eraseD es i = es.eraseIdx i
  | [], _ => rfl
  | _ :: _, 0 => rfl
  | e :: es, i + 1 => by simp [eraseD, eraseD_eq es i]

theorem ERel.mod {n0 : Nat} {j : Inj} {es : List MapEntry} {es' : Array MapEntry} (h : ERel n0 j es es'.toList) (i : Nat) (f f' : MapEntry → MapEntry)
    (hf : ∀ e e', es[i]? = some e → es'[i]? = some e' → VRel n0 j (f e).key (f' e').key ∧ VRel n0 j (f e).val (f' e').val ∧ (f e).born = (f' e').born) : ERel n0 j (modD es i f) (es'.modify i f').toList := by
  refine ⟨by rw [modD_length, h.1]; simp, fun k e e' hk hk' => ?_⟩
  rw [modD_get] at hk
  rw [Array.getElem?_toList, Array.getElem?_modify] at hk'
  by_cases hki : k = i
  · subst hki
    rw [if_pos rfl] at hk hk'
    cases h1 : es[k]? with
    | none => rw [h1] at hk; simp at hk
    | some a =>
      cases h2 : es'[k]? with
      | none => rw [h2] at hk'; simp at hk'
      | some b =>
        rw [h1] at hk; rw [h2] at hk'
        simp at hk hk'
        subst hk; subst hk'
        exact hf a b h1 h2
  · rw [if_neg hki] at hk
    rw [if_neg (fun e => hki e.symm)] at hk'
    exact h.2 k e e' hk (by simpa using hk')

theorem ERel.snoc {n0 : Nat} {j : Inj} {es : List MapEntry} {es' : Array MapEntry} (h : ERel n0 j es es'.toList) {e e' : MapEntry} (he : VRel n0 j e.key e'.key ∧ VRel n0 j e.val e'.val ∧ e.born = e'.born) :
    ERel n0 j (es ++ [e]) (es'.push e').toList := by
  have hl := h.1
  refine ⟨by simp [hl], fun k a b hk hk' => ?_⟩
  rw [Array.toList_push] at hk'
  by_cases hlt : k < es.length
  · rw [List.getElem?_append_left hlt] at hk
    rw [List.getElem?_append_left (by omega)] at hk'
    exact h.2 k a b hk hk'
  · rw [List.getElem?_append_right (by omega)] at hk
    rw [List.getElem?_append_right (by omega), ← hl] at hk'
    have h0 : k - es.length = 0 := by
      obtain ⟨h3, _⟩ := List.getElem?_eq_some_iff.1 hk
      simp at h3; omega
    rw [h0] at hk hk'
    simp at hk hk'
    subst hk; subst hk'
    exact he

theorem ERel.erase {n0 : Nat} {j : Inj} {es : List MapEntry} {es' : Array MapEntry} (h : ERel n0 j es es'.toList) (i : Nat) (hi : i < es.length) : ERel n0 j (eraseD es i) (es'.eraseIdxIfInBounds i).toList := by
  have hl := h.1
  have hi' : i < es'.size := by simp at hl; omega
  have e1 : (es'.eraseIdxIfInBounds i).toList = es'.toList.eraseIdx i := by
    simp [Array.eraseIdxIfInBounds, hi']
  rw [eraseD_eq, e1]
  refine ⟨by rw [List.length_eraseIdx, List.length_eraseIdx, hl], fun k a b hk hk' => ?_⟩
  rw [List.getElem?_eraseIdx] at hk hk'
  by_cases hk0 : k < i
  · rw [if_pos hk0] at hk hk'; exact h.2 k a b hk hk'
  · rw [if_neg hk0] at hk hk'; exact h.2 _ a b hk hk'

theorem findD_lt {kk : KK} {k : Value} : ∀ {es : List MapEntry} {i q : Nat} {v : Value}, findD kk k es i = some (some (q, v)) → i ≤ q ∧ q < i + es.length ∧ ∃ e, es[q - i]? = some e ∧ keyEq kk k e.key = some true
  | [], i, q, v, h => by simp [findD] at h
  | e :: es, i, q, v, h => by
    simp only [findD] at h
    split at h
    · rename_i hq
      simp only [Option.some.injEq, Prod.mk.injEq] at h
      obtain ⟨rfl, rfl⟩ := h
      exact ⟨Nat.le_refl _, by simp, e, by simp, hq⟩
    · obtain ⟨h1, h2, e', h3, h4⟩ := findD_lt h
      refine ⟨by omega, by simp; omega, e', ?_, h4⟩
      rw [show q - i = (q - (i + 1)) + 1 by omega, List.getElem?_cons_succ]; exact h3
    · cases h

theorem sameBits1 {k : CK} {a b : Value} (n : Nat) (h : eq1 k a b = some true) : Instr.sameBits n b a = true := by
  cases a <;> cases b <;> cases k <;> simp only [eq1] at h <;> first | (cases h; done) | skip
  · simp at h; subst h; cases n <;> simp [Instr.sameBits]
  · split at h
    · rename_i hk; subst hk; simp at h; subst h; cases n <;> simp [Instr.sameBits]
    · cases h
  · rename_i s t
    have e : s.toList = t.toList := by simpa using h
    have e2 : (t == s) = true := by rw [beq_toListBytes, e]; simp
    cases n <;> simp [Instr.sameBits, e2]

theorem sameBitsL (n : Nat) : ∀ {ks : List CK} {a b : List Value}, eqCells ks a b = some true → (b.zip a).all (fun (x, y) => Instr.sameBits n x y) = true
  | [], [], [], _ => rfl
  | [], [], _ :: _, h => by simp [eqCells] at h
  | [], _ :: _, _, h => by simp [eqCells] at h
  | _ :: _, [], _, h => by simp [eqCells] at h
  | _ :: _, _ :: _, [], h => by simp [eqCells] at h
  | k :: ks, x :: a, y :: b, h => by
    simp only [eqCells] at h
    split at h
    · rename_i hq
      simp [sameBits1 n hq, sameBitsL n h]
    · rename_i hne
      exact absurd h hne

theorem sameBits_keyEq {kk : KK} {a b : Value} (n : Nat) (h : keyEq kk a b = some true) : Instr.sameBits (n + 1) b a = true := by
  cases kk with
  | one k => exact sameBits1 (n + 1) h
  | agg ks =>
    cases a <;> simp only [keyEq] at h <;> first | (cases h; done) | skip
    cases b <;> simp only [keyEq] at h <;> first | (cases h; done) | skip
    split at h
    · rename_i hs
      simp only [Instr.sameBits, Bool.and_eq_true, beq_iff_eq]
      refine ⟨by omega, ?_⟩
      have := sameBitsL n h
      simpa using this
    · cases h

theorem bornD_rel {n0 : Nat} {j : Inj} (st : Int) : ∀ {es es' : List MapEntry} {i r : Nat}, ERel n0 j es es' → bornD st es i = some r → i ≤ r ∧ es'.findIdx? (fun e => (e.born : Int) == st) = some (r - i)
  | [], es', i, r, hE, h => by cases h
  | e :: es, es', i, r, hE, h => by
    cases es' with
    | nil => have := hE.1; simp at this
    | cons e' es' =>
      obtain ⟨_, _, h3⟩ := hE.2 0 e e' rfl rfl
      have ht : ERel n0 j es es' := ⟨by have := hE.1; simpa using this, fun q a b ha hb => hE.2 (q + 1) a b (by simpa using ha) (by simpa using hb)⟩
      simp only [bornD] at h
      rw [List.findIdx?_cons]
      split at h
      · rename_i hb
        cases h
        rw [← h3]
        simp [hb]
      · rename_i hb
        obtain ⟨h4, h5⟩ := bornD_rel st ht h
        rw [← h3]
        have : ((e.born : Int) == st) = false := by simpa using hb
        simp only [this, Bool.false_eq_true, if_false, h5]
        refine ⟨by omega, ?_⟩
        simp; omega

theorem growBy_le (newLen : Nat) : ∀ (r c : Nat), Builtin.growBy newLen r c ≤ Max.max c (newLen + (newLen + 768) / 4)
  | 0, c => by unfold Builtin.growBy; omega
  | r + 1, c => by
    unfold Builtin.growBy
    split
    · omega
    · have := growBy_le newLen r (c + (c + 768) / 4)
      omega

theorem nextcap_le (need cap : Nat) (h : cap < need) : Builtin.nextslicecap need cap ≤ 2 * need + 512 := by
  unfold Builtin.nextslicecap
  split
  · omega
  · split
    · omega
    · have := growBy_le need 4 cap
      omega

end Go.Proofs.YtdpbbppjjjhnoaaGreatDoor.D
