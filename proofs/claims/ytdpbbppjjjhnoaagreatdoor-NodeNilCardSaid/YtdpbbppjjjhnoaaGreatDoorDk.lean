/- The abstract machine "D": changing, dropping and taking over blocks on both sides; the instructions that make memory. No statement of the seat is proved in this text. -/
import Derived.Test.YtdpbbppjjjhnoaaGreatDoorDj
set_option linter.unusedSimpArgs false
set_option linter.unusedVariables false
namespace Go.Proofs.YtdpbbppjjjhnoaaGreatDoor.D
open Go

section
variable {w0 : World} {ng top : Nat} {j : Inj} {H : Heap} {w : World}

/-- A living block gets another content. -/
theorem set_sound (R : Rel w0 ng top j H w) (hT : H.next ≤ top) {b : Nat} {i : Info} (hb : j b = some i) (hal : alive (H.get b)) (x : Blk) (o : Obj) (hB : BRel w0.heap.size j (some x) i (wset w i.rb o)) :
    Rel w0 ng top j (H.set b x) (wset w i.rb o) ∧ Frm top j j H (H.set b x) w (wset w i.rb o) := by
  have hrb := (R.rng b i hb)
  have hlt : b < H.next := by
    cases hg : H.get b with
    | none => rw [hg] at hal; exact hal.elim
    | some y => exact R.lt hg
  have hget : ∀ r, (wset w i.rb o).heap[r]? = if r = i.rb then some o else w.heap[r]? := fun r => wset_get _ _ _ _ hrb.1
  have hz : (wset w i.rb o).heap.size = w.heap.size := wset_size _ _ _
  have halv : ∀ y, alive ((H.set b x).get y) → alive (H.get y) := by
    intro y hy
    rw [Heap.get_set] at hy
    by_cases e' : y = b
    · subst e'; exact hal
    · rwa [if_neg e'] at hy
  refine ⟨⟨R.base, ?_, by rw [hz]; exact R.size, R.dom, fun y k hy => by rw [hz]; exact R.rng y k hy, ?_, ?_, ?_, R.os, R.tape, R.output⟩,
    ⟨Inj.le_refl _, Nat.le_refl _, rfl, by rw [hz]; exact Nat.le_refl _, ?_, fun y k h1 h2 => by (rw [h1] at h2; cases h2), fun y k h1 h2 => by (rw [h1] at h2; cases h2), ?_⟩⟩
  · intro y hy1 hy2
    rw [hget, if_neg (by omega)]
    exact R.old y hy1 hy2
  · intro y z iy iz hy hz ay az e'
    exact R.inj y z iy iz hy hz (halv y ay) (halv z az) e'
  · intro y k hy
    rw [Heap.get_set]
    by_cases e' : y = b
    · subst e'
      rw [hb] at hy; cases hy
      rw [if_pos rfl]
      exact hB
    · rw [if_neg e']
      refine (R.blk y k hy).frame (Inj.le_refl _) (fun ay => ?_)
      rw [hget, if_neg (fun e2 => e' (R.inj y b k i hy hb ay hal e2))]
  · intro y hy
    rw [Heap.get_set, if_neg (by have : H.next ≤ y := hy; omega)]
    exact R.fresh y hy
  · intro y hy hn
    rw [Heap.get_set, if_neg (fun e' => by subst e'; rw [hb] at hn; cases hn)]
  · intro r hr hn
    rw [hget, if_neg (fun e' => hn b i hb (by omega) e'.symm)]

/-- A block is given up. -/
theorem kill_sound (R : Rel w0 ng top j H w) {b : Nat} {i : Info} (hb : j b = some i) (hlt : b < H.next) : Rel w0 ng top j (H.set b .dead) w ∧ Frm top j j H (H.set b .dead) w w := by
  have halv : ∀ y, alive ((H.set b .dead).get y) → alive (H.get y) := by
    intro y hy
    rw [Heap.get_set] at hy
    by_cases e' : y = b
    · subst e'; rw [if_pos rfl] at hy; exact hy.elim
    · rwa [if_neg e'] at hy
  refine ⟨⟨R.base, R.old, R.size, R.dom, R.rng, ?_, ?_, ?_, R.os, R.tape, R.output⟩,
    ⟨Inj.le_refl _, Nat.le_refl _, rfl, Nat.le_refl _, ?_, fun y k h1 h2 => by (rw [h1] at h2; cases h2), fun y k h1 h2 => by (rw [h1] at h2; cases h2), fun _ _ _ => rfl⟩⟩
  · intro y z iy iz hy hz ay az e'
    exact R.inj y z iy iz hy hz (halv y ay) (halv z az) e'
  · intro y k hy
    rw [Heap.get_set]
    by_cases e' : y = b
    · rw [if_pos e']; trivial
    · rw [if_neg e']; exact R.blk y k hy
  · intro y hy
    rw [Heap.get_set, if_neg (by have : H.next ≤ y := hy; omega)]
    exact R.fresh y hy
  · intro y hy hn
    rw [Heap.get_set, if_neg (fun e' => by subst e'; rw [hb] at hn; cases hn)]

/-- A new abstract block takes over a real one that no living block has. -/
theorem reuse_sound (R : Rel w0 ng top j H w) (hT : H.next < top) (x : Blk) (o : Obj) (i : Info) {c : Nat} {k : Info} (hc : j c = some k) (hct : c < top) (hck : k.rb = i.rb) (hfree : ∀ b q, j b = some q → alive (H.get b) → q.rb ≠ i.rb)
    (hB : BRel w0.heap.size (j.upd H.next i) (some x) i (wset w i.rb o)) :
    Rel w0 ng top (j.upd H.next i) (H.push x) (wset w i.rb o) ∧ Frm top j (j.upd H.next i) H (H.push x) w (wset w i.rb o) ∧ (j.upd H.next i) H.next = some i := by
  have hrb := R.rng c k hc
  rw [hck] at hrb
  have hget : ∀ r, (wset w i.rb o).heap[r]? = if r = i.rb then some o else w.heap[r]? := fun r => wset_get _ _ _ _ hrb.1
  have hle : Inj.le j (j.upd H.next i) := by
    intro b q hb
    have := R.dom b q hb
    simp only [Inj.upd]
    rw [if_neg (by omega)]
    exact hb
  have hz : (wset w i.rb o).heap.size = w.heap.size := wset_size _ _ _
  have hcase : ∀ b q, (j.upd H.next i) b = some q → (b = H.next ∧ q = i) ∨ (b ≠ H.next ∧ j b = some q) := by
    intro b q hb
    simp only [Inj.upd] at hb
    by_cases e : b = H.next
    · rw [if_pos e] at hb; cases hb; exact .inl ⟨e, rfl⟩
    · rw [if_neg e] at hb; exact .inr ⟨e, hb⟩
  refine ⟨⟨R.base, ?_, by rw [hz]; exact R.size, ?_, ?_, ?_, ?_, ?_, R.os, R.tape, R.output⟩, ⟨hle, Nat.le_succ _, rfl, by rw [hz]; exact Nat.le_refl _, ?_, ?_, ?_, ?_⟩, by simp [Inj.upd]⟩
  · intro b h1 h2
    rw [hget, if_neg (by omega)]
    exact R.old b h1 h2
  · intro b q hb
    rcases hcase b q hb with ⟨e, _⟩ | ⟨_, hb⟩
    · subst e; exact .inl (Nat.lt_succ_self _)
    · exact (R.dom b q hb).imp Nat.lt_succ_of_lt id
  · intro b q hb
    rw [hz]
    rcases hcase b q hb with ⟨_, e⟩ | ⟨_, hb⟩
    · subst e; exact hrb
    · exact R.rng b q hb
  · intro b d q l hb hd ab ad e
    rw [Heap.get_push] at ab ad
    rcases hcase b q hb with ⟨e1, e2⟩ | ⟨n1, hb2⟩ <;> rcases hcase d l hd with ⟨e3, e4⟩ | ⟨n3, hd2⟩
    · rw [e1, e3]
    · rw [if_neg n3] at ad
      rw [e2] at e
      exact absurd e.symm (hfree d l hd2 ad)
    · rw [if_neg n1] at ab
      rw [e4] at e
      exact absurd e (hfree b q hb2 ab)
    · rw [if_neg n1] at ab; rw [if_neg n3] at ad
      exact R.inj b d q l hb2 hd2 ab ad e
  · intro b q hb
    rw [Heap.get_push]
    rcases hcase b q hb with ⟨e1, e2⟩ | ⟨n1, hb2⟩
    · subst e2; rw [if_pos e1]; exact hB
    · rw [if_neg n1]
      refine (R.blk b q hb2).frame hle (fun ab => ?_)
      rw [hget, if_neg (hfree b q hb2 ab)]
  · intro b hb
    have hb' : H.next + 1 ≤ b := hb
    rw [Heap.get_push, if_neg (by omega)]
    exact R.fresh b (by omega)
  · intro b hb hn
    rw [Heap.get_push, if_neg (by omega)]
  · intro b q hn hb
    rcases hcase b q hb with ⟨e, _⟩ | ⟨_, hb⟩
    · subst e; exact ⟨Nat.le_refl _, hT⟩
    · rw [hn] at hb; cases hb
  · intro b q hn hb
    rcases hcase b q hb with ⟨_, e⟩ | ⟨_, hb⟩
    · subst e; exact .inr ⟨c, k, hc, hct, hck⟩
    · rw [hn] at hb; cases hb
  · intro r hr hn
    rw [hget, if_neg (fun e => hn c k hc hct (by rw [hck, e]))]

end

/-! ### Making memory -/

inductive AI where
  | alloc (zero : List Value)
  | box
  | bslice (zero : List Value) (places : List (Nat × Nat)) (n len : Nat)
  | mkslice (zero : List Value) (n bytes : Nat)
  | mkmap
  | riter

def tile (zero : List Value) (n : Nat) : List Value := (List.range n).map fun i => zero.getD (i % zero.length) undef

/-- The block that is made, and the value that is answered when its number is known. -/
def allocSem : AI → List Value → Option (Blk × (Nat → Value))
  | .alloc zero, [] => some (.row zero 0, fun b => .pointer (some ⟨b, 0, none⟩))
  | .box, [v] => match vcells v with
    | some c => some (.row c 0, fun b => .pointer (some ⟨b, 0, none⟩))
    | none => none
  | .bslice zero places n len, vs => match fillD zero places vs with
    | some c => some (.row c n, fun b => .slice (some ⟨b, 0, none⟩) len len)
    | none => none
  | .mkslice zero n bytes, [.int _ l, .int _ c] => if 0 ≤ l ∧ l ≤ c ∧ (bytes : Int) * c ≤ 281474976710656 then
      some (.row (tile zero (c.toNat * n)) n, fun b => .slice (some ⟨b, 0, none⟩) l.toNat c.toNat) else none
  | .mkmap, [] => some (.map [] 0, fun b => .map (some b))
  | .mkmap, [.int _ _] => some (.map [] 0, fun b => .map (some b))
  | .riter, [.string s] => some (.iter s 0, fun b => .pointer (some ⟨b, 0, none⟩))
  | _, _ => none

def compileAlloc (P : Program) (o : Oper) : Option (AI × List Operand) :=
  match o.op with
  | .alloc t => match (P.info? t).bind (·.zero) with
    | some z => if z.cells.toList.all cst1 then some (.alloc z.cells.toList, []) else none
    | none => none
  | .box _ x => some (.box, [x])
  | .buildSlice t len parts => match P.underlying t with
    | some (.slice e) => (match P.info? e with
      | some i => (match i.zero with
        | some z => if z.cells.toList.all cst1 && z.cells.size == i.size && decide (0 < i.size) && decide (len * i.size ≤ 16777216) then
            some (.bslice (tile z.cells.toList (len * i.size)) (parts.toList.map fun p => (p.1 * i.size, i.size)) i.size len, parts.toList.map (·.2)) else none
        | none => none)
      | none => none)
    | _ => none
  | .makeSlice t l c => match P.underlying t with
    | some (.slice e) => (match P.info? e with
      | some i => (match i.zero with
        | some z => if z.cells.toList.all cst1 && z.cells.size == i.size && decide (0 < i.size) && decide (0 < i.bytes) then some (.mkslice z.cells.toList i.size i.bytes, [l, c]) else none
        | none => none)
      | none => none)
    | _ => none
  | .makeMap t r => match P.underlying t with
    | some (.map _ _) => some (.mkmap, r.toList)
    | _ => none
  | .range t x => match P.underlying t with
    | some .string => some (.riter, [x])
    | _ => none
  | _ => none

theorem tile_rel {n0 : Nat} {j : Inj} {zero : List Value} (hz : zero.all cst1 = true) (hpos : 0 < zero.length) (n : Nat) (z : Array Value) (he : z.toList = zero) :
    LRel n0 j (tile zero n) ((Array.range n).map (fun i => z[i % z.size]!)).toList := by
  have hsz : z.size = zero.length := by rw [← he]; simp
  refine ⟨by simp [tile], fun k v v' hk hk' => ?_⟩
  have hkn : k < n := by obtain ⟨h, _⟩ := List.getElem?_eq_some_iff.1 hk; simpa [tile] using h
  have hmod : k % zero.length < zero.length := Nat.mod_lt _ hpos
  have h1 : v = zero[k % zero.length] := by
    simp [tile, hkn, hmod] at hk
    exact hk.symm
  have h2 : v' = zero[k % zero.length] := by
    have hm : k % z.size < z.size := by rw [hsz]; exact hmod
    simp [hkn, hm] at hk'
    rw [← hk']
    simp only [hsz]
    subst he
    simp
  rw [h1, h2]
  exact cst1_rel (List.all_eq_true.1 hz _ (List.getElem_mem hmod))

section
variable {P : Program} {w0 : World} {ng top : Nat} {j : Inj} {H : Heap} {w : World}

theorem alloc_sound (R : Rel w0 ng top j H w) {o : Oper} {p : AI} {xs : List Operand} (hc : compileAlloc P o = some (p, xs)) {ρ : Operand → Value} {vs : List Value} (hv : LRel w0.heap.size j vs (xs.map ρ))
    {x : Blk} {mk : Nat → Value} (h : allocSem p vs = some (x, mk)) :
    ∃ v' ob i, (execOp ρ o).run P w = .ok (.value v') (wpush w ob) ∧ i.rb = w.heap.size ∧
      (∀ (j' : Inj), Inj.le j j' → ∀ (w' : World), w'.heap[i.rb]? = some ob → BRel w0.heap.size j' (some x) i w') ∧ ∀ (j' : Inj) (b : Nat), j' b = some i → VRel w0.heap.size j' (mk b) v' := by
  have row : ∀ (cs : List Value) (c' : Array Value) (t : TypeId) (e : Nat), LRel w0.heap.size j cs c'.toList →
      ∀ (j' : Inj), Inj.le j j' → ∀ (w' : World), w'.heap[w.heap.size]? = some (Obj.cells c' t (0, 0)) → BRel w0.heap.size j' (some (.row cs e)) { rb := w.heap.size, dl := 0, esz := e, size := c'.size } w' := by
    intro cs c' t e hr j' hj w' hw'
    refine ⟨rfl, c', t, (0, 0), hw', rfl, by have := hr.1; simp at this ⊢; omega, ?_, fun o _ hh => by simp at hh⟩
    intro k v hk
    obtain ⟨v', h1, h2⟩ := hr.get hk
    exact ⟨v', by simpa using h1, h2.mono hj⟩
  have ptr : ∀ (j' : Inj) (b : Nat) (i : Info), i.dl = 0 → j' b = some i → ARel w0.heap.size j' ⟨b, 0, none⟩ ⟨i.rb, 0, none⟩ := by
    intro j' b i hd hb
    have := ARel.new (n0 := w0.heap.size) b 0 i hb
    rwa [hd] at this
  obtain ⟨dst, op, type, pos, after, guard⟩ := o
  unfold compileAlloc at hc
  simp only at hc
  split at hc
  · -- alloc
    rename_i t
    split at hc
    · rename_i z hz
      split at hc
      · rename_i hcz
        cases hc
        rw [List.map_nil] at hv
        rw [lr0 hv] at h
        simp only [allocSem, Option.some.injEq, Prod.mk.injEq] at h
        obtain ⟨rfl, rfl⟩ := h
        obtain ⟨zi, hzi, hzz⟩ : ∃ i, P.info? t = some i ∧ i.zero = some z := by
          cases hi : P.info? t with
          | none => rw [hi] at hz; simp at hz
          | some i => rw [hi] at hz; exact ⟨i, rfl, hz⟩
        refine ⟨_, .cells z.cells t, { rb := w.heap.size, dl := 0, esz := 0, size := z.cells.size }, ?_, rfl, row _ _ _ _ (cstL_rel hcz), fun j' b hb => .ptr _ _ (ptr j' b _ rfl hb)⟩
        simp only [execOp, Instr.alloc, Sem.run_bind, run_zero hzi hzz, Result.andThen_ok]
        rfl
      · cases hc
    · cases hc
  · -- box
    rename_i t y
    cases hc
    obtain ⟨a, rfl, ha⟩ := lr1 hv
    simp only [allocSem] at h
    split at h
    · rename_i c hcl
      simp only [Option.some.injEq, Prod.mk.injEq] at h
      obtain ⟨rfl, rfl⟩ := h
      refine ⟨_, .cells (ρ y).cells t, { rb := w.heap.size, dl := 0, esz := 0, size := (ρ y).cells.size }, rfl, rfl, row _ _ _ _ (vcells_rel ha hcl), fun j' b hb => .ptr _ _ (ptr j' b _ rfl hb)⟩
    · cases h
  · -- a slice's literal
    rename_i t len parts
    split at hc
    · rename_i e hu
      split at hc
      · rename_i i hi
        split at hc
        · rename_i z hz
          split at hc
          · rename_i hcz
            simp only [Bool.and_eq_true, decide_eq_true_eq, beq_iff_eq] at hcz
            obtain ⟨⟨⟨hcz, hsz⟩, hpos⟩, hlen⟩ := hcz
            cases hc
            simp only [allocSem] at h
            split at h
            · rename_i c hfill
              simp only [Option.some.injEq, Prod.mk.injEq] at h
              obtain ⟨rfl, rfl⟩ := h
              have hzl : z.cells.toList.length = i.size := by simpa using hsz
              have ht := tile_rel (n0 := w0.heap.size) (j := j) hcz (by omega) (len * i.size) z.cells rfl
              obtain ⟨out', ho, hor⟩ := fill_sound (n0 := w0.heap.size) (j := j) (fun q => some (q * i.size, i.size)) ((parts.map fun (q, x) => (q, ρ x)).toList) _ vs _ _ c ht
                (by simpa [Function.comp_def] using hv) (by simp [Function.comp_def]) hfill
              refine ⟨.slice (some ⟨w.heap.size, 0, none⟩) len len, .cells out' e, { rb := w.heap.size, dl := 0, esz := i.size, size := out'.size }, ?_, rfl, row _ _ _ _ hor, fun j' b hb => .slice _ _ _ _ (ptr j' b _ rfl hb) (Nat.le_refl _)⟩
              have hbig : ¬ (len * i.size > 2 ^ 24) := by omega
              by_cases h0 : len * i.size = 0
              · have hfz : Instr.fill (fun q => some (q * i.size, i.size)) ((Array.range (len * i.size)).map fun q => (#[] : Array Value)[q % (#[] : Array Value).size]!) (parts.map fun (q, x) => (q, ρ x)).toList = some out' := by
                  rw [← ho]
                  congr 1
                  rw [h0]; simp
                simp only [execOp, Instr.buildSlice, Sem.run_bind, run_underlying hu, Result.andThen_ok, run_sz hi, if_neg hbig, if_pos h0, Sem.run_pure, hfz]
                rfl
              · simp only [execOp, Instr.buildSlice, Sem.run_bind, run_underlying hu, Result.andThen_ok, run_sz hi, if_neg hbig, if_neg h0, Sem.run_pure, run_zero hi hz, ho]
                rfl
            · cases h
          · cases hc
        · cases hc
      · cases hc
    · cases hc
  · -- make a slice
    rename_i t l c
    split at hc
    · rename_i e hu
      split at hc
      · rename_i i hi
        split at hc
        · rename_i z hz
          split at hc
          · rename_i hcz
            simp only [Bool.and_eq_true, decide_eq_true_eq, beq_iff_eq] at hcz
            obtain ⟨⟨⟨hcz, hsz⟩, hpos⟩, hbp⟩ := hcz
            cases hc
            obtain ⟨a, b, rfl, ha, hb⟩ := lr2 hv
            cases a <;> simp only [allocSem] at h <;> first | (cases h; done) | skip
            cases b <;> simp only [allocSem] at h <;> first | (cases h; done) | skip
            rename_i k1 n1 k2 n2
            split at h
            · rename_i hle
              simp only [Option.some.injEq, Prod.mk.injEq] at h
              obtain ⟨rfl, rfl⟩ := h
              obtain ⟨h1, h2, h3⟩ := hle
              have hzl : z.cells.toList.length = i.size := by simpa using hsz
              have ht := tile_rel (n0 := w0.heap.size) (j := j) hcz (by omega) (n2.toNat * i.size) z.cells rfl
              have hbi : (1 : Int) ≤ i.bytes := by omega
              have hc2 : n2 ≤ 281474976710656 := by
                have : 1 * n2 ≤ (i.bytes : Int) * n2 := Int.mul_le_mul_of_nonneg_right hbi (by omega)
                omega
              have hl2 : (i.bytes : Int) * n1 ≤ 281474976710656 := by
                have : (i.bytes : Int) * n1 ≤ (i.bytes : Int) * n2 := Int.mul_le_mul_of_nonneg_left h2 (by omega)
                omega
              have w1 : IntKind.i64.wrap n1 = n1 := by simp [IntKind.wrap, IntKind.bits, IntKind.signed]; omega
              have w2 : IntKind.i64.wrap n2 = n2 := by simp [IntKind.wrap, IntKind.bits, IntKind.signed]; omega
              refine ⟨.slice (some ⟨w.heap.size, 0, none⟩) n1.toNat n2.toNat, .cells ((Array.range (n2.toNat * i.size)).map fun q => z.cells[q % z.cells.size]!) e,
                { rb := w.heap.size, dl := 0, esz := i.size, size := ((Array.range (n2.toNat * i.size)).map fun q => z.cells[q % z.cells.size]!).size }, ?_, rfl, row _ _ _ _ ht, fun j' b hb => .slice _ _ _ _ (ptr j' b _ rfl hb) (by omega)⟩
              have hcond : ((decide (n2 < 0) || decide ((i.bytes : Int) * n2 > 2 ^ 48)) || decide (n1 < 0) || decide (n1 > n2)) = false := by
                have e48 : (2 : Int) ^ 48 = 281474976710656 := by decide
                rw [e48]
                simp; omega
              have hroom : ∀ w, (askRoom (n2.toNat * i.bytes)).run P w = .ok () w := by
                intro w
                unfold askRoom
                split <;> rfl
              have hti : ∀ w, (typeInfo e).run P w = .ok i w := fun w => run_typeInfo w hi
              simp only [execOp, Instr.makeSlice, int_of ha, int_of hb, asInt, asIntOf, Sem.run_bind, run_underlying hu, Result.andThen_ok, Sem.run_pure, hti, w1, w2]
              rw [if_neg (by simpa using hcond)]
              by_cases h0 : n2.toNat * i.size = 0
              · have hcells : ((Array.range (n2.toNat * i.size)).map fun q => (#[] : Array Value)[q % (#[] : Array Value).size]!) = (Array.range (n2.toNat * i.size)).map fun q => z.cells[q % z.cells.size]! := by
                  rw [h0]; simp
                simp only [Sem.run_bind, Sem.run_pure, hroom, Result.andThen_ok, run_sz hi, if_pos h0, hcells]
                rfl
              · simp only [Sem.run_bind, Sem.run_pure, hroom, Result.andThen_ok, run_sz hi, if_neg h0, run_zero hi hz]
                rfl
            · cases h
          · cases hc
        · cases hc
      · cases hc
    · cases hc
  · -- make a map
    rename_i t r
    split at hc
    · rename_i kt et hu
      cases hc
      have hmap : ∀ (j' : Inj), Inj.le j j' → ∀ (w' : World), w'.heap[w.heap.size]? = some (Obj.map #[] 0) → BRel w0.heap.size j' (some (.map [] 0)) { rb := w.heap.size, dl := 0, esz := 0, size := 0 } w' :=
        fun j' _ w' hw' => ⟨rfl, #[], hw', rfl, by simp⟩
      cases r with
      | none =>
        rw [lr0 hv] at h
        simp only [allocSem, Option.some.injEq, Prod.mk.injEq] at h
        obtain ⟨rfl, rfl⟩ := h
        exact ⟨_, .map #[] 0, { rb := w.heap.size, dl := 0, esz := 0, size := 0 }, rfl, rfl, hmap, fun j' b hb => .map b _ hb⟩
      | some y =>
        obtain ⟨a, rfl, ha⟩ := lr1 hv
        cases a <;> simp only [allocSem] at h <;> first | (cases h; done) | skip
        simp only [Option.some.injEq, Prod.mk.injEq] at h
        obtain ⟨rfl, rfl⟩ := h
        refine ⟨.map (some w.heap.size), .map #[] 0, { rb := w.heap.size, dl := 0, esz := 0, size := 0 }, ?_, rfl, hmap, fun j' b hb => .map b _ hb⟩
        simp only [execOp, Instr.makeMap, Option.map_some, int_of ha, asInt, asIntOf, Sem.run_bind, run_underlying hu, Result.andThen_ok, Sem.run_pure]
        rfl
    · cases hc
  · -- range over a text
    rename_i t y
    split at hc
    · rename_i hu
      cases hc
      obtain ⟨a, rfl, ha⟩ := lr1 hv
      cases a <;> simp only [allocSem] at h <;> first | (cases h; done) | skip
      rename_i s
      simp only [Option.some.injEq, Prod.mk.injEq] at h
      obtain ⟨rfl, rfl⟩ := h
      refine ⟨.pointer (some ⟨w.heap.size, 0, none⟩), .stringIter s 0, { rb := w.heap.size, dl := 0, esz := 0, size := 0 }, ?_, rfl, fun j' _ w' hw' => ⟨rfl, hw'⟩, fun j' b hb => .ptr _ _ (ptr j' b _ rfl hb)⟩
      simp only [execOp, Instr.range, string_of ha, Sem.run_bind, run_underlying hu, Result.andThen_ok, Sem.run_pure]
      rfl
    · cases hc
  · cases hc

end
end Go.Proofs.YtdpbbppjjjhnoaaGreatDoor.D
