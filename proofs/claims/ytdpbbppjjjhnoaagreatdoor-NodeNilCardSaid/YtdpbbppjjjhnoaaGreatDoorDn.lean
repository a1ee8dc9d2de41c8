/- The abstract machine "D": append, copy, clear; every instruction that writes does what the operation does. No statement of the seat is proved in this text. -/
import Derived.Test.YtdpbbppjjjhnoaaGreatDoorDm
set_option linter.unusedSimpArgs false
set_option linter.unusedVariables false
namespace Go.Proofs.YtdpbbppjjjhnoaaGreatDoor.D
open Go

section
variable {P : Program} {w0 : World} {ng top : Nat} {j : Inj} {H : Heap} {w : World}

section
variable {tys : Array TypeId} {ty t u e : TypeId} {i : TypeInfo} {z : Value}

/-- The types of an append that the machine takes. -/
structure AppTy (P : Program) (tys : Array TypeId) (e : TypeId) (i : TypeInfo) (z : Value) : Prop where
  ex : ∃ t u du, tys[0]? = some t ∧ tys[1]? = some u ∧ P.underlying t = some (.slice e) ∧ P.underlying u = some du ∧ ((∃ q, du = .slice q) ∨ du = .string)
  hi : P.info? e = some i
  hz : i.zero = some z
  hsz : z.cells.size = i.size
  hpos : 0 < i.size
  hb : 0 < i.bytes

theorem append_in (T : AppTy P tys e i z) {base : Option Addr} {len cap k : Nat} {x' : Value} {new : Array Value} (hl : ∀ w, (Builtin.lenOf x').run P w = .ok k w) (hf : (Builtin.firstCells i.size k x').run P w = .ok new w)
    (hcap : len + k ≤ cap) {w' : World} (hst : ∀ a, base = some a → (storeCells (a.add (len * i.size)) new.toList).run P w = .ok () w') (hn : base = none → w' = w) :
    (Builtin.append_ tys ty #[.slice base len cap, x']).run P w = .ok (.slice base (len + k) cap) w' := by
  obtain ⟨t, u, du, h0, h1, hu, hdu, hni⟩ := T.ex
  rcases hni with ⟨q, rfl⟩ | rfl
  all_goals
    simp only [Builtin.append_, h0, h1]
    simp [run_underlying hu, run_underlying hdu, run_sz T.hi, hl, hf, hcap]
    cases base with
    | none => rw [hn rfl]; simp
    | some a => simp [hst a rfl]

theorem append_new (T : AppTy P tys e i z) {base : Option Addr} {len cap k : Nat} {x' : Value} {old new : Array Value} (hl : ∀ w, (Builtin.lenOf x').run P w = .ok k w)
    (ho : ∀ d, (Builtin.firstCells i.size len (.slice base len cap)).run P { w with drawn := d } = .ok old { w with drawn := d }) (hf : ∀ d, (Builtin.firstCells i.size k x').run P { w with drawn := d } = .ok new { w with drawn := d })
    (hcap : ¬ len + k ≤ cap) (hroom : roomD (len + k) i.bytes = true) :
    ∃ newCap d, len + k ≤ newCap ∧ (Builtin.append_ tys ty #[.slice base len cap, x']).run P w =
      .ok (.slice (some ⟨w.heap.size, 0, none⟩) (len + k) newCap) (wpush { w with drawn := d } (.cells (old ++ new ++ Builtin.zeroCells z.cells (newCap - (len + k))) e)) := by
  obtain ⟨t, u, du, h0, h1, hu, hdu, hni⟩ := T.ex
  refine ⟨(Question.appendCap (len + k) cap e).cut (w.tape w.drawn (.appendCap (len + k) cap e)), w.drawn + 1, by simp only [Question.cut]; omega, ?_⟩
  have ho' : (Builtin.firstCells i.size len (.slice base len cap)).run P w.drew = .ok old w.drew := ho (w.drawn + 1)
  have hf' : (Builtin.firstCells i.size k x').run P w.drew = .ok new w.drew := hf (w.drawn + 1)
  have hnf : (Question.appendCap (len + k) cap e).forced = false := rfl
  have hti : ∀ w, (typeInfo e).run P w = .ok i w := fun w => run_typeInfo w T.hi
  have hnb : ¬ (i.bytes = 0) := by have := T.hb; omega
  have hbig : ¬ (Builtin.nextslicecap (len + k) cap * i.bytes > 2 ^ 48) := by
    have h1 := nextcap_le (len + k) cap (by omega)
    have h2 : Builtin.nextslicecap (len + k) cap * i.bytes ≤ (2 * (len + k) + 512) * i.bytes := Nat.mul_le_mul_right _ h1
    have h3 : (2 * (len + k) + 512) * i.bytes ≤ 281474976710656 := by
      unfold roomD at hroom
      exact Nat.le_of_ble_eq_true hroom
    have e48 : (2 : Nat) ^ 48 = 281474976710656 := by decide
    omega
  rcases hni with ⟨q, rfl⟩ | rfl
  all_goals
    simp only [Builtin.append_, h0, h1]
    simp [run_underlying hu, run_underlying hdu, run_sz T.hi, hl, hcap, hti, hnb, if_neg hbig, hnf, ho', hf', run_zero T.hi T.hz]
    rfl

end

theorem zeroCells_size (z : Array Value) (n : Nat) : (Builtin.zeroCells z n).size = n * z.size := by simp [Builtin.zeroCells]

/-- A new row holds what was, and what came. -/
theorem app_row {n0 : Nat} {a b : List Value} {a' b' r : Array Value} (ha : LRel n0 j a a'.toList) (hb : LRel n0 j b b'.toList) :
    (a ++ b).length ≤ (a' ++ b' ++ r).size ∧ ∀ (k : Nat) v, (a ++ b)[k]? = some v → ∃ v', (a' ++ b' ++ r)[k]? = some v' ∧ VRel n0 j v v' := by
  have h := ha.append hb
  have hl := h.1
  refine ⟨by simp at hl ⊢; omega, fun k v hk => ?_⟩
  obtain ⟨v', h1, h2⟩ := h.get hk
  refine ⟨v', ?_, h2⟩
  obtain ⟨hlt, _⟩ := List.getElem?_eq_some_iff.1 h1
  rw [Array.getElem?_append_left (by simpa using hlt)]
  rw [← Array.getElem?_toList, Array.toList_append]
  exact h1

theorem store_next {H H' : Heap} {a : Addr} {vs : List Value} (h : H.store a vs = some H') : H'.next = H.next := by
  unfold Heap.store at h
  split at h
  · split at h
    · split at h
      · split at h
        · cases h; rfl
        · cases h
      · cases h
    · cases h
  · cases h

theorem appD_sound (R : Rel w0 ng top j H w) {tys : Array TypeId} {ty e : TypeId} {i : TypeInfo} {z : Value} (T : AppTy P tys e i z) {s s' x x' : Value} (hs : VRel w0.heap.size j s s') (hx : VRel w0.heap.size j x x') {k : Nat} {new : List Value}
    (hsrc : srcD i.size x H = some (k, new)) {v : Value} {H' : Heap} (h : appD i.size i.bytes s k new H = some (v, H')) (hT : H'.next ≤ top) :
    EffOk P w0 ng top j H w (do pure (.value (← Builtin.append_ tys ty #[s', x']))) v H' := by
  obtain ⟨hl, hnl, hfc⟩ := src_sound (P := P) R T.hpos hx hsrc
  obtain ⟨new', hf, hnr0⟩ := hfc k (Nat.le_refl _)
  have hnr : LRel w0.heap.size j new new'.toList := by rwa [List.take_of_length_le (by omega)] at hnr0
  have hfd : ∀ d, (Builtin.firstCells i.size k x').run P { w with drawn := d } = .ok new' { w with drawn := d } := by
    intro d
    obtain ⟨_, _, hfc2⟩ := src_sound (P := P) (R.drew d) T.hpos hx hsrc
    obtain ⟨new2, hf2, _⟩ := hfc2 k (Nat.le_refl _)
    -- the same cells, whatever has been drawn
    have : new2 = new' := by
      have e1 : ∀ (s : Sem (Array Value)) , s = Builtin.firstCells i.size k x' → True := fun _ _ => trivial
      cases x' with
      | slice q m c =>
        cases q with
        | none => simp [Builtin.firstCells] at hf hf2; rw [hf, hf2]
        | some ad =>
          simp only [Builtin.firstCells] at hf hf2
          have key : ∀ (n i0 : Nat) (acc r1 r2 : Array Value) , (loadCellsFrom ad i0 n acc).run P w = .ok r1 w → (loadCellsFrom ad i0 n acc).run P { w with drawn := d } = .ok r2 { w with drawn := d } → r2 = r1 := by
            intro n
            induction n with
            | zero => intro i0 acc r1 r2 q1 q2; simp [loadCellsFrom] at q1 q2; rw [q1] at q2; exact q2.symm
            | succ n ih =>
              intro i0 acc r1 r2 q1 q2
              simp only [loadCellsFrom, Sem.run_bind] at q1 q2
              have hc : (World.cell? { w with drawn := d } (ad.add i0)) = w.cell? (ad.add i0) := rfl
              simp only [load, Sem.run, hc] at q1 q2
              cases hcell : w.cell? (ad.add i0) with
              | none =>
                rw [hcell] at q1 q2
                have hfar : World.farLoad P { w with drawn := d } (ad.add i0) false = w.farLoad P (ad.add i0) false := rfl
                simp only [show ((Mode.plain : Mode) == .atomic) = false from rfl] at q1 q2
                rw [hfar] at q2
                cases hfl : w.farLoad P (ad.add i0) false with
                | error x => rw [hfl] at q1; simp [Result.andThen] at q1
                | ok x =>
                  rw [hfl] at q1 q2
                  obtain ⟨x1, x2⟩ := x
                  exact ih _ _ _ _ q1 q2
              | some v =>
                rw [hcell] at q1 q2
                exact ih _ _ _ _ q1 q2
          exact key _ 0 #[] _ _ hf hf2
      | string s => simp [Builtin.firstCells] at hf hf2; rw [hf] at hf2; exact hf2.symm
      | _ => simp [Builtin.firstCells, stuck, Sem.run] at hf
    rw [this] at hf2; exact hf2
  -- making a new row, the older one being left or given up
  have grows : ∀ {Hb : Heap} (Rb : Rel w0 ng top j Hb w) (Fb : Frm top j j H Hb w w) {base : Option Addr} {len cap : Nat} {old : List Value} {old' : Array Value},
      (∀ d, (Builtin.firstCells i.size len (.slice base len cap)).run P { w with drawn := d } = .ok old' { w with drawn := d }) → LRel w0.heap.size j old old'.toList → old.length = len * i.size → ¬ len + k ≤ cap → roomD (len + k) i.bytes = true →
      s' = .slice base len cap → Hb.next < top → EffOk P w0 ng top j H w (do pure (.value (← Builtin.append_ tys ty #[s', x']))) (.slice (some ⟨Hb.next, 0, some (i.size + 1)⟩) (len + k) 0) (Hb.push (.row (old ++ new) i.size)) := by
    intro Hb Rb Fb base len cap old old' ho hor hol hcap hroom hs' hTb
    obtain ⟨newCap, d, hge, hrun⟩ := append_new (P := P) (ty := ty) T hl ho hfd hcap hroom
    obtain ⟨r1, r2⟩ := app_row (j := j) (r := Builtin.zeroCells z.cells (newCap - (len + k))) hor hnr
    obtain ⟨w', j', inf, q1, q2, q3, q4, q5, q6, q7⟩ := newRow_sound (P := P) (Rb.drew d) hTb e (old ++ new) (old' ++ new' ++ Builtin.zeroCells z.cells (newCap - (len + k))) i.size r1 r2
    subst hs'
    refine ⟨.value (.slice (some ⟨w.heap.size, 0, none⟩) (len + k) newCap), _, w', j', ?_, .inl rfl, ?_, q2, (Fb.trans q3.undrew)⟩
    · simp only [Sem.run_bind, hrun, Result.andThen_ok, Sem.run_pure, q6]
    · have := VRel.uslice (n0 := w0.heap.size) (j := j') Hb.next 0 (len + k) newCap ⟨w.heap.size, 0, none⟩ inf q4 hge (.inr ⟨by simp [q5], by
        rw [q5]
        simp only [Array.size_append, zeroCells_size]
        have h1 := hor.1; have h2 := hnr.1
        simp only [Array.length_toList] at h1 h2
        rw [← h1, ← h2, hol, hnl, T.hsz]
        have : (newCap - (len + k)) * i.size + (len * i.size + k * i.size) = newCap * i.size := by rw [← Nat.add_mul, ← Nat.add_mul]; congr 1; omega
        omega⟩)
      rw [show inf.esz = i.size by rw [q5]] at this
      exact this
  unfold appD at h
  split at h
  · -- nothing is appended
    rename_i hk
    subst hk
    split at h
    case h_2 => cases h
    simp only [Option.some.injEq, Prod.mk.injEq] at h
    obtain ⟨rfl, rfl⟩ := h
    have hnil : new' = #[] := by
      have h1 := hnr.1
      rw [hnl, Nat.zero_mul] at h1
      simp only [Array.length_toList] at h1
      exact Array.eq_empty_of_size_eq_zero h1.symm
    have hsh : ∃ base len cap, s' = .slice base len cap ∧ len ≤ cap := by
      cases hs with
      | nilSlice => exact ⟨_, _, _, rfl, Nat.le_refl _⟩
      | slice0 a' => exact ⟨_, _, _, rfl, Nat.le_refl _⟩
      | slice _ a' _ _ _ h2 => exact ⟨_, _, _, rfl, h2⟩
      | uslice _ _ _ cap' a' _ _ h2 _ => exact ⟨_, _, _, rfl, h2⟩
    obtain ⟨base, len, cap, rfl, hlc⟩ := hsh
    have hrun := append_in (P := P) (ty := ty) T (base := base) (len := len) (cap := cap) hl hf (by omega) (w' := w) (fun a _ => by rw [hnil]; rfl) (fun _ => rfl)
    refine ⟨.value (.slice base len cap), _, w, j, ?_, .inl rfl, hs, R, Frm.refl _ _ _ _⟩
    simp only [Sem.run_bind, hrun, Result.andThen_ok, Sem.run_pure]
    rfl
  · rename_i hk
    split at h
    · -- onto nil
      split at h
      · rename_i hroom
        simp only [Option.some.injEq, Prod.mk.injEq] at h
        obtain ⟨rfl, rfl⟩ := h
        have hs' : s' = .slice none 0 0 := by cases hs; rfl
        have := grows R (Frm.refl _ _ _ _) (base := none) (len := 0) (cap := 0) (old := []) (old' := #[]) (fun d => rfl) LRel.nil (by simp) (by omega) (by rwa [Nat.zero_add]) hs' hT
        rw [Nat.zero_add, List.nil_append] at this
        exact this
      · cases h
    · rename_i a len cap
      split at h
      · -- the capacity is not known
        rename_i q hsp
        split at h
        · rename_i hq
          split at h
          · rename_i cells esz0 hg
            split at h
            · rename_i hoff
              split at h
              · rename_i hroom
                split at h
                · rename_i hone
                  simp only [Option.some.injEq, Prod.mk.injEq] at h
                  obtain ⟨rfl, rfl⟩ := h
                  subst hq
                  cases hs with
                  | slice0 a' => cases hsp
                  | slice _ a' _ _ ha _ => exact absurd hsp (ha.notag _)
                  | uslice b o _ cap' a' inf hb hlc ha =>
                    have hesz : inf.esz = i.size := by simpa using hsp
                    simp only at hoff hg
                    have hB := R.blk b inf hb
                    rw [hg] at hB
                    obtain ⟨he0, c, ct, fr, hh, hsz, hle, hcv, hfz⟩ := hB
                    have hbl : b < H.next := R.lt hg
                    have hTk : H.next < top := hT
                    obtain ⟨Rk, Fk⟩ := kill_sound R hb hbl
                    have hlend : (cells.drop o).length = len * i.size := by simp; omega
                    by_cases hcap : len + k ≤ cap'
                    · -- in place
                      rcases ha with h0 | ⟨rfl, hfit⟩
                      · omega
                      · rw [hesz] at hfit
                        have hmul : (len + k) * i.size ≤ cap' * i.size := Nat.mul_le_mul_right _ hcap
                        rw [Nat.add_mul] at hmul
                        have hnsz : new'.toList.length = k * i.size := by rw [← hnr.1, hnl]
                        obtain ⟨w', hst, hw'⟩ := run_storeCells (P := P) inf.rb (o + inf.dl + len * i.size) ct fr new'.toList 0 w c hh (by rw [hnsz, hsz]; omega) hfz (oneC_all hnr hone)
                        have hadd : (⟨inf.rb, o + inf.dl, none⟩ : Addr).add (len * i.size) = ⟨inf.rb, o + inf.dl + len * i.size, none⟩ := by unfold Addr.add; split <;> simp_all
                        have hrun := append_in (P := P) (ty := ty) T (base := some ⟨inf.rb, o + inf.dl, none⟩) (len := len) (cap := cap') hl hf hcap (w' := w') (fun a ea => by cases ea; rw [hadd]; exact hst) (fun en => by cases en)
                        have hfree : ∀ y q2, j y = some q2 → alive ((H.set b .dead).get y) → q2.rb ≠ inf.rb := by
                          intro y q2 hy ay e2
                          rw [Heap.get_set] at ay
                          by_cases ey : y = b
                          · rw [if_pos ey] at ay; exact ay
                          · rw [if_neg ey] at ay
                            exact ey (R.inj y b q2 inf hy hb ay (by rw [hg]; trivial) e2)
                        have hupd : Inj.le j (j.upd (H.set b .dead).next { rb := inf.rb, dl := inf.dl + o, esz := i.size, size := inf.size }) := by
                          intro y q2 hy
                          have := R.dom y q2 hy
                          simp only [Inj.upd]
                          rw [if_neg (by show y ≠ H.next; omega)]
                          exact hy
                        obtain ⟨r1, r2, r3⟩ := reuse_sound Rk hTk (.row (cells.drop o ++ new) i.size) (.cells (aput c (o + inf.dl + len * i.size + 0) new'.toList) ct fr) { rb := inf.rb, dl := inf.dl + o, esz := i.size, size := inf.size } hb (by omega) rfl hfree
                          ⟨rfl, aput c (o + inf.dl + len * i.size + 0) new'.toList, ct, fr, by rw [wset_get _ _ _ _ (R.rng b inf hb).1, if_pos rfl], by rw [aput_size]; exact hsz, by
                            rw [aput_size, List.length_append, hlend, hnl]; show inf.dl + o + _ ≤ _; omega, by
                            intro y v hy
                            show ∃ v', (aput c (o + inf.dl + len * i.size + 0) new'.toList)[inf.dl + o + y]? = some v' ∧ _
                            rw [aput_get _ _ _ _ (by rw [hnsz, hsz]; omega)]
                            by_cases hy1 : y < len * i.size
                            · rw [List.getElem?_append_left (by omega), List.getElem?_drop] at hy
                              rw [if_neg (by omega)]
                              obtain ⟨v', h1, h2⟩ := hcv _ _ hy
                              exact ⟨v', by rw [show inf.dl + o + y = inf.dl + (o + y) by omega]; exact h1, h2.mono hupd⟩
                            · rw [List.getElem?_append_right (by omega), hlend] at hy
                              obtain ⟨v', h1, h2⟩ := hnr.get hy
                              obtain ⟨hlt, _⟩ := List.getElem?_eq_some_iff.1 h1
                              rw [if_pos (by omega)]
                              exact ⟨v', by rw [show inf.dl + o + y - (o + inf.dl + len * i.size + 0) = y - len * i.size by omega]; exact h1, h2.mono hupd⟩, by rw [aput_size]; exact hfz⟩
                        rw [← hw'] at r1 r2
                        refine ⟨.value (.slice (some ⟨inf.rb, o + inf.dl, none⟩) (len + k) cap'), _, w', _, ?_, .inl rfl, ?_, r1, Fk.trans r2⟩
                        · simp only [Sem.run_bind, hrun, Result.andThen_ok, Sem.run_pure]
                        · have := VRel.uslice (n0 := w0.heap.size) (j := j.upd (H.set b .dead).next { rb := inf.rb, dl := inf.dl + o, esz := i.size, size := inf.size }) (H.set b .dead).next 0 (len + k) cap' ⟨inf.rb, o + inf.dl, none⟩
                            { rb := inf.rb, dl := inf.dl + o, esz := i.size, size := inf.size } r3 hcap (.inr ⟨by simp [Nat.add_comm], by show 0 + (inf.dl + o) + cap' * i.size ≤ inf.size; omega⟩)
                          exact this
                    · -- a new array
                      have hold : ∃ old' : Array Value, (∀ d, (Builtin.firstCells i.size len (.slice (some a') len cap')).run P { w with drawn := d } = .ok old' { w with drawn := d }) ∧ LRel w0.heap.size j (cells.drop o) old'.toList := by
                        by_cases hl0 : len = 0
                        · subst hl0
                          refine ⟨#[], fun d => ?_, ?_⟩
                          · simp [Builtin.firstCells, loadCells, loadCellsFrom]
                          · have : cells.drop o = [] := List.eq_nil_of_length_eq_zero (by rw [hlend]; simp)
                            rw [this]; exact LRel.nil
                        · rcases ha with h0 | ⟨rfl, hfit⟩
                          · omega
                          · have hcell : H.cells ⟨b, o, none⟩ (len * i.size) = some (cells.drop o) := by
                              simp only [Heap.cells, hg]
                              have : ∀ (l : List Value) (n : Nat), l.length = n → takeN l n = some l := by
                                intro l
                                induction l with
                                | nil => intro n hn; simp at hn; subst hn; rfl
                                | cons v l ih => intro n hn; cases n with
                                  | zero => simp at hn
                                  | succ n => simp only [takeN, ih n (by simpa using hn)]
                              exact this _ _ hlend
                            obtain ⟨hcl, cs', hcl', hcr, hcc⟩ := cells_sound R (.new b o inf hb) hcell
                            refine ⟨cs'.toArray, fun d => ?_, by simpa using hcr⟩
                            have := run_loadCells_list (P := P) { w with drawn := d } ⟨inf.rb, o + inf.dl, none⟩ cs' hcc
                            rw [hcl'] at this
                            exact this
                      obtain ⟨old', ho, hor⟩ := hold
                      exact grows Rk Fk ho hor hlend hcap hroom rfl hTk
                · cases h
              · cases h
            · cases h
          · cases h
        · cases h
      · -- the capacity is known
        rename_i hsp
        have hknown : (∃ a', s' = .slice (some a') 0 0 ∧ a = ⟨0, 0, some 0⟩ ∧ len = 0 ∧ cap = 0) ∨ ∃ a', s' = .slice (some a') len cap ∧ ARel w0.heap.size j a a' ∧ len ≤ cap := by
          cases hs with
          | slice0 a' => exact .inl ⟨a', rfl, rfl, rfl, rfl⟩
          | slice _ a' _ _ ha hlc => exact .inr ⟨a', rfl, ha, hlc⟩
          | uslice b o _ cap' a' inf hb hlc ha => exact absurd rfl (hsp inf.esz)
        rcases hknown with ⟨a', rfl, rfl, rfl, rfl⟩ | ⟨a', rfl, ha, hlc⟩
        · rw [if_neg (by omega)] at h
          split at h
          · rename_i hroom
            split at h
            · rename_i old hold
              simp only [Option.some.injEq, Prod.mk.injEq] at h
              obtain ⟨rfl, rfl⟩ := h
              have hnil : old = [] := by
                rw [Nat.zero_mul] at hold
                cases hold
                rfl
              subst hnil
              exact grows R (Frm.refl _ _ _ _) (base := some a') (len := 0) (cap := 0) (old := []) (old' := #[]) (fun d => by simp [Builtin.firstCells, loadCells, loadCellsFrom]) LRel.nil (by simp) (by omega) hroom rfl hT
            · cases h
          · cases h
        split at h
        · rename_i hcap
          split at h
          · rename_i H1 hst
            simp only [Option.some.injEq, Prod.mk.injEq] at h
            obtain ⟨rfl, rfl⟩ := h
            have hTs : H.next ≤ top := by
              have := store_next hst
              omega
            obtain ⟨w', hrs, R', F'⟩ := store_sound (P := P) R hTs (ha.add (len * i.size)) hst hnr
            have hrun := append_in (P := P) (ty := ty) T (base := some a') (len := len) (cap := cap) hl hf hcap (w' := w') (fun a ea => by cases ea; exact hrs) (fun en => by cases en)
            refine ⟨.value (.slice (some a') (len + k) cap), _, w', j, ?_, .inl rfl, .slice _ _ _ _ ha hcap, R', F'⟩
            simp only [Sem.run_bind, hrun, Result.andThen_ok, Sem.run_pure]
          · cases h
        · rename_i hcap
          split at h
          · rename_i hroom
            split at h
            · rename_i old hold
              simp only [Option.some.injEq, Prod.mk.injEq] at h
              obtain ⟨rfl, rfl⟩ := h
              obtain ⟨hcl, cs', hcl', hcr, hcc⟩ := cells_sound R ha hold
              exact grows R (Frm.refl _ _ _ _) (base := some a') (old := old) (old' := cs'.toArray) (fun d => by
                have := run_loadCells_list (P := P) { w with drawn := d } a' cs' hcc
                rw [hcl'] at this
                exact this) (by simpa using hcr) hcl hcap hroom rfl hT
            · cases h
          · cases h
    · cases h

end
end Go.Proofs.YtdpbbppjjjhnoaaGreatDoor.D
