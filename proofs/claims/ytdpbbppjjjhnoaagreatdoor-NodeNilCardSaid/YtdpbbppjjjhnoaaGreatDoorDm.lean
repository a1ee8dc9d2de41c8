/- The abstract machine "D": the instructions that write memory do what the model's operations do. No statement of the seat is proved in this text. -/
import Derived.Test.YtdpbbppjjjhnoaaGreatDoorDl
set_option linter.unusedSimpArgs false
set_option linter.unusedVariables false
namespace Go.Proofs.YtdpbbppjjjhnoaaGreatDoor.D
open Go

/-- What an operation hands on is the value v'. -/
def Gives (n : Next) (v' : Value) : Prop := n = .value v' ∨ (n = .skip ∧ v' = undef)

section
variable {P : Program} {w0 : World} {ng top : Nat} {j : Inj} {H : Heap} {w : World}

def EffOk (P : Program) (w0 : World) (ng top : Nat) (j : Inj) (H : Heap) (w : World) (s : Sem Next) (v : Value) (H' : Heap) : Prop :=
  ∃ n v' w' j', s.run P w = .ok n w' ∧ Gives n v' ∧ VRel w0.heap.size j' v v' ∧ Rel w0 ng top j' H' w' ∧ Frm top j j' H H' w w'

theorem Rel.drew (R : Rel w0 ng top j H w) (d : Nat) : Rel w0 ng top j H { w with drawn := d } :=
  ⟨R.base, R.old, R.size, R.dom, R.rng, R.inj, fun b i h => (R.blk b i h).frame (Inj.le_refl j) (fun _ => rfl), R.fresh, R.os, R.tape, R.output⟩

theorem Frm.drew {j' : Inj} {H' : Heap} {w' : World} (F : Frm top j j' H H' w w') (d : Nat) : Frm top j j' H H' w { w' with drawn := d } :=
  ⟨F.le, F.next, F.base, F.size, F.keep, F.newd, F.newr, F.real⟩

theorem Frm.undrew {j' : Inj} {H' : Heap} {w' : World} {d : Nat} (F : Frm top j j' H H' { w with drawn := d } w') : Frm top j j' H H' w w' :=
  ⟨F.le, F.next, F.base, F.size, F.keep, F.newd, F.newr, F.real⟩

/-- A map's block is written. -/
theorem map_set (R : Rel w0 ng top j H w) (hT : H.next ≤ top) {b : Nat} {i : Info} (hb : j b = some i) {es : List MapEntry} {ck : Nat} (hg : H.get b = some (.map es ck)) {es2 : List MapEntry} {es2' : Array MapEntry} (ck2 : Nat) (hE : ERel w0.heap.size j es2 es2'.toList) :
    (setObj i.rb (.map es2' ck2)).run P w = .ok () (wset w i.rb (.map es2' ck2)) ∧ Rel w0 ng top j (H.set b (.map es2 ck2)) (wset w i.rb (.map es2' ck2)) ∧ Frm top j j H (H.set b (.map es2 ck2)) w (wset w i.rb (.map es2' ck2)) := by
  have hB := R.blk b i hb
  rw [hg] at hB
  obtain ⟨hd, es', hh, _⟩ := hB
  refine ⟨by simp [setObj, Sem.run, hh, wset], set_sound R hT hb (by rw [hg]; trivial) _ _ ⟨hd, es2', ?_, hE⟩⟩
  rw [wset_get _ _ _ _ (R.rng b i hb).1, if_pos rfl]

theorem map_of {y : Value} {b : Nat} (h : VRel w0.heap.size j (.map (some b)) y) : ∃ i, j b = some i ∧ y = .map (some i.rb) := by
  cases h with
  | map _ i hi => exact ⟨i, hi, rfl⟩

theorem map_get (R : Rel w0 ng top j H w) {b : Nat} {i : Info} (hb : j b = some i) {es : List MapEntry} {ck : Nat} (hg : H.get b = some (.map es ck)) :
    ∃ es' : Array MapEntry, (getObj i.rb).run P w = .ok (.map es' ck) w ∧ ERel w0.heap.size j es es'.toList := by
  have hB := R.blk b i hb
  rw [hg] at hB
  obtain ⟨_, es', hh, hE⟩ := hB
  exact ⟨es', by simp [getObj, Sem.run, hh], hE⟩

theorem keyStays {t : TypeId} {kk : KK} {k : Value} {es : List MapEntry} {es' : Array MapEntry} {q : Nat} {v : Value} (hl : es'.toList = es) (h : findD kk k es 0 = some (some (q, v))) (w : World) :
    (Instr.keyThatStays (((es'[q]?).map (·.key)).getD k) k).run P w = .ok k w := by
  obtain ⟨_, _, e, he, hk⟩ := findD_lt h
  rw [Nat.sub_zero, ← hl, Array.getElem?_toList] at he
  simp only [he, Option.map_some, Option.getD_some, Instr.keyThatStays]
  rw [if_pos (sameBits_keyEq 9999 hk)]
  rfl

theorem mupd_sound (R : Rel w0 ng top j H w) (hT : H.next ≤ top) {t kt et : TypeId} {kk : KK} (hu : P.underlying t = some (.map kt et)) (hk : keyKind P kt = some kk) {a k v a' k' v' : Value} (ha : VRel w0.heap.size j a a') (hkr : VRel w0.heap.size j k k') (hvr : VRel w0.heap.size j v v')
    {x : Value} {H' : Heap} (h : effSem (.mupd kk) [a, k, v] H = some (x, H')) : EffOk P w0 ng top j H w (do Instr.mapUpdate t a' k' v'; pure .skip) x H' := by
  cases a <;> simp only [effSem] at h <;> first | (cases h; done) | skip
  rename_i q
  cases q <;> simp only [effSem] at h <;> first | (cases h; done) | skip
  rename_i b
  split at h
  · rename_i hok
    split at h
    · rename_i es ck hg
      obtain ⟨i, hji, rfl⟩ := map_of ha
      obtain ⟨es', hget, hE⟩ := map_get (P := P) R hji hg
      have hck := checkKey_ok (P := P) hk (keyOk_rel hkr hok) false
      split at h
      · rename_i q1 v1 hf
        simp only [Option.some.injEq, Prod.mk.injEq] at h
        obtain ⟨rfl, rfl⟩ := h
        obtain ⟨r', hr1, _, hr3⟩ := findD_rel hkr hE hf
        obtain ⟨v1', rfl, hv1⟩ := hr3 _ _ rfl
        have hfind := findKey_eq (P := P) hk hr1
        have hks := keyStays (P := P) (t := t) rfl hr1
        obtain ⟨s1, s2, s3⟩ := map_set (P := P) R hT hji hg ck (hE.mod q1 (fun e => { e with key := k, val := v }) (fun e => { e with key := k', val := v' }) (fun e e' h1 h2 => ⟨hkr, hvr, by
          have := hE.2 q1 e e' h1 (by simpa using h2); exact this.2.2⟩))
        refine ⟨.skip, undef, _, j, ?_, .inr ⟨rfl, rfl⟩, .undef _, s2, s3⟩
        simp only [Instr.mapUpdate, Sem.run_bind, run_underlying hu, Result.andThen_ok, hget, hck, hfind, hks, s1, Sem.run_pure]
      · rename_i hf
        simp only [Option.some.injEq, Prod.mk.injEq] at h
        obtain ⟨rfl, rfl⟩ := h
        obtain ⟨r', hr1, hr2, _⟩ := findD_rel hkr hE hf
        rw [hr2 rfl] at hr1
        have hfind := findKey_eq (P := P) hk hr1
        obtain ⟨s1, s2, s3⟩ := map_set (P := P) R hT hji hg (ck + 1) (hE.snoc (e := { key := k, val := v, born := ck }) (e' := { key := k', val := v', born := ck }) ⟨hkr, hvr, rfl⟩)
        refine ⟨.skip, undef, _, j, ?_, .inr ⟨rfl, rfl⟩, .undef _, s2, s3⟩
        simp only [Instr.mapUpdate, Sem.run_bind, run_underlying hu, Result.andThen_ok, hget, hck, hfind, s1, Sem.run_pure]
      · cases h
    · cases h
  · cases h

theorem mentry_sound (R : Rel w0 ng top j H w) (hT : H.next ≤ top) {t kt et : TypeId} {kk : KK} (hu : P.underlying t = some (.map kt et)) (hk : keyKind P kt = some kk) {z : Value} {zi : TypeInfo} (hzi : P.info? et = some zi) (hzz : zi.zero = some z) (hcz : cst z = true)
    {a k a' k' : Value} (ha : VRel w0.heap.size j a a') (hkr : VRel w0.heap.size j k k')
    {x : Value} {H' : Heap} (h : effSem (.mentry kk z) [a, k] H = some (x, H')) : EffOk P w0 ng top j H w (do pure (.value (← Instr.mapEntry t a' k'))) x H' := by
  have htup : ∀ (x x' : Value) (q : Int), VRel w0.heap.size j x x' → VRel w0.heap.size j (.tuple #[x, goInt q]) (.tuple #[x', goInt q]) := fun x x' q hx =>
    LRel.tuple (LRel.cons hx (LRel.cons (.int _ q) LRel.nil))
  cases a <;> simp only [effSem] at h <;> first | (cases h; done) | skip
  rename_i q
  cases q <;> simp only [effSem] at h <;> first | (cases h; done) | skip
  rename_i b
  split at h
  · rename_i hok
    split at h
    · rename_i es ck hg
      obtain ⟨i, hji, rfl⟩ := map_of ha
      obtain ⟨es', hget, hE⟩ := map_get (P := P) R hji hg
      have hck := checkKey_ok (P := P) hk (keyOk_rel hkr hok) false
      split at h
      · rename_i q1 v1 hf
        simp only [Option.some.injEq, Prod.mk.injEq] at h
        obtain ⟨rfl, rfl⟩ := h
        obtain ⟨r', hr1, _, hr3⟩ := findD_rel hkr hE hf
        obtain ⟨v1', rfl, hv1⟩ := hr3 _ _ rfl
        have hfind := findKey_eq (P := P) hk hr1
        have hks := keyStays (P := P) (t := t) rfl hr1
        obtain ⟨s1, s2, s3⟩ := map_set (P := P) R hT hji hg ck (hE.mod q1 (fun e => { e with key := k }) (fun e => { e with key := k' }) (fun e e' h1 h2 => by
          have := hE.2 q1 e e' h1 (by simpa using h2); exact ⟨hkr, this.2.1, this.2.2⟩))
        have hborn : ((es[q1]?).map (fun x => (x.born : Int))).getD 0 = ((es'[q1]?).map (fun x => (x.born : Int))).getD 0 := by
          have hl := hE.1
          cases h1 : es[q1]? with
          | none =>
            have : es'[q1]? = none := by
              rw [List.getElem?_eq_none_iff] at h1
              rw [Array.getElem?_eq_none_iff]
              simp only [Array.length_toList] at hl
              omega
            rw [this]
          | some e =>
            obtain ⟨h3, _⟩ := List.getElem?_eq_some_iff.1 h1
            have h4 : q1 < es'.size := by simp at hl; omega
            have := hE.2 q1 e es'[q1] h1 (by simp [h4])
            rw [show es'[q1]? = some es'[q1] by simp [h4]]
            simp [this.2.2]
        refine ⟨.value (.tuple #[v1', goInt (((es'[q1]?).map (·.born)).getD 0)]), _, _, j, ?_, .inl rfl, by rw [hborn]; exact htup _ _ _ hv1, s2, s3⟩
        simp only [Instr.mapEntry, Sem.run_bind, run_underlying hu, Result.andThen_ok, hget, hck, hfind, hks, s1, Sem.run_pure]
      · rename_i hf
        simp only [Option.some.injEq, Prod.mk.injEq] at h
        obtain ⟨rfl, rfl⟩ := h
        obtain ⟨r', hr1, hr2, _⟩ := findD_rel hkr hE hf
        rw [hr2 rfl] at hr1
        have hfind := findKey_eq (P := P) hk hr1
        obtain ⟨s1, s2, s3⟩ := map_set (P := P) R hT hji hg (ck + 1) (hE.snoc (e := { key := k, val := z, born := ck }) (e' := { key := k', val := z, born := ck }) ⟨hkr, cst_rel hcz, rfl⟩)
        refine ⟨.value (.tuple #[z, goInt ck]), _, _, j, ?_, .inl rfl, htup _ _ _ (cst_rel hcz), s2, s3⟩
        simp only [Instr.mapEntry, Sem.run_bind, run_underlying hu, Result.andThen_ok, hget, hck, hfind, run_zero hzi hzz, s1, Sem.run_pure]
      · cases h
    · cases h
  · cases h

theorem estore_sound (R : Rel w0 ng top j H w) (hT : H.next ≤ top) {t : TypeId} {a s v a' s' v' : Value} (ha : VRel w0.heap.size j a a') (hsr : VRel w0.heap.size j s s') (hvr : VRel w0.heap.size j v v')
    {x : Value} {H' : Heap} (h : effSem .estore [a, s, v] H = some (x, H')) : EffOk P w0 ng top j H w (do Instr.entryStore t a' s' v'; pure .skip) x H' := by
  obtain ⟨b, kd, st, rfl, rfl⟩ : ∃ b kd st, a = .map (some b) ∧ s = .int kd st := by
    cases a with
    | map q => cases q with
      | none => simp [effSem] at h
      | some b => cases s with
        | int kd st => exact ⟨b, kd, st, rfl, rfl⟩
        | _ => simp [effSem] at h
    | _ => simp [effSem] at h
  simp only [effSem] at h
  split at h
  · rename_i es ck hg
    split at h
    · rename_i q hq
      simp only [Option.some.injEq, Prod.mk.injEq] at h
      obtain ⟨rfl, rfl⟩ := h
      obtain ⟨i, hji, rfl⟩ := map_of ha
      obtain ⟨es', hget, hE⟩ := map_get (P := P) R hji hg
      obtain ⟨_, hfi⟩ := bornD_rel st hE hq
      rw [Nat.sub_zero] at hfi
      have hfi' : es'.findIdx? (fun e => (e.born : Int) == st) = some q := by
        have gen : ∀ (a : Array MapEntry) (p : MapEntry → Bool), a.findIdx? p = a.toList.findIdx? p := fun ⟨l⟩ p => by simp
        rw [← hfi, gen]
      obtain ⟨s1, s2, s3⟩ := map_set (P := P) R hT hji hg ck (hE.mod q (fun e => { e with val := v }) (fun e => { e with val := v' }) (fun e e' h1 h2 => by
        have := hE.2 q e e' h1 (by simpa using h2); exact ⟨this.1, hvr, this.2.2⟩))
      refine ⟨.skip, undef, _, j, ?_, .inr ⟨rfl, rfl⟩, .undef _, s2, s3⟩
      simp only [Instr.entryStore, int_of hsr, asInt, asIntOf, Sem.run_bind, hget, Result.andThen_ok, Sem.run_pure, hfi', s1]
    · cases h
  · cases h

theorem eraseIdx_none {es' : Array MapEntry} : True := trivial

theorem del_sound (R : Rel w0 ng top j H w) (hT : H.next ≤ top) {t kt et ty : TypeId} {tys : Array TypeId} (hty : tys[0]? = some t) {kk : KK} (hu : P.underlying t = some (.map kt et)) (hk : keyKind P kt = some kk) {a k a' k' : Value} (ha : VRel w0.heap.size j a a') (hkr : VRel w0.heap.size j k k')
    {x : Value} {H' : Heap} (h : effSem (.del kk) [a, k] H = some (x, H')) : EffOk P w0 ng top j H w (do pure (.value (← Builtin.delete_ tys ty #[a', k']))) x H' := by
  cases a <;> simp only [effSem] at h <;> first | (cases h; done) | skip
  rename_i q
  cases q <;> simp only [effSem] at h
  · split at h
    · rename_i hok
      simp only [Option.some.injEq, Prod.mk.injEq] at h
      obtain ⟨rfl, rfl⟩ := h
      have ha' : a' = .map none := by cases ha; rfl
      subst ha'
      have hck := checkKey_ok (P := P) hk (keyOk_rel hkr hok) true
      refine ⟨.value undef, undef, w, j, ?_, .inl rfl, .undef _, R, Frm.refl _ _ _ _⟩
      simp [Builtin.delete_, hty, run_underlying hu, hck, undef]
    · cases h
  · rename_i b
    split at h
    · rename_i hok
      split at h
      · rename_i es ck hg
        obtain ⟨i, hji, rfl⟩ := map_of ha
        obtain ⟨es', hget, hE⟩ := map_get (P := P) R hji hg
        have hck := checkKey_ok (P := P) hk (keyOk_rel hkr hok)
        split at h
        · rename_i q1 v1 hf
          simp only [Option.some.injEq, Prod.mk.injEq] at h
          obtain ⟨rfl, rfl⟩ := h
          obtain ⟨r', hr1, _, hr3⟩ := findD_rel hkr hE hf
          obtain ⟨v1', rfl, hv1⟩ := hr3 _ _ rfl
          have hfind := findKey_eq (P := P) hk hr1
          obtain ⟨_, hlt, _⟩ := findD_lt hf
          obtain ⟨s1, s2, s3⟩ := map_set (P := P) R hT hji hg ck (hE.erase q1 (by omega))
          refine ⟨.value undef, undef, _, j, ?_, .inl rfl, .undef _, s2, s3⟩
          simp [Builtin.delete_, hty, run_underlying hu, hget, hck, hfind, s1, undef]
        · rename_i hf
          simp only [Option.some.injEq, Prod.mk.injEq] at h
          obtain ⟨rfl, rfl⟩ := h
          obtain ⟨r', hr1, hr2, _⟩ := findD_rel hkr hE hf
          rw [hr2 rfl] at hr1
          have hfind := findKey_eq (P := P) hk hr1
          obtain ⟨s1, s2, s3⟩ := map_set (P := P) R hT hji hg ck hE
          -- nothing has been taken out: the world is written with what was there
          have hself : Rel w0 ng top j H (wset w i.rb (.map es' ck)) ∧ Frm top j j H H w (wset w i.rb (.map es' ck)) := by
            have hB := R.blk b i hji
            rw [hg] at hB
            obtain ⟨_, es2, hh, _⟩ := hB
            have hes : es2 = es' := by
              simp [getObj, Sem.run, hh] at hget
              exact hget
            subst hes
            have hw : wset w i.rb (.map es2 ck) = w := by
              have hlt := lt_of_some hh
              unfold wset
              have : w.heap.setIfInBounds i.rb (.map es2 ck) = w.heap := by
                apply Array.ext_getElem?
                intro k
                by_cases hk : i.rb = k
                · subst hk
                  have e : w.heap[i.rb] = .map es2 ck := by simpa [hlt] using hh
                  simp [hlt, e]
                · rw [Array.getElem?_setIfInBounds_ne hk]
              rw [this]
            rw [hw]
            exact ⟨R, Frm.refl _ _ _ _⟩
          refine ⟨.value undef, undef, _, j, ?_, .inl rfl, .undef _, hself.1, hself.2⟩
          simp [Builtin.delete_, hty, run_underlying hu, hget, hck, hfind, s1, undef]
        · cases h
      · cases h
    · cases h

theorem snext_sound (R : Rel w0 ng top j H w) (hT : H.next ≤ top) {ty : TypeId} {a a' : Value} (ha : VRel w0.heap.size j a a') {x : Value} {H' : Heap} (h : effSem .snext [a] H = some (x, H')) : EffOk P w0 ng top j H w (do pure (.value (← Instr.next a' true ty))) x H' := by
  obtain ⟨b, rfl⟩ : ∃ b, a = .pointer (some ⟨b, 0, none⟩) := by
    cases a with
    | pointer q => cases q with
      | none => simp [effSem] at h
      | some ad =>
        obtain ⟨bb, oo, ss⟩ := ad
        cases oo with
        | zero => cases ss with
          | none => exact ⟨bb, rfl⟩
          | some _ => simp [effSem] at h
        | succ _ => simp [effSem] at h
    | _ => simp [effSem] at h
  simp only [effSem] at h
  split at h
  · rename_i s pos hg
    obtain ⟨a2, rfl, har⟩ := ptr_of ha
    obtain ⟨i, hji, rfl⟩ : ∃ i, j b = some i ∧ a2 = ⟨i.rb, 0 + i.dl, none⟩ := by cases har with | new _ _ i hi => exact ⟨i, hi, rfl⟩
    have hB := R.blk b i hji
    rw [hg] at hB
    obtain ⟨hd, hh⟩ := hB
    rw [hd]
    have hget : (getObj i.rb).run P w = .ok (.stringIter s pos) w := by simp [getObj, Sem.run, hh]
    split at h
    · rename_i hlt
      simp only [Option.some.injEq, Prod.mk.injEq] at h
      obtain ⟨rfl, rfl⟩ := h
      obtain ⟨s2, s3⟩ := set_sound R hT hji (by rw [hg]; trivial) (.iter s (pos + (Utf8.decode s pos).2)) (.stringIter s (pos + (Utf8.decode s pos).2)) ⟨hd, by rw [wset_get _ _ _ _ (R.rng b i hji).1, if_pos rfl]⟩
      refine ⟨.value (.tuple #[.bool true, goInt pos, .int .i32 (Utf8.decode s pos).1]), _, _, j, ?_, .inl rfl, LRel.tuple (LRel.cons (.bool _) (LRel.cons (.int _ _) (LRel.cons (.int _ _) LRel.nil))), s2, s3⟩
      have hset : (setObj i.rb (.stringIter s (pos + (Utf8.decode s pos).2))).run P w = .ok () (wset w i.rb (.stringIter s (pos + (Utf8.decode s pos).2))) := by simp [setObj, Sem.run, hh, wset]
      simp only [Instr.next, Sem.run_bind, hget, Result.andThen_ok, if_pos hlt, hset, Sem.run_pure]
    · rename_i hlt
      simp only [Option.some.injEq, Prod.mk.injEq] at h
      obtain ⟨rfl, rfl⟩ := h
      refine ⟨.value (.tuple #[.bool false]), _, w, j, ?_, .inl rfl, LRel.tuple (LRel.cons (.bool _) LRel.nil), R, Frm.refl _ _ _ _⟩
      simp only [Instr.next, Sem.run_bind, hget, Result.andThen_ok, if_neg hlt, Sem.run_pure]
  · cases h

theorem takeN_all : ∀ (l : List Value) (n : Nat) (r : List Value), takeN l n = some r → r = l.take n
  | l, 0, r, h => by cases l <;> simpa [takeN] using h.symm
  | [], n + 1, r, h => by simp [takeN] at h
  | v :: l, n + 1, r, h => by
    simp only [takeN] at h
    cases ht : takeN l n with
    | none => rw [ht] at h; simp at h
    | some q =>
      rw [ht] at h
      obtain rfl : v :: q = r := by simpa using h
      simp [takeN_all l n q ht]

/-- What is appended, or copied. -/
theorem src_sound (R : Rel w0 ng top j H w) {n k : Nat} (hn : 0 < n) {x x' : Value} {new : List Value} (hx : VRel w0.heap.size j x x') (h : srcD n x H = some (k, new)) :
    (∀ w, (Builtin.lenOf x').run P w = .ok k w) ∧ new.length = k * n ∧ ∀ m, m ≤ k → ∃ cs' : Array Value, (Builtin.firstCells n m x').run P w = .ok cs' w ∧ LRel w0.heap.size j (new.take (m * n)) cs'.toList := by
  cases hx with
  | nilSlice =>
    simp only [srcD, Option.some.injEq, Prod.mk.injEq] at h
    obtain ⟨rfl, rfl⟩ := h
    exact ⟨fun w => rfl, by simp, fun m hm => ⟨#[], rfl, by simpa using LRel.nil⟩⟩
  | string s =>
    simp only [srcD] at h
    split at h
    · rename_i h1
      subst h1
      simp only [Option.some.injEq, Prod.mk.injEq] at h
      obtain ⟨rfl, rfl⟩ := h
      refine ⟨fun w => rfl, by simp, fun m hm => ⟨_, rfl, ?_⟩⟩
      have e : ((s.extract 0 m).data.map fun b => Value.int .u8 b.toNat).toList = (s.data.toList.map fun b => Value.int .u8 b.toNat).take (m * 1) := by
        rw [Nat.mul_one, ← List.map_take]
        simp [ByteArray.data_extract]
      rw [e]
      have hall : ∀ (l : List UInt8), LRel w0.heap.size j (l.map fun b => Value.int .u8 b.toNat) (l.map fun b => Value.int .u8 b.toNat) := by
        intro l
        induction l with
        | nil => exact LRel.nil
        | cons b l ih => exact LRel.cons (.int _ _) ih
      exact (hall _).take _
    · cases h
  | slice0 a' =>
    simp only [srcD, if_true] at h
    simp only [Option.some.injEq, Prod.mk.injEq] at h
    obtain ⟨rfl, rfl⟩ := h
    refine ⟨fun w => rfl, by simp, fun m hm => ?_⟩
    have : m = 0 := by omega
    subst this
    refine ⟨#[], ?_, by simpa using LRel.nil⟩
    simp [Builtin.firstCells, loadCells, loadCellsFrom]
  | slice a a' len cap ha hl =>
    simp only [srcD] at h
    split at h
    · rename_i h0
      simp only [Option.some.injEq, Prod.mk.injEq] at h
      obtain ⟨rfl, rfl⟩ := h
      subst h0
      refine ⟨fun w => rfl, by simp, fun m hm => ?_⟩
      have : m = 0 := by omega
      subst this
      refine ⟨#[], ?_, by simpa using LRel.nil⟩
      simp [Builtin.firstCells, loadCells, loadCellsFrom]
    · rename_i h0
      split at h
      · rename_i l hl'
        simp only [Option.some.injEq, Prod.mk.injEq] at h
        obtain ⟨rfl, rfl⟩ := h
        have har : ARel w0.heap.size j (toPtr a) a' := by
          cases ha with
          | new b o i hb => exact .new b o i hb
          | old b o hb => exact .old b o hb
        obtain ⟨hlen, cs', hl2, hrel, hcell⟩ := cells_sound R har hl'
        refine ⟨fun w => rfl, hlen, fun m hm => ⟨(cs'.take (m * n)).toArray, ?_, by simpa using hrel.take _⟩⟩
        have hm2 : m * n ≤ len * n := Nat.mul_le_mul_right n hm
        have := run_loadCells_list (P := P) w a' (cs'.take (m * n)) (fun q v hq => by
          rw [List.getElem?_take] at hq
          by_cases hqn : q < m * n
          · rw [if_pos hqn] at hq; exact hcell q v hq
          · rw [if_neg hqn] at hq; cases hq)
        rw [show (cs'.take (m * n)).length = m * n by simp; omega] at this
        exact this
      · cases h
  | uslice b o len cap' a' i hb hl ha =>
    simp only [srcD] at h
    split at h
    · rename_i h0
      simp only [Option.some.injEq, Prod.mk.injEq] at h
      obtain ⟨rfl, rfl⟩ := h
      subst h0
      refine ⟨fun w => rfl, by simp, fun m hm => ?_⟩
      have : m = 0 := by omega
      subst this
      refine ⟨#[], ?_, by simpa using LRel.nil⟩
      simp [Builtin.firstCells, loadCells, loadCellsFrom]
    · rename_i h0
      split at h
      · rename_i l hl'
        simp only [Option.some.injEq, Prod.mk.injEq] at h
        obtain ⟨rfl, rfl⟩ := h
        rcases ha with h3 | ⟨rfl, _⟩
        · omega
        · have har : ARel w0.heap.size j (toPtr ⟨b, o, some (i.esz + 1)⟩) ⟨i.rb, o + i.dl, none⟩ := .new b o i hb
          obtain ⟨hlen, cs', hl2, hrel, hcell⟩ := cells_sound R har hl'
          refine ⟨fun w => rfl, hlen, fun m hm => ⟨(cs'.take (m * n)).toArray, ?_, by simpa using hrel.take _⟩⟩
          have hm2 : m * n ≤ len * n := Nat.mul_le_mul_right n hm
          have := run_loadCells_list (P := P) w ⟨i.rb, o + i.dl, none⟩ (cs'.take (m * n)) (fun q v hq => by
            rw [List.getElem?_take] at hq
            by_cases hqn : q < m * n
            · rw [if_pos hqn] at hq; exact hcell q v hq
            · rw [if_neg hqn] at hq; cases hq)
          rw [show (cs'.take (m * n)).length = m * n by simp; omega] at this
          exact this
      · cases h
  | _ => simp [srcD, undef] at h

theorem oneC_all {l l' : List Value} (h : LRel w0.heap.size j l l') (ho : l.all oneC = true) : ∀ v ∈ l', oneC v = true := by
  intro v hvm
  obtain ⟨k, hk⟩ := List.mem_iff_getElem?.1 hvm
  obtain ⟨hkl, _⟩ := List.getElem?_eq_some_iff.1 hk
  have hkl' : k < l.length := by have := h.1; omega
  have hr := h.2 k _ v (List.getElem?_eq_getElem hkl') hk
  exact hr.oneC (List.all_eq_true.1 ho _ (List.getElem_mem hkl'))

/-- Where a new array is made for what is appended. -/
theorem grow_run {e : TypeId} {i : TypeInfo} {z : Value} (hi : P.info? e = some i) (hz : i.zero = some z) (old new : Array Value) (need cap : Nat) (w : World) :
    ∃ newCap d, need ≤ newCap ∧ (choose (.appendCap need cap e)).run P w = .ok newCap { w with drawn := d } ∧
      (∀ w, (askRoom (newCap * i.bytes)).run P w = .ok () w) := by
  refine ⟨need + w.tape w.drawn (.appendCap need cap e) % (2 ^ 63 - need), w.drawn + 1, by omega, ?_, ?_⟩
  · simp [choose, Sem.run, Question.forced, Question.cut]
  · intro w
    unfold askRoom
    split <;> rfl

end
end Go.Proofs.YtdpbbppjjjhnoaaGreatDoor.D
