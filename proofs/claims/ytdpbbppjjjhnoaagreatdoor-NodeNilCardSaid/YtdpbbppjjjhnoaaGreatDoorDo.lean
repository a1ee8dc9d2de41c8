/- The abstract machine "D": every instruction that writes does what the operation does from which it was made. No statement of the seat is proved in this text. -/
import Derived.Test.YtdpbbppjjjhnoaaGreatDoorDn
set_option linter.unusedSimpArgs false
set_option linter.unusedVariables false
namespace Go.Proofs.YtdpbbppjjjhnoaaGreatDoor.D
open Go

section
variable {P : Program} {w0 : World} {ng top : Nat} {j : Inj} {H : Heap} {w : World}

theorem slc_elem {s' : Value} {d : Addr} {len cap : Nat} (h : VRel w0.heap.size j (.slice (some d) len cap) s') (hl : 0 < len) : ∃ a' cap', s' = .slice (some a') len cap' ∧ ARel w0.heap.size j (toPtr d) a' := slice_elem h hl

theorem copy_sound (R : Rel w0 ng top j H w) (hT : H.next ≤ top) {tys : Array TypeId} {ty t e : TypeId} {i : TypeInfo} (ht : tys[0]? = some t) (hu : P.underlying t = some (.slice e)) (hi : P.info? e = some i) (hpos : 0 < i.size) {s s' x x' : Value} (hs : VRel w0.heap.size j s s') (hx : VRel w0.heap.size j x x')
    {v : Value} {H' : Heap} (h : effSem (.copy i.size) [s, x] H = some (v, H')) : EffOk P w0 ng top j H w (do pure (.value (← Builtin.copy_ tys ty #[s', x']))) v H' := by
  cases s <;> simp only [effSem] at h <;> first | (cases h; done) | skip
  rename_i d dl cap
  split at h
  · rename_i k new hsrc
    obtain ⟨hl, hnl, hfc⟩ := src_sound (P := P) R hpos hx hsrc
    obtain ⟨cs', hf, hrel⟩ := hfc (Nat.min k dl) (Nat.min_le_left _ _)
    obtain ⟨base, cap', hs'⟩ : ∃ base cap', s' = .slice base dl cap' := by
      cases hs with
      | nilSlice => exact ⟨_, _, rfl⟩
      | slice0 => exact ⟨_, _, rfl⟩
      | slice => exact ⟨_, _, rfl⟩
      | uslice => exact ⟨_, _, rfl⟩
    subst hs'
    have hu' : (underlying t).run P w = .ok (.slice e) w := run_underlying hu w
    split at h
    · rename_i h0
      simp only [Option.some.injEq, Prod.mk.injEq] at h
      obtain ⟨rfl, rfl⟩ := h
      rw [h0] at hf
      have hcs : cs' = #[] := by
        have := hrel.1
        rw [h0] at this
        simp at this
        exact Array.eq_empty_of_size_eq_zero this.symm
      subst hcs
      refine ⟨.value (goInt 0), _, w, j, ?_, .inl rfl, .int _ _, R, Frm.refl _ _ _ _⟩
      simp only [Builtin.copy_, ht]
      cases base <;> simp [hu', hl, h0, hf, run_sz hi, storeCells]
    · rename_i h0
      split at h
      · rename_i a
        split at h
        · rename_i H1 hst
          simp only [Option.some.injEq, Prod.mk.injEq] at h
          obtain ⟨rfl, rfl⟩ := h
          have hdl : 0 < dl := by have : Nat.min k dl ≤ dl := Nat.min_le_right _ _; omega
          obtain ⟨a', cap2, e1, har⟩ := slc_elem hs hdl
          cases e1
          obtain ⟨w', hrs, R', F'⟩ := store_sound (P := P) R hT har hst hrel
          refine ⟨.value (goInt (Nat.min k dl)), _, w', j, ?_, .inl rfl, .int _ _, R', F'⟩
          simp only [Builtin.copy_, ht]
          simp [hu', hl, hf, run_sz hi, hrs]
        · cases h
      · cases h
  · cases h

theorem clear_sound (R : Rel w0 ng top j H w) (hT : H.next ≤ top) {tys : Array TypeId} {ty t e : TypeId} {i : TypeInfo} {z : Value} (ht : tys[0]? = some t) (hu : P.underlying t = some (.slice e)) (hi : P.info? e = some i) (hz : i.zero = some z) (hcz : z.cells.toList.all cst1 = true) (hzs : z.cells.size = i.size) (hpos : 0 < i.size)
    {s s' : Value} (hs : VRel w0.heap.size j s s') {v : Value} {H' : Heap} (h : effSem (.clear i.size z.cells.toList) [s] H = some (v, H')) : EffOk P w0 ng top j H w (do pure (.value (← Builtin.clear_ tys ty #[s']))) v H' := by
  cases s <;> simp only [effSem] at h <;> first | (cases h; done) | skip
  rename_i d dl cap
  have hu' : (underlying t).run P w = .ok (.slice e) w := run_underlying hu w
  split at h
  · rename_i h0
    subst h0
    simp only [Option.some.injEq, Prod.mk.injEq] at h
    obtain ⟨rfl, rfl⟩ := h
    obtain ⟨base, cap', hs'⟩ : ∃ base cap', s' = .slice base 0 cap' := by
      cases hs with
      | nilSlice => exact ⟨_, _, rfl⟩
      | slice0 => exact ⟨_, _, rfl⟩
      | slice => exact ⟨_, _, rfl⟩
      | uslice => exact ⟨_, _, rfl⟩
    subst hs'
    refine ⟨.value undef, _, w, j, ?_, .inl rfl, .undef _, R, Frm.refl _ _ _ _⟩
    simp only [Builtin.clear_, ht]
    cases base <;> simp [hu', undef]
  · rename_i h0
    split at h
    · rename_i a
      split at h
      · rename_i H1 hst
        simp only [Option.some.injEq, Prod.mk.injEq] at h
        obtain ⟨rfl, rfl⟩ := h
        obtain ⟨a', cap2, rfl, har⟩ := slc_elem hs (by omega)
        have ht2 := tile_rel (n0 := w0.heap.size) (j := j) hcz (by simp; omega) (dl * i.size) z.cells rfl
        have hzc : (Builtin.zeroCells z.cells dl).toList = ((Array.range (dl * i.size)).map fun q => z.cells[q % z.cells.size]!).toList := by
          simp [Builtin.zeroCells, hzs]
        obtain ⟨w', hrs, R', F'⟩ := store_sound (P := P) R hT har hst ht2
        refine ⟨.value undef, _, w', j, ?_, .inl rfl, .undef _, R', F'⟩
        rw [← hzc] at hrs
        simp only [Builtin.clear_, ht]
        cases dl with
        | zero => exact absurd rfl h0
        | succ dl => simp [hu', run_zero hi hz, hrs, undef]
      · cases h
    · cases h

theorem eff_sound (R : Rel w0 ng top j H w) (hT0 : H.next ≤ top) {o : Oper} {p : EI} {xs : List Operand} (hc : compileEff P o = some (p, xs)) {ρ : Operand → Value} {vs : List Value} (hv : LRel w0.heap.size j vs (xs.map ρ))
    {v : Value} {H' : Heap} (h : effSem p vs H = some (v, H')) (hT : H'.next ≤ top) : EffOk P w0 ng top j H w (execOp ρ o) v H' := by
  obtain ⟨dst, op, type, pos, after, guard⟩ := o
  unfold compileEff at hc
  simp only at hc
  split at hc
  · -- store
    rename_i t a x
    split at hc
    · rename_i i hi
      cases hc
      obtain ⟨va, vx, rfl, ha, hx⟩ := lr2 hv
      cases va <;> simp only [effSem] at h <;> first | (cases h; done) | skip
      rename_i q
      cases q <;> simp only [effSem] at h <;> first | (cases h; done) | skip
      rename_i ad
      split at h
      · rename_i c hcl
        split at h
        · rename_i hlen
          split at h
          · rename_i H1 hst
            simp only [Option.some.injEq, Prod.mk.injEq] at h
            obtain ⟨rfl, rfl⟩ := h
            obtain ⟨a', he, har⟩ := ptr_of ha
            have hr := vcells_rel hx hcl
            obtain ⟨w', hrs, R', F'⟩ := store_sound (P := P) R hT0 har hst hr
            have hsz : (ρ x).cells.size = i.size := by have := hr.1; simp at this; omega
            refine ⟨.skip, undef, w', j, ?_, .inr ⟨rfl, rfl⟩, .undef _, R', F'⟩
            simp only [execOp, Instr.storeAt, he, Instr.sureAddr, storeVar, Sem.run_bind, Sem.run_pure, Result.andThen_ok, run_sz hi]
            simp [hsz, hrs]
          · cases h
        · cases h
      · cases h
    · cases hc
  · -- m[k] = v
    rename_i t m k x
    split at hc
    · rename_i kt et hu
      split at hc
      · rename_i kk hk
        cases hc
        obtain ⟨vm, vk, vx, rfl, hm, hkr, hx⟩ := lr3 hv
        exact mupd_sound R hT0 hu hk hm hkr hx h
      · cases hc
    · cases hc
  · rename_i t m k x
    split at hc
    · rename_i kt et hu
      split at hc
      · rename_i kk hk
        cases hc
        obtain ⟨vm, vk, vx, rfl, hm, hkr, hx⟩ := lr3 hv
        exact mupd_sound R hT0 hu hk hm hkr hx h
      · cases hc
    · cases hc
  · -- an entry
    rename_i t m k
    split at hc
    · rename_i kt et hu
      split at hc
      · rename_i kk z hk hz
        split at hc
        · rename_i hcz
          cases hc
          obtain ⟨zi, hzi, hzz⟩ : ∃ i, P.info? et = some i ∧ i.zero = some z := by
            cases hi : P.info? et with
            | none => rw [hi] at hz; simp at hz
            | some i => rw [hi] at hz; exact ⟨i, rfl, hz⟩
          obtain ⟨vm, vk, rfl, hm, hkr⟩ := lr2 hv
          exact mentry_sound R hT0 hu hk hzi hzz hcz hm hkr h
        · cases hc
      · cases hc
    · cases hc
  · rename_i t m s x
    cases hc
    obtain ⟨vm, vk, vx, rfl, hm, hkr, hx⟩ := lr3 hv
    exact estore_sound R hT0 hm hkr hx h
  · rename_i it isS
    split at hc
    · rename_i hs
      subst hs
      cases hc
      obtain ⟨vm, rfl, hm⟩ := lr1 hv
      exact snext_sound R hT0 hm h
    · cases hc
  · -- delete
    rename_i args argTypes
    split at hc
    · rename_i m k t u hargs htys
      have e1 : args = #[m, k] := by cases args; simp_all
      have e2 : argTypes = #[t, u] := by cases argTypes; simp_all
      subst e1; subst e2
      split at hc
      · rename_i kt et hu
        split at hc
        · rename_i kk hk
          cases hc
          obtain ⟨vm, vk, rfl, hm, hkr⟩ := lr2 hv
          obtain ⟨n, v', w', j', hr, hrest⟩ := del_sound (P := P) R hT0 (ty := type) (tys := #[t, u]) rfl hu hk hm hkr h
          refine ⟨n, v', w', j', ?_, hrest⟩
          simp only [execOp, resolve, List.map_toArray, List.map_cons, List.map_nil, Sem.run_bind, Sem.run_pure, Result.andThen_ok, invoke, builtin] at hr ⊢
          exact hr
        · cases hc
      · cases hc
    · cases hc
  · -- append
    rename_i args argTypes
    split at hc
    · rename_i s x t u hargs htys
      have e1 : args = #[s, x] := by cases args; simp_all
      have e2 : argTypes = #[t, u] := by cases argTypes; simp_all
      subst e1; subst e2
      have main : ∀ (e : TypeId) (i : TypeInfo) (z : Value), AppTy P #[t, u] e i z → (p = .app i.size i.bytes ∧ xs = [s, x]) → EffOk P w0 ng top j H w (execOp ρ { dst := dst, op := .call { callee := .builtin .append, args := #[s, x], argTypes := #[t, u] }, type := type, pos := pos, after := after, guard := guard }) v H' := by
        rintro e i z T ⟨rfl, rfl⟩
        obtain ⟨vs', vx, rfl, hs, hx⟩ := lr2 hv
        simp only [effSem] at h
        split at h
        · rename_i k new hsrc
          obtain ⟨n, v', w', j', hr, hrest⟩ := appD_sound (P := P) R (ty := type) T hs hx hsrc h hT
          refine ⟨n, v', w', j', ?_, hrest⟩
          simp only [execOp, resolve, List.map_toArray, List.map_cons, List.map_nil, Sem.run_bind, Sem.run_pure, Result.andThen_ok, invoke, builtin] at hr ⊢
          exact hr
        · cases h
      split at hc
      · rename_i e q hu hq
        split at hc
        · rename_i i hi
          split at hc
          · rename_i z hz
            split at hc
            · rename_i hcnd
              simp only [Bool.and_eq_true, decide_eq_true_eq, beq_iff_eq] at hcnd
              cases hc
              exact main e i z ⟨⟨t, u, _, rfl, rfl, hu, hq, .inl ⟨q, rfl⟩⟩, hi, hz, hcnd.1.1, hcnd.1.2, hcnd.2⟩ ⟨rfl, rfl⟩
            · cases hc
          · cases hc
        · cases hc
      · rename_i e hu hq
        split at hc
        · rename_i i hi
          split at hc
          · rename_i z hz
            split at hc
            · rename_i hcnd
              simp only [Bool.and_eq_true, decide_eq_true_eq, beq_iff_eq] at hcnd
              cases hc
              exact main e i z ⟨⟨t, u, _, rfl, rfl, hu, hq, .inr rfl⟩, hi, hz, hcnd.1.1, hcnd.1.2, hcnd.2⟩ ⟨rfl, rfl⟩
            · cases hc
          · cases hc
        · cases hc
      · cases hc
    · cases hc
  · -- copy
    rename_i args argTypes
    split at hc
    · rename_i d x t u hargs htys
      have e1 : args = #[d, x] := by cases args; simp_all
      have e2 : argTypes = #[t, u] := by cases argTypes; simp_all
      subst e1; subst e2
      split at hc
      · rename_i e hu
        split at hc
        · rename_i i hi
          split at hc
          · rename_i hpos
            cases hc
            obtain ⟨vs', vx, rfl, hs, hx⟩ := lr2 hv
            obtain ⟨n, v', w', j', hr, hrest⟩ := copy_sound (P := P) R hT0 (ty := type) (tys := #[t, u]) rfl hu hi hpos hs hx h
            refine ⟨n, v', w', j', ?_, hrest⟩
            simp only [execOp, resolve, List.map_toArray, List.map_cons, List.map_nil, Sem.run_bind, Sem.run_pure, Result.andThen_ok, invoke, builtin] at hr ⊢
            exact hr
          · cases hc
        · cases hc
      · cases hc
    · cases hc
  · -- clear
    rename_i args argTypes
    split at hc
    · rename_i s t hargs htys
      have e1 : args = #[s] := by cases args; simp_all
      have e2 : argTypes = #[t] := by cases argTypes; simp_all
      subst e1; subst e2
      split at hc
      · rename_i e hu
        split at hc
        · rename_i i hi
          split at hc
          · rename_i z hz
            split at hc
            · rename_i hcnd
              simp only [Bool.and_eq_true, decide_eq_true_eq, beq_iff_eq] at hcnd
              cases hc
              obtain ⟨vs', rfl, hs⟩ := lr1 hv
              obtain ⟨n, v', w', j', hr, hrest⟩ := clear_sound (P := P) R hT0 (ty := type) (tys := #[t]) rfl hu hi hz hcnd.1.1 hcnd.1.2 hcnd.2 hs h
              refine ⟨n, v', w', j', ?_, hrest⟩
              simp only [execOp, resolve, List.map_toArray, List.map_cons, List.map_nil, Sem.run_bind, Sem.run_pure, Result.andThen_ok, invoke, builtin] at hr ⊢
              exact hr
            · cases hc
          · cases hc
        · cases hc
      · cases hc
    · cases hc
  · cases hc

end
end Go.Proofs.YtdpbbppjjjhnoaaGreatDoor.D
