/- The abstract machine "D": every instruction that only reckons does what the operation does from which it was made (all of them). No statement of the seat is proved in this text. -/
import Derived.Test.YtdpbbppjjjhnoaaGreatDoorDh
set_option linter.unusedSimpArgs false
set_option linter.unusedVariables false
namespace Go.Proofs.YtdpbbppjjjhnoaaGreatDoor.D
open Go

section
variable {P : Program} {n0 : Nat} {j : Inj}

theorem un_sound {op : UnOp} {a a' v : Value} (ha : VRel n0 j a a') (h : unD op a = some v) : Yields1 P n0 j (do pure (Next.value (← Op.unary op a'))) v := by
  cases op <;> cases a <;> simp only [unD] at h <;> first | (cases h; done) | skip
  all_goals cases h
  all_goals first
    | (rw [int_of ha]; exact ⟨_, fun w => by simp [Op.unary, Op.intArith, Op.intBits], .int _ _⟩)
    | (rw [bool_of ha]; exact ⟨_, fun w => by simp [Op.unary], .bool _⟩)

theorem foldD_sound (f : Value → Value → Option Value) (g : Value → Value → Sem Value) (hfg : ∀ a a' b b' v, VRel n0 j a a' → VRel n0 j b b' → f a b = some v → ∃ v', (∀ w, (g a' b').run P w = .ok v' w) ∧ VRel n0 j v v') :
    ∀ (l l' : List Value) (a a' v : Value), VRel n0 j a a' → LRel n0 j l l' → foldD f a l = some v → ∃ v', (∀ w, (l'.foldlM g a').run P w = .ok v' w) ∧ VRel n0 j v v'
  | [], l', a, a', v, ha, hl, h => by
    rw [hl.nil_inv]
    cases h
    exact ⟨a', fun w => rfl, ha⟩
  | x :: l, l', a, a', v, ha, hl, h => by
    obtain ⟨x', t, rfl, hx, ht⟩ := hl.uncons
    simp only [foldD] at h
    split at h
    · rename_i u hu
      obtain ⟨u', h1, h2⟩ := hfg a a' x x' u ha hx hu
      obtain ⟨v', h3, h4⟩ := foldD_sound f g hfg l t u u' v h2 ht h
      exact ⟨v', fun w => by simp [List.foldlM_cons, h1, h3], h4⟩
    · cases h

theorem slc_known {a a' : Addr} (ha : ARel n0 j a a') (n l h m : Nat) (h1 : l ≤ h) (h2 : h ≤ m) :
    VRel n0 j (.slice (some (if m = l then a else aadd a (l * n))) (h - l) (m - l)) (.slice (some (if m = l then a' else a'.add (l * n))) (h - l) (m - l)) := by
  by_cases e : m = l
  · rw [if_pos e, if_pos e]; exact .slice _ _ _ _ ha (by omega)
  · rw [if_neg e, if_neg e]; exact .slice _ _ _ _ (ha.add _) (by omega)

theorem ARel.notag {a a' : Addr} (ha : ARel n0 j a a') : ∀ k, a.spot ≠ some (k + 1) := by
  intro k; cases ha <;> simp

theorem sliceD_sound {n : Nat} {a : Addr} {len cap : Nat} {x' : Value} (hx : VRel n0 j (.slice (some a) len cap) x') {lo hi mx : Option Value} {xs : List Value} (hxs : LRel n0 j xs (lo.toList ++ hi.toList ++ mx.toList)) {v : Value}
    (h : sliceD n a len cap lo.isSome hi.isSome mx.isSome xs = some v) :
    ∃ a' cap' l' h' m', x' = .slice (some a') len cap' ∧ (∀ w, (Instr.sliceBounds true len cap' lo hi mx).run P w = .ok (l', h', m') w) ∧
      VRel n0 j v (.slice (if m' = l' then some a' else (some a').map (·.add (l' * n))) (h' - l') (m' - l')) := by
  have hif : ∀ (a' : Addr) (m l : Nat), (if m = l then some a' else (some a').map (·.add (l * n))) = some (if m = l then a' else a'.add (l * n)) := by
    intro a' m l; split <;> rfl
  cases hx with
  | slice0 a' =>
    unfold sliceD at h
    simp only at h
    split at h
    · rename_i l h' m hb
      cases h
      obtain ⟨r1, r2, r3, r4, r5⟩ := bounds_sound (P := P) true hxs hb (Nat.le_refl 0) (Nat.le_refl 0) default
      have hm : m = 0 ∧ l = 0 ∧ h' = 0 := by omega
      obtain ⟨rfl, rfl, rfl⟩ := hm
      exact ⟨a', 0, 0, 0, 0, rfl, fun w => by simpa using (bounds_sound (P := P) true hxs hb (Nat.le_refl 0) (Nat.le_refl 0) w).1, .slice0 a'⟩
    · cases h
  | slice _ a' _ _ ha hl =>
    have hs : ∀ k, a.spot ≠ some (k + 1) := ha.notag
    unfold sliceD at h
    split at h
    · rename_i k hk; exact absurd hk (hs k)
    · split at h
      · rename_i l h' m hb
        cases h
        have := bounds_sound (P := P) true hxs hb hl (Nat.le_refl cap)
        refine ⟨a', cap, l, h', m, rfl, fun w => ?_, ?_⟩
        · obtain ⟨r1, _, _, _, r5⟩ := this w
          rw [r1]
          cases mx with
          | none => rw [r5 rfl]; rfl
          | some _ => rfl
        · obtain ⟨_, r2, r3, _, _⟩ := this default
          rw [hif]
          exact slc_known ha n l h' m r2 r3
      · cases h
  | uslice b o _ cap' a' i hb hl ha =>
    unfold sliceD at h
    split at h
    · rename_i k hk
      split at h
      · rename_i hkn
        have hk2 : i.esz = k := by simpa using hk
        clear hk
        subst hk2
        split at h
        · rename_i l h' m hbo
          have := bounds_sound (P := P) true hxs hbo (Nat.le_refl len) hl
          obtain ⟨_, q1, q2, q3, q4⟩ := this default
          split at h
          · rename_i hmx
            split at h
            · rename_i hlm
              cases h
              refine ⟨a', cap', l, h', m, rfl, fun w => by rw [(this w).1, if_pos hmx], ?_⟩
              rw [hif, if_neg (by omega)]
              rcases ha with h0 | ⟨rfl, h0⟩
              · omega
              · have hr := (ARel.new (n0 := n0) b o i hb).add (l * n)
                exact .slice _ _ _ _ hr (by omega)
            · cases h
          · rename_i hmx
            cases h
            refine ⟨a', cap', l, h', cap', rfl, fun w => by rw [(this w).1, if_neg hmx], ?_⟩
            rw [hif]
            refine .uslice b (o + l * n) (h' - l) (cap' - l) _ i hb (by omega) ?_
            by_cases e : cap' = l
            · left; omega
            · right
              rw [if_neg e]
              rcases ha with h0 | ⟨rfl, h0⟩
              · omega
              · refine ⟨?_, ?_⟩
                · rw [(ARel.new (n0 := n0) (j := j) b o i hb).add_eq]
                  simp; omega
                · rw [← hkn]
                  have : l * i.esz + (cap' - l) * i.esz = cap' * i.esz := by rw [← Nat.add_mul]; congr 1; omega
                  omega
        · cases h
      · cases h
    · rename_i hk; exact absurd rfl (hk i.esz)

theorem slice_elem {ad : Addr} {len cap : Nat} {y : Value} (ha : VRel n0 j (.slice (some ad) len cap) y) (hl : 0 < len) : ∃ a' cap', y = .slice (some a') len cap' ∧ ARel n0 j (toPtr ad) a' := by
  cases ha with
  | slice0 a' => omega
  | slice _ a' _ _ h1 h2 =>
    refine ⟨a', cap, rfl, ?_⟩
    cases h1 with
    | new b o i hb => exact .new b o i hb
    | old b o hb => exact .old b o hb
  | uslice b o _ cap' a' i h1 h2 h3 =>
    rcases h3 with h3 | ⟨rfl, _⟩
    · omega
    · exact ⟨_, cap', rfl, .new b o i h1⟩

theorem pure_sound {o : Oper} {p : PI} {xs : List Operand} (hc : compilePure P o = some (p, xs)) {ρ : Operand → Value} (hρ : ∀ c, ρ (.const c) = c) {vs : List Value} (hv : LRel n0 j vs (xs.map ρ))
    {v : Value} (h : pureSem p vs = some v) : Yields1 P n0 j (execOp ρ o) v := by
  obtain ⟨dst, op, type, pos, after, guard⟩ := o
  unfold compilePure at hc
  simp only at hc
  split at hc
  · -- move
    cases hc
    obtain ⟨a, rfl, ha⟩ := lr1 hv
    cases h
    exact y_pure ha
  · cases hc
    obtain ⟨a, rfl, ha⟩ := lr1 hv
    cases h
    exact y_pure ha
  · -- pick
    cases hc
    obtain ⟨c, a, b, rfl, hc, ha, hb⟩ := lr3 hv
    cases c <;> simp only [pureSem] at h <;> first | (cases h; done) | skip
    rename_i t
    cases h
    simp only [execOp]
    rw [bool_of hc]
    cases t
    · exact ⟨_, fun w => by simp [asBool], hb⟩
    · exact ⟨_, fun w => by simp [asBool], ha⟩
  · -- ==
    have := eq_sound (neg := false) hc hρ hv h
    exact this
  · have := eq_sound (neg := true) hc hρ hv h
    exact this
  · -- other operators
    cases hc
    obtain ⟨a, b, rfl, ha, hb⟩ := lr2 hv
    exact bin_sound ha hb h
  · cases hc
    obtain ⟨a, rfl, ha⟩ := lr1 hv
    exact un_sound ha h
  · -- convert
    rename_i s d x
    split at hc
    · rename_i ds k hs hd
      cases hc
      obtain ⟨a, rfl, ha⟩ := lr1 hv
      cases a <;> simp only [pureSem] at h <;> first | (cases h; done) | skip
      cases h
      refine y_of (v' := _) (fun w => ?_) (.int _ _)
      rw [int_of ha]
      simp only [convert, Sem.run_bind, run_underlying hs, run_underlying hd, Result.andThen_ok]
      cases ds <;> rfl
    · rename_i hs hd
      cases hc
      obtain ⟨a, rfl, ha⟩ := lr1 hv
      cases a <;> simp only [pureSem] at h <;> first | (cases h; done) | skip
      cases h
      refine y_of (v' := _) (fun w => ?_) (.string _)
      rw [string_of ha]
      simp only [convert, Sem.run_bind, run_underlying hs, run_underlying hd, Result.andThen_ok]
      rfl
    · cases hc
  · -- build
    rename_i t parts
    have hpm : ∀ (f : Nat → Option (Nat × Nat)), Instr.fill f = Instr.fill f := fun _ => rfl
    split at hc
    · rename_i z fs hz hu
      split at hc
      · rename_i hcs
        simp only [Bool.and_eq_true] at hcs
        split at hc
        · rename_i l hl
          cases hc
          simp only [pureSem] at h
          split at h
          · rename_i out hout
            cases h
            obtain ⟨i, hi, hiz⟩ : ∃ i, P.info? t = some i ∧ i.zero = some z := by
              cases hi : P.info? t with
              | none => rw [hi] at hz; simp at hz
              | some i => rw [hi] at hz; exact ⟨i, rfl, hz⟩
            -- the places
            have hmap : ∀ w, (fs.mapM (m := Sem) fun f => do pure (f.offset, ← sizeOf f.type)).run P w = .ok (fs.map fun f => (f.offset, P.cellsOf f.type)) w := by
              intro w
              rw [Array.mapM_eq_mapM_toList]
              have hall : ∀ (l : List Field), l.all (fun f => (P.info? f.type).isSome) = true → ∀ w, (l.mapM (m := Sem) fun f => do pure (f.offset, ← sizeOf f.type)).run P w = .ok (l.map fun f => (f.offset, P.cellsOf f.type)) w := by
                intro l
                induction l with
                | nil => intro _ w; rfl
                | cons f l ih =>
                  intro hf w
                  simp only [List.all_cons, Bool.and_eq_true] at hf
                  obtain ⟨i, hi⟩ := Option.isSome_iff_exists.1 hf.1
                  have hcell : P.cellsOf f.type = i.size := by simp [Program.cellsOf, hi]
                  simp only [List.mapM_cons, Sem.run_bind, run_sz hi, Result.andThen_ok, Sem.run_pure, ih hf.2, List.map_cons, hcell]
              simp only [Sem.run_map, hall fs.toList hcs.2 w]
              simp [← Array.toList_map]
            have hplaces : ∀ (ps : List (Nat × Operand)) (l : List (Nat × Nat)), placesS P fs ps = some l → ps.map (fun p => (fs.map fun f => (f.offset, P.cellsOf f.type))[p.1]?) = l.map some := by
              intro ps
              induction ps with
              | nil => intro l hl; simp only [placesS, Option.some.injEq] at hl; subst hl; rfl
              | cons p ps ih =>
                intro l hl
                obtain ⟨k, x⟩ := p
                simp only [placesS] at hl
                split at hl
                · cases hl
                · rename_i f hf
                  split at hl
                  · rename_i inf r hinf hr
                    cases hl
                    simp only [List.map_cons, ih r hr]
                    congr 1
                    simp [hf, Program.cellsOf, hinf]
                  · cases hl
            obtain ⟨out', ho, hor⟩ := fill_sound (n0 := n0) (j := j) ((fs.map fun f => (f.offset, P.cellsOf f.type))[·]?) ((parts.map fun (i, x) => (i, ρ x)).toList) l vs z.cells.toList z.cells out (cstL_rel hcs.1)
              (by simpa [Function.comp_def] using hv) (by
                have := hplaces parts.toList l hl
                simpa [Function.comp_def] using this) hout
            refine y_of (v' := .agg out') (fun w => ?_) (LRel.agg hor)
            simp only [Instr.build, Sem.run_bind, run_zero hi hiz, Result.andThen_ok, run_underlying hu, hmap, ho]
            rfl
          · cases h
        · cases hc
      · cases hc
    · rename_i z len e hz hu
      split at hc
      · rename_i hcs
        split at hc
        · rename_i inf hinf
          cases hc
          simp only [pureSem] at h
          split at h
          · rename_i out hout
            cases h
            obtain ⟨i, hi, hiz⟩ : ∃ i, P.info? t = some i ∧ i.zero = some z := by
              cases hi : P.info? t with
              | none => rw [hi] at hz; simp at hz
              | some i => rw [hi] at hz; exact ⟨i, rfl, hz⟩
            obtain ⟨out', ho, hor⟩ := fill_sound (n0 := n0) (j := j) (fun i => some (i * inf.size, inf.size)) ((parts.map fun (i, x) => (i, ρ x)).toList) _ vs z.cells.toList z.cells out (cstL_rel hcs)
              (by simpa [Function.comp_def] using hv) (by simp [Function.comp_def]) hout
            refine y_of (v' := .agg out') (fun w => ?_) (LRel.agg hor)
            simp only [Instr.build, Sem.run_bind, run_zero hi hiz, Result.andThen_ok, run_underlying hu, run_sz hinf, ho]
            rfl
          · cases h
        · cases hc
      · cases hc
    · cases hc
  · -- fieldAddr
    split at hc
    · rename_i fs hu
      split at hc
      · rename_i f hf
        split at hc
        · rename_i inf hinf
          split at hc
          · cases hc
          · rename_i hsz
            cases hc
            obtain ⟨a, rfl, ha⟩ := lr1 hv
            cases a <;> simp only [pureSem] at h <;> first | (cases h; done) | skip
            rename_i q
            cases q <;> simp only [pureSem] at h <;> first | (cases h; done) | skip
            cases h
            obtain ⟨a', he, har⟩ := ptr_of ha
            refine y_of (v' := _) (fun w => ?_) (.ptr _ _ (har.add f.offset))
            simp only [Instr.fieldAt, he, Instr.sureAddr, fieldPlace, Sem.run_bind, run_underlying hu, hf, run_sz hinf, Result.andThen_ok, Sem.run_pure, hsz, if_false]
        · cases hc
      · cases hc
    · cases hc
  · -- field
    split at hc
    · rename_i fs hu
      split at hc
      · rename_i f hf
        split at hc
        · rename_i inf d hinf hd
          cases hc
          obtain ⟨a, rfl, ha⟩ := lr1 hv
          cases a <;> simp only [pureSem] at h <;> first | (cases h; done) | skip
          obtain ⟨c', he, hcr⟩ := agg_of ha
          obtain ⟨v', h1, h2⟩ := partD_sound (P := P) hd hinf hcr h
          refine y_of (v' := v') (fun w => ?_) h2
          simp only [Instr.field, he, asAgg, Sem.run_bind, run_underlying hu, hf, Result.andThen_ok, Sem.run_pure, h1]
        · cases hc
      · cases hc
    · cases hc
  · -- indexAddr
    split at hc
    · rename_i e hu
      split at hc
      · rename_i inf hinf
        cases hc
        obtain ⟨a, b, rfl, ha, hb⟩ := lr2 hv
        cases a <;> simp only [pureSem] at h <;> first | (cases h; done) | skip
        rename_i q len cap
        cases q <;> cases b <;> simp only [pureSem] at h <;> first | (cases h; done) | skip
        rename_i ad k i
        split at h
        · rename_i hin
          cases h
          obtain ⟨a', cap', he, har⟩ := slice_elem ha (by omega)
          refine y_of (v' := _) (fun w => ?_) (.ptr _ _ (har.add (i.toNat * inf.size)))
          rw [he, int_of hb]
          simp only [Instr.indexAt, asIntOf, Sem.run_bind, run_underlying hu, Result.andThen_ok, Sem.run_pure, hin, if_true, run_sz hinf]
          simp [run_sz hinf]
        · cases h
      · cases hc
    · rename_i len e hu
      split at hc
      · rename_i inf hinf
        cases hc
        obtain ⟨a, b, rfl, ha, hb⟩ := lr2 hv
        cases a <;> simp only [pureSem] at h <;> first | (cases h; done) | skip
        rename_i q
        cases q <;> cases b <;> simp only [pureSem] at h <;> first | (cases h; done) | skip
        rename_i ad k i
        split at h
        · rename_i hin
          cases h
          obtain ⟨a', he, har⟩ := ptr_of ha
          refine y_of (v' := _) (fun w => ?_) (.ptr _ _ (har.add (i.toNat * inf.size)))
          rw [he, int_of hb]
          simp only [Instr.indexAt, Instr.sureAddr, asIntOf, Sem.run_bind, run_underlying hu, Result.andThen_ok, Sem.run_pure, hin, if_true, run_sz hinf]
          simp [run_sz hinf]
        · cases h
      · cases hc
    · cases hc
  · -- index
    split at hc
    · rename_i hu
      cases hc
      obtain ⟨a, b, rfl, ha, hb⟩ := lr2 hv
      cases a <;> cases b <;> simp only [pureSem] at h <;> first | (cases h; done) | skip
      rename_i s k i
      unfold idxStrD at h
      split at h
      · rename_i c hcx
        cases h
        refine y_of (v' := _) (fun w => ?_) (.int _ _)
        rw [string_of ha, int_of hb]
        simp only [Instr.index, asIntOf, Sem.run_bind, run_underlying hu, Result.andThen_ok, Sem.run_pure, hcx]
      · cases h
    · rename_i len e hu
      split at hc
      · rename_i inf d hinf hd
        cases hc
        obtain ⟨a, b, rfl, ha, hb⟩ := lr2 hv
        cases a <;> cases b <;> simp only [pureSem] at h <;> first | (cases h; done) | skip
        rename_i c k i
        split at h
        · rename_i hin
          obtain ⟨c', he, hcr⟩ := agg_of ha
          obtain ⟨v', h1, h2⟩ := partD_sound (P := P) hd hinf hcr h
          refine y_of (v' := v') (fun w => ?_) h2
          rw [he, int_of hb]
          simp only [Instr.index, asIntOf, Sem.run_bind, run_underlying hu, Result.andThen_ok, Sem.run_pure, hin, if_true, run_sz hinf, h1]
          simp [run_sz hinf, h1]
        · cases h
      · cases hc
    · cases hc
  · -- extract
    cases hc
    obtain ⟨a, rfl, ha⟩ := lr1 hv
    cases a <;> simp only [pureSem] at h <;> first | (cases h; done) | skip
    rename_i c
    generalize hy : ρ _ = y at ha
    cases ha with
    | undef _ => simp [undef] at h
    | tuple _ c' hs hcc =>
      obtain ⟨v', hv', hr⟩ := (LRel.of_arr hs hcc).get h
      refine y_of (v' := v') (fun w => ?_) hr
      rw [hy]
      rw [Array.getElem?_toList] at hv'
      simp only [Instr.extract, hv']
      rfl
  · -- nilCheck
    cases hc
    obtain ⟨a, rfl, ha⟩ := lr1 hv
    simp only [pureSem] at h
    unfold nilchkD at h
    split at h
    · cases h
      obtain ⟨a', he, har⟩ := ptr_of ha
      refine ⟨_, fun w => ?_, .ptr _ _ har⟩
      simp only [execOp, he]
      rfl
    · cases h
      generalize hy : ρ _ = y at ha
      cases ha with
      | func fn f c f' c' h1 h2 h3 h4 =>
        refine ⟨_, fun w => ?_, .func _ _ _ f' c' h1 h2 h3 h4⟩
        simp only [execOp, hy]
        rfl
    · cases h
  · -- slice
    rename_i t x lo hi mx
    have hopt : ∀ (q : Option Operand), (q.map ρ).isSome = q.isSome := fun q => by cases q <;> rfl
    have hol : ∀ (q : Option Operand), q.toList.map ρ = (q.map ρ).toList := fun q => by cases q <;> rfl
    split at hc
    · rename_i hu
      split at hc
      · cases hc
      · rename_i hmx
        cases hc
        have hmn : mx = none := by cases mx <;> simp at hmx; rfl
        subst hmn
        simp only [List.map_append, List.map_cons, List.map_nil, List.cons_append, List.nil_append, hol] at hv
        obtain ⟨a, r, rfl, ha, hr⟩ := lrc hv
        cases a <;> simp only [pureSem] at h <;> first | (cases h; done) | skip
        rename_i s
        split at h
        · rename_i l h' m hb
          cases h
          refine y_of (v' := .string (s.extract l h')) (fun w => ?_) (.string _)
          rw [string_of ha]
          have := (bounds_sound (P := P) (lo := lo.map ρ) (hi := hi.map ρ) (mx := none) false (by simpa using hr) (by rw [hopt, hopt]; exact hb) (Nat.le_refl _) (Nat.le_refl _) w).1
          simp only [Instr.sliceAt, Instr.slice, Sem.run_bind, run_underlying hu, Result.andThen_ok, Option.map_none]
          simp [this]
        · cases h
    · rename_i e hu
      split at hc
      · rename_i inf hinf
        cases hc
        simp only [List.map_append, List.map_cons, List.map_nil, List.cons_append, List.nil_append, hol] at hv
        obtain ⟨a, r, rfl, ha, hr⟩ := lrc hv
        cases a <;> simp only [pureSem] at h <;> first | (cases h; done) | skip
        rename_i q len cap
        cases q with
        | none =>
          cases len <;> cases cap <;> simp only [pureSem] at h <;> first | (cases h; done) | skip
          split at h
          · rename_i bb hb
            obtain ⟨l, h', m⟩ := bb
            cases h
            have hx : ρ x = .slice none 0 0 := by
              generalize ρ x = y at ha
              cases ha
              rfl
            refine y_of (v' := .slice none 0 0) (fun w => ?_) .nilSlice
            rw [hx]
            obtain ⟨r1, r2, r3, r4, r5⟩ := bounds_sound (P := P) (lo := lo.map ρ) (hi := hi.map ρ) (mx := mx.map ρ) true hr (by rw [hopt, hopt, hopt]; exact hb) (Nat.le_refl _) (Nat.le_refl _) w
            have hm : (if (mx.map ρ).isSome = true then m else 0) = 0 := by split <;> omega
            rw [hm] at r1
            simp only [Instr.sliceAt, Instr.slice, Sem.run_bind, run_underlying hu, Result.andThen_ok, r1, run_sz hinf, Sem.run_pure]
            have : l = 0 := by omega
            have : h' = 0 := by omega
            subst_vars
            simp
          · cases h
        | some ad =>
          simp only [pureSem] at h
          have h0 : sliceD inf.size ad len cap (lo.map ρ).isSome (hi.map ρ).isSome (mx.map ρ).isSome r = some v := by rw [hopt, hopt, hopt]; exact h
          obtain ⟨a', cap', l', h', m', e1, e2, e3⟩ := sliceD_sound (P := P) ha hr h0
          refine y_of (v' := _) (fun w => ?_) e3
          rw [e1]
          simp only [Instr.sliceAt, Instr.slice, Sem.run_bind, run_underlying hu, Result.andThen_ok, e2, run_sz hinf, Sem.run_pure]
      · cases hc
    · rename_i len e hu
      split at hc
      · rename_i inf hinf
        cases hc
        simp only [List.map_append, List.map_cons, List.map_nil, List.cons_append, List.nil_append, hol] at hv
        obtain ⟨a, r, rfl, ha, hr⟩ := lrc hv
        cases a <;> simp only [pureSem] at h <;> first | (cases h; done) | skip
        rename_i q
        cases q <;> simp only [pureSem] at h <;> first | (cases h; done) | skip
        rename_i ad
        split at h
        · rename_i l h' m hb
          cases h
          obtain ⟨a', he, har⟩ := ptr_of ha
          have hbs := bounds_sound (P := P) (lo := lo.map ρ) (hi := hi.map ρ) (mx := mx.map ρ) false hr (by rw [hopt, hopt, hopt]; exact hb) (Nat.le_refl _) (Nat.le_refl _)
          obtain ⟨_, r2, r3, r4, r5⟩ := hbs default
          have hm : (if (mx.map ρ).isSome = true then m else len) = m := by
            split
            · rfl
            · rename_i hn; exact (r5 (by cases mx <;> simp at hn ⊢)).symm
          refine y_of (v' := _) (fun w => ?_) (slc_known har inf.size l h' m r2 r3)
          rw [he]
          have r1 := (hbs w).1
          rw [hm] at r1
          simp only [Instr.sliceAt, Instr.sureAddr, Sem.run_bind, run_underlying hu, Result.andThen_ok, r1, run_sz hinf, Sem.run_pure]
        · cases h
      · cases hc
    · cases hc
  · -- makeInterface
    rename_i t x
    split at hc
    · cases hc
    · cases hc
    · rename_i hn1 hn2
      cases hc
      obtain ⟨a, rfl, ha⟩ := lr1 hv
      cases h
      refine y_of (v' := .iface t (ρ x)) (fun w => ?_) (.iface _ _ _ ha)
      cases hu : P.underlying t with
      | none => exact absurd hu hn2
      | some d =>
        simp only [Instr.makeInterface, Sem.run_bind, run_underlying hu, Result.andThen_ok]
        cases d <;> first | exact absurd hu (hn1 _) | rfl
  · -- makeFunc
    rename_i fn first captured
    cases hc
    simp only [pureSem, Option.some.injEq] at h
    subst h
    rw [List.map_append] at hv
    refine y_of (v' := .func fn (first.map ρ) (captured.map ρ)) (fun w => rfl) ?_
    have h1 := hv.take first.size
    have h2 := hv.drop first.size
    rw [List.take_left' (by simp)] at h1
    rw [List.drop_left' (by simp)] at h2
    refine .func _ _ _ _ _ ?_ ?_ ?_ ?_
    · have := h1.1; simpa using this
    · have := h2.1; simpa using this
    · intro k v v' hk hk'; exact h1.2 k v v' (by simpa using hk) (by simpa using hk')
    · intro k v v' hk hk'; exact h2.2 k v v' (by simpa using hk) (by simpa using hk')
  · -- len
    rename_i args argTypes
    split at hc
    · rename_i x t hargs htys
      have e1 : args = #[x] := by cases args; simp_all
      have e2 : argTypes = #[t] := by cases argTypes; simp_all
      subst e1; subst e2
      split at hc
      · rename_i hu
        cases hc
        obtain ⟨a, rfl, ha⟩ := lr1 hv
        cases a <;> simp only [pureSem] at h <;> first | (cases h; done) | skip
        cases h
        refine ⟨_, fun w => ?_, .int _ _⟩
        simp only [execOp, resolve, List.map_toArray, List.map_cons, List.map_nil, string_of ha, Sem.run_bind, Sem.run_pure, Result.andThen_ok, invoke, builtin, Builtin.len_, run_underlying hu]
        simp [run_underlying hu, goInt]
      · rename_i e hu
        cases hc
        obtain ⟨a, rfl, ha⟩ := lr1 hv
        cases a <;> simp only [pureSem] at h <;> first | (cases h; done) | skip
        rename_i q len cap
        cases h
        have hs : ∃ q' cap', ρ x = .slice q' len cap' := by
          generalize ρ x = y at ha
          cases ha
          · exact ⟨_, _, rfl⟩
          · exact ⟨_, _, rfl⟩
          · exact ⟨_, _, rfl⟩
          · exact ⟨_, _, rfl⟩
        obtain ⟨q', cap', hs⟩ := hs
        refine ⟨_, fun w => ?_, .int _ _⟩
        simp only [execOp, resolve, List.map_toArray, List.map_cons, List.map_nil, hs, Sem.run_bind, Sem.run_pure, Result.andThen_ok, invoke, builtin, Builtin.len_, run_underlying hu]
        simp [run_underlying hu, goInt]
      · rename_i n e hu
        cases hc
        obtain ⟨a, rfl, ha⟩ := lr1 hv
        cases h
        refine ⟨_, fun w => ?_, .int _ _⟩
        simp only [execOp, resolve, List.map_toArray, List.map_cons, List.map_nil, Sem.run_bind, Sem.run_pure, Result.andThen_ok, invoke, builtin, Builtin.len_, run_underlying hu]
        simp [run_underlying hu, goInt]
      · cases hc
    · cases hc
  · -- max
    rename_i args _
    cases hc
    cases vs with
    | nil => simp [pureSem] at h
    | cons a r =>
      obtain ⟨a', t, e, ha, hr⟩ := hv.uncons
      simp only [pureSem] at h
      obtain ⟨v', h1, h2⟩ := foldD_sound (P := P) (max2D true) Builtin.max2 (fun a a' b b' v ha hb h => by
        cases a <;> cases b <;> simp only [max2D] at h <;> first | (cases h; done) | skip
        cases h
        rw [int_of ha, int_of hb]
        exact ⟨_, fun w => rfl, .int _ _⟩) r t a a' v ha hr h
      refine ⟨v', fun w => ?_, h2⟩
      have e' : (args.map ρ).toList = a' :: t := by simpa using e
      simp only [execOp, resolve, Sem.run_bind, Sem.run_pure, Result.andThen_ok, invoke, builtin, Builtin.max_, e']
      simp [h1]
  · -- min
    rename_i args _
    cases hc
    cases vs with
    | nil => simp [pureSem] at h
    | cons a r =>
      obtain ⟨a', t, e, ha, hr⟩ := hv.uncons
      simp only [pureSem] at h
      obtain ⟨v', h1, h2⟩ := foldD_sound (P := P) (max2D false) Builtin.min2 (fun a a' b b' v ha hb h => by
        cases a <;> cases b <;> simp only [max2D] at h <;> first | (cases h; done) | skip
        cases h
        rw [int_of ha, int_of hb]
        exact ⟨_, fun w => rfl, .int _ _⟩) r t a a' v ha hr h
      refine ⟨v', fun w => ?_, h2⟩
      have e' : (args.map ρ).toList = a' :: t := by simpa using e
      simp only [execOp, resolve, Sem.run_bind, Sem.run_pure, Result.andThen_ok, invoke, builtin, Builtin.min_, e']
      simp [h1]
  · cases hc
end
end Go.Proofs.YtdpbbppjjjhnoaaGreatDoor.D
