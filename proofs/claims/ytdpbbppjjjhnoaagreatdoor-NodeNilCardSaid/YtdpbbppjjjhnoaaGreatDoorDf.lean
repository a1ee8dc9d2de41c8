/- The abstract machine "D": each instruction that only reckons does what the model's operation does. No statement of the seat is proved in this text. -/
import Derived.Test.YtdpbbppjjjhnoaaGreatDoorDe
set_option linter.unusedSimpArgs false
set_option linter.unusedVariables false
namespace Go.Proofs.YtdpbbppjjjhnoaaGreatDoor.D
open Go

theorem vcells_rel {n0 : Nat} {j : Inj} {v v' : Value} {l : List Value} (h : VRel n0 j v v') (hl : vcells v = some l) : LRel n0 j l v'.cells.toList := by
  cases h with
  | undef _ => simp [vcells, undef] at hl
  | skip => simp [vcells] at hl
  | agg c c' hs hc => simp only [vcells, Option.some.injEq] at hl; subst hl; exact LRel.of_arr hs hc
  | tuple c c' hs hc => simp [vcells] at hl
  | bool b => cases hl; exact LRel.cons (.bool b) LRel.nil
  | int k n => cases hl; exact LRel.cons (.int k n) LRel.nil
  | string s => cases hl; exact LRel.cons (.string s) LRel.nil
  | nilPtr => cases hl; exact LRel.cons .nilPtr LRel.nil
  | ptr a a' h => cases hl; exact LRel.cons (.ptr a a' h) LRel.nil
  | nilSlice => cases hl; exact LRel.cons .nilSlice LRel.nil
  | slice a a' len cap h hc => cases hl; exact LRel.cons (.slice a a' len cap h hc) LRel.nil
  | slice0 a' => cases hl; exact LRel.cons (.slice0 a') LRel.nil
  | uslice b o len cap' a' i h1 h2 h3 => cases hl; exact LRel.cons (.uslice b o len cap' a' i h1 h2 h3) LRel.nil
  | nilMap => cases hl; exact LRel.cons .nilMap LRel.nil
  | map b i h => cases hl; exact LRel.cons (.map b i h) LRel.nil
  | nilFunc => cases hl; exact LRel.cons .nilFunc LRel.nil
  | func fn f c f' c' h1 h2 h3 h4 => cases hl; exact LRel.cons (.func fn f c f' c' h1 h2 h3 h4) LRel.nil
  | nilIface => cases hl; exact LRel.cons .nilIface LRel.nil
  | iface t v v' h => cases hl; exact LRel.cons (.iface t v v' h) LRel.nil

theorem cst1_rel {n0 : Nat} {j : Inj} {v : Value} (h : cst1 v = true) : VRel n0 j v v := by
  unfold cst1 at h
  split at h
  · exact .bool _
  · exact .int _ _
  · exact .string _
  · exact .nilPtr
  · exact .nilSlice
  · exact .nilMap
  · exact .nilFunc
  · exact .nilIface
  · rename_i f a b
    simp only [Bool.and_eq_true, Array.isEmpty_iff] at h
    obtain ⟨rfl, rfl⟩ := h
    exact .func _ _ _ _ _ rfl rfl (by simp) (by simp)
  · cases h

theorem cstL_rel {n0 : Nat} {j : Inj} : ∀ {l : List Value}, l.all cst1 = true → LRel n0 j l l
  | [], _ => LRel.nil
  | v :: l, h => by
    simp only [List.all_cons, Bool.and_eq_true] at h
    exact LRel.cons (cst1_rel h.1) (cstL_rel h.2)

theorem cst_rel {n0 : Nat} {j : Inj} {v : Value} (h : cst v = true) : VRel n0 j v v := by
  unfold cst at h
  split at h
  · exact LRel.agg (cstL_rel h)
  · exact LRel.tuple (cstL_rel h)
  · exact cst1_rel h

/-- What 'fill' of the model does. -/
theorem fill_sound {n0 : Nat} {j : Inj} (place : Nat → Option (Nat × Nat)) : ∀ (parts : List (Nat × Value)) (places : List (Nat × Nat)) (vs : List Value) (cells : List Value) (cells' : Array Value) (out : List Value),
    LRel n0 j cells cells'.toList → LRel n0 j vs (parts.map (·.2)) → parts.map (fun p => place p.1) = places.map some → fillD cells places vs = some out →
    ∃ out', Instr.fill place cells' parts = some out' ∧ LRel n0 j out out'.toList
  | [], places, vs, cells, cells', out, hc, hv, hp, h => by
    have : places = [] := by cases places <;> simp at hp; rfl
    subst this
    have : vs = [] := by have := hv.1; cases vs <;> simp at this; rfl
    subst this
    simp only [fillD, Option.some.injEq] at h
    subst h
    exact ⟨cells', rfl, hc⟩
  | (i, v') :: parts, places, vs, cells, cells', out, hc, hv, hp, h => by
    cases places with
    | nil => simp at hp
    | cons pl places =>
      cases vs with
      | nil => have := hv.1; simp at this
      | cons v vs =>
        obtain ⟨off, n⟩ := pl
        simp only [List.map_cons, List.cons.injEq] at hp
        obtain ⟨v2, t2, e2, hvr, hvs⟩ := hv.uncons
        simp only [List.map_cons, List.cons.injEq] at e2
        obtain ⟨rfl, rfl⟩ := e2
        simp only [fillD] at h
        split at h
        · rename_i c hcl
          split at h
          · rename_i hlen
            split at h
            · rename_i hle
              have hr := vcells_rel hvr hcl
              have hl1 := hr.1
              have hl2 := hc.1
              have hsz : v'.cells.size = n := by rw [← hlen, hl1]; simp
              have hszc : cells'.size = cells.length := by rw [hl2]; simp
              have hput : ∀ (l : List Value) (cs : Array Value) (k : Nat), (l.zipIdx k).foldl (fun cs (x : Value × Nat) => cs.setIfInBounds (off + x.2) x.1) cs = aput cs (off + k) l := by
                intro l
                induction l with
                | nil => intro cs k; rfl
                | cons x l ih => intro cs k; simp only [List.zipIdx_cons, List.foldl_cons, ih, aput]; rfl
              have hfold : (v'.cells.zipIdx.foldl (fun cs (x : Value × Nat) => cs.setIfInBounds (off + x.2) x.1) cells') = aput cells' off v'.cells.toList := by
                rw [← Array.foldl_toList, Array.toList_zipIdx, hput]; rfl
              obtain ⟨out', ho, hor⟩ := fill_sound place parts places vs (splice cells off c) (aput cells' off v'.cells.toList) out (by
                refine ⟨by rw [splice_length _ _ _ (by omega)]; simp [aput_size]; omega, fun k x x' hx hx' => ?_⟩
                rw [splice_get _ _ _ _ (by omega)] at hx
                rw [Array.getElem?_toList, aput_get _ _ _ _ (by rw [← hl1]; omega)] at hx'
                by_cases hk : off ≤ k ∧ k < off + c.length
                · rw [if_pos hk] at hx; rw [if_pos (by omega)] at hx'; exact hr.2 _ _ _ hx hx'
                · rw [if_neg hk] at hx; rw [if_neg (by omega)] at hx'; exact hc.2 _ _ _ hx (by simpa using hx')) hvs hp.2 h
              refine ⟨out', ?_, hor⟩
              simp only [Instr.fill, hp.1]
              rw [if_neg (by simp [hsz]; omega)]
              rw [← ho]
              congr 1
            · cases h
          · cases h
        · cases h

section
variable {P : Program} {n0 : Nat} {j : Inj}

theorem partD_sound {t : TypeId} {d : TypeDesc} {i : TypeInfo} (hu : P.underlying t = some d) (hi : P.info? t = some i) {c c' : Array Value} (hc : LRel n0 j c.toList c'.toList) {off : Nat} {v : Value}
    (h : partD c.toList off i.size (isAggD d) = some v) : ∃ v', (∀ w, (part t c' off).run P w = .ok v' w) ∧ VRel n0 j v v' := by
  unfold partD at h
  split at h
  · rename_i ha
    cases h
    refine ⟨_, fun w => part_agg hu ha hi c' off w, LRel.agg ?_⟩
    rw [extract_toList]
    exact (hc.drop off).take i.size
  · rename_i ha
    obtain ⟨v', hv', hr⟩ := hc.get h
    exact ⟨v', fun w => part_one hu (by simpa using ha) c' off (by simpa using hv') w, hr⟩

theorem isNil_rel {k : NK} {v v' : Value} {b : Bool} (h : VRel n0 j v v') (hb : isNil k v = some b) : isNil k v' = some b := by
  cases h <;> cases k <;> first | exact hb | (simp [isNil, undef] at hb; done)

/-- The bounds of a slice expression. -/
theorem bound_sound {x x' : Value} (hx : VRel n0 j x x') {y r : Nat} (h : boundD x y = some r) (y' : Nat) (hy : y ≤ y') (c : BoundsCode) (w : World) : (Instr.sliceBound x' y' c).run P w = .ok r w ∧ r ≤ y := by
  cases hx with
  | int k i =>
    simp only [boundD] at h
    split at h
    · rename_i hb
      cases h
      refine ⟨?_, by omega⟩
      have hb' : 0 ≤ i ∧ i ≤ (y' : Int) := by omega
      simp only [Instr.sliceBound, asIntOf, pure, Sem.run_bind]
      simp [Sem.run, Result.andThen, hb']
    · cases h
  | _ => simp [boundD, undef] at h

theorem bounds_sound (isSlice : Bool) {lo hi mx : Option Value} {xs : List Value} (hx : LRel n0 j xs (lo.toList ++ hi.toList ++ mx.toList)) {len cap cap' l h m : Nat}
    (hb : boundsD len cap lo.isSome hi.isSome mx.isSome xs = some (l, h, m)) (hlc : len ≤ cap) (hcc : cap ≤ cap') (w : World) :
    (Instr.sliceBounds isSlice len cap' lo hi mx).run P w = .ok (l, h, if mx.isSome then m else cap') w ∧ l ≤ h ∧ h ≤ m ∧ m ≤ cap ∧ (mx = none → m = cap) := by
  have nil : ∀ {l : List Value}, LRel n0 j l [] → l = [] := fun {l} h => by have := h.1; cases l <;> simp at this; rfl
  have one : ∀ {l : List Value} {a}, LRel n0 j l [a] → ∃ x, l = [x] ∧ VRel n0 j x a := by
    intro l a h
    cases l with
    | nil => have := h.1; simp at this
    | cons x l => obtain ⟨v, t, e, h1, h2⟩ := h.uncons; cases e; rw [nil h2]; exact ⟨x, rfl, h1⟩
  have two : ∀ {l : List Value} {a b}, LRel n0 j l [a, b] → ∃ x y, l = [x, y] ∧ VRel n0 j x a ∧ VRel n0 j y b := by
    intro l a b h
    cases l with
    | nil => have := h.1; simp at this
    | cons x l => obtain ⟨v, t, e, h1, h2⟩ := h.uncons; cases e; obtain ⟨y, e, h3⟩ := one h2; rw [e]; exact ⟨x, y, rfl, h1, h3⟩
  have three : ∀ {l : List Value} {a b c}, LRel n0 j l [a, b, c] → ∃ x y z, l = [x, y, z] ∧ VRel n0 j x a ∧ VRel n0 j y b ∧ VRel n0 j z c := by
    intro l a b c h
    cases l with
    | nil => have := h.1; simp at this
    | cons x l => obtain ⟨v, t, e, h1, h2⟩ := h.uncons; cases e; obtain ⟨y, z, e, h3⟩ := two h2; rw [e]; exact ⟨x, y, z, rfl, h1, h3⟩
  cases lo with
  | none =>
    cases hi with
    | none =>
      cases mx with
      | none =>
        rw [nil hx] at hb
        simp only [boundsD, Option.isSome_none, Option.some.injEq, Prod.mk.injEq] at hb
        obtain ⟨rfl, rfl, rfl⟩ := hb
        exact ⟨rfl, Nat.zero_le _, hlc, Nat.le_refl _, fun _ => rfl⟩
      | some m' => obtain ⟨x, rfl, _⟩ := one hx; simp [boundsD] at hb
    | some h' =>
      cases mx with
      | none =>
        obtain ⟨x, rfl, hx1⟩ := one hx
        simp only [boundsD, Option.isSome_none, Option.isSome_some] at hb
        split at hb
        · rename_i r hr
          simp only [Option.some.injEq, Prod.mk.injEq] at hb
          obtain ⟨rfl, rfl, rfl⟩ := hb
          obtain ⟨r1, r2⟩ := bound_sound (P := P) hx1 hr cap' hcc (if isSlice then .sliceAcap else .sliceAlen) w
          refine ⟨?_, Nat.zero_le _, r2, Nat.le_refl _, fun _ => rfl⟩
          simp only [Instr.sliceBounds, Sem.run_bind, Sem.run_pure, Result.andThen_ok, r1]
          first | done | rfl
        · cases hb
      | some m' =>
        obtain ⟨x, y, rfl, hx1, hx2⟩ := two hx
        simp only [boundsD, Option.isSome_none, Option.isSome_some] at hb
        split at hb
        · rename_i r hr
          split at hb
          · rename_i q hq
            simp only [Option.some.injEq, Prod.mk.injEq] at hb
            obtain ⟨rfl, rfl, rfl⟩ := hb
            obtain ⟨r1, r2⟩ := bound_sound (P := P) hx2 hr cap' hcc (if isSlice then .slice3Acap else .slice3Alen) w
            obtain ⟨q1, q2⟩ := bound_sound (P := P) hx1 hq r (Nat.le_refl _) .slice3B w
            refine ⟨?_, Nat.zero_le _, q2, r2, fun e => by cases e⟩
            simp only [Instr.sliceBounds, Sem.run_bind, Sem.run_pure, Result.andThen_ok, r1, q1]
            first | done | rfl
          · cases hb
        · cases hb
  | some l' =>
    cases hi with
    | none =>
      cases mx with
      | none =>
        obtain ⟨x, rfl, hx1⟩ := one hx
        simp only [boundsD, Option.isSome_none, Option.isSome_some] at hb
        split at hb
        · rename_i r hr
          simp only [Option.some.injEq, Prod.mk.injEq] at hb
          obtain ⟨rfl, rfl, rfl⟩ := hb
          obtain ⟨r1, r2⟩ := bound_sound (P := P) hx1 hr len (Nat.le_refl _) (if (none : Option Value).isSome then .slice3C else .sliceB) w
          refine ⟨?_, r2, hlc, Nat.le_refl _, fun _ => rfl⟩
          simp only [Instr.sliceBounds, Sem.run_bind, Sem.run_pure, Result.andThen_ok, r1]
          first | done | rfl
        · cases hb
      | some m' => obtain ⟨x, y, rfl, _, _⟩ := two hx; simp [boundsD] at hb
    | some h' =>
      cases mx with
      | none =>
        obtain ⟨x, y, rfl, hx1, hx2⟩ := two hx
        simp only [boundsD, Option.isSome_none, Option.isSome_some] at hb
        split at hb
        · rename_i r hr
          split at hb
          · rename_i q hq
            simp only [Option.some.injEq, Prod.mk.injEq] at hb
            obtain ⟨rfl, rfl, rfl⟩ := hb
            obtain ⟨r1, r2⟩ := bound_sound (P := P) hx2 hr cap' hcc (if isSlice then .sliceAcap else .sliceAlen) w
            obtain ⟨q1, q2⟩ := bound_sound (P := P) hx1 hq r (Nat.le_refl _) (if (none : Option Value).isSome then .slice3C else .sliceB) w
            refine ⟨?_, q2, r2, Nat.le_refl _, fun _ => rfl⟩
            simp only [Instr.sliceBounds, Sem.run_bind, Sem.run_pure, Result.andThen_ok, r1, q1]
            first | done | rfl
          · cases hb
        · cases hb
      | some m' =>
        obtain ⟨x, y, z, rfl, hx1, hx2, hx3⟩ := three hx
        simp only [boundsD, Option.isSome_some] at hb
        split at hb
        · rename_i r hr
          split at hb
          · rename_i q hq
            split at hb
            · rename_i u hu
              simp only [Option.some.injEq, Prod.mk.injEq] at hb
              obtain ⟨rfl, rfl, rfl⟩ := hb
              obtain ⟨r1, r2⟩ := bound_sound (P := P) hx3 hr cap' hcc (if isSlice then .slice3Acap else .slice3Alen) w
              obtain ⟨q1, q2⟩ := bound_sound (P := P) hx2 hq r (Nat.le_refl _) .slice3B w
              obtain ⟨u1, u2⟩ := bound_sound (P := P) hx1 hu q (Nat.le_refl _) (if (some m').isSome then .slice3C else .sliceB) w
              refine ⟨?_, u2, q2, r2, fun e => by cases e⟩
              simp only [Instr.sliceBounds, Sem.run_bind, Sem.run_pure, Result.andThen_ok, r1, q1, u1]
              first | done | rfl
            · cases hb
          · cases hb
        · cases hb

end
end Go.Proofs.YtdpbbppjjjhnoaaGreatDoor.D
