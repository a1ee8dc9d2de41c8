/- The abstract machine "D": every instruction that only reckons does what the operation does from which it was made. No statement of the seat is proved in this text. -/
import Derived.Test.YtdpbbppjjjhnoaaGreatDoorDg
set_option linter.unusedSimpArgs false
set_option linter.unusedVariables false
namespace Go.Proofs.YtdpbbppjjjhnoaaGreatDoor.D
open Go

section
variable {P : Program} {n0 : Nat} {j : Inj}

theorem eq_sound {neg : Bool} {t : TypeId} {x y : Operand} {p : PI} {xs : List Operand} (hc : compileEq P neg t x y = some (p, xs)) {ρ : Operand → Value} (hρ : ∀ c, ρ (.const c) = c) {vs : List Value} (hv : LRel n0 j vs (xs.map ρ))
    {v : Value} (h : pureSem p vs = some v) :
    Yields1 P n0 j (do pure (Next.value (← (do eqGuard (if neg then .neq else .eql) t x y (ρ x) (ρ y); binOp (if neg then .neq else .eql) t (ρ x) (ρ y))))) v := by
  unfold compileEq at hc
  split at hc
  · cases hc
  · rename_i hu
    cases hc
    obtain ⟨a, b, rfl, ha, hb⟩ := lr2 hv
    cases a <;> simp only [pureSem] at h <;> first | (cases h; done) | skip
    cases b <;> simp only [pureSem] at h <;> first | (cases h; done) | skip
    cases h
    rw [bool_of ha, bool_of hb]
    exact boolEq_sound hu
  · cases hc
    obtain ⟨a, b, rfl, ha, hb⟩ := lr2 hv
    exact bin_sound ha hb h
  · cases hc
    obtain ⟨a, b, rfl, ha, hb⟩ := lr2 hv
    exact bin_sound ha hb h
  all_goals first
    | (split at hc
       · cases hc
       · rename_i hu hg
         split at hc
         · rename_i ks hks
           cases hc
           obtain ⟨a, b, rfl, ha, hb⟩ := lr2 hv
           cases a <;> simp only [pureSem] at h <;> first | (cases h; done) | skip
           cases b <;> simp only [pureSem] at h <;> first | (cases h; done) | skip
           split at h
           · rename_i hsz
             split at h
             · rename_i r hr
               cases h
               obtain ⟨ca, hca, hra⟩ := agg_of ha
               obtain ⟨cb, hcb, hrb⟩ := agg_of hb
               rw [hca, hcb]
               have he := eqCells_rel hra hrb hr
               have hall := (plain_both 100 t ks hks).2 9999
               have hsa := hra.1
               have hsb := hrb.1
               simp only [Array.length_toList] at hsa hsb
               have heq : ∀ w, (Op.equal t (.agg ca) (.agg cb)).run P w = .ok r w := fun w =>
                 (plain_both 100 t ks hks).2 10000 (by omega) ca cb r (by omega) (by omega) he (fun u hu' => by rw [hu] at hu'; cases hu'; rfl) w
               refine ⟨_, fun w => ?_, .bool _⟩
               have hgd : (eqGuard (if neg then .neq else .eql) t x y (.agg ca) (.agg cb)).run P w = .ok () w := run_eqGuard_agg w _ t x y _ _ (by simpa using hg)
               have hbo := binOp_eqv (P := P) neg heq (by simp) (by simp) (by simp) (by simp) w
               simp [hgd, hbo]
             · cases h
           · cases h
         · cases hc)
    | skip
  rename_i d hn1 hn2 hn3 hn4 hn5 hu
  split at hc
  · rename_i k hk
    have key : ∀ (a a' cst : Value), VRel n0 j a a' → isNilConst k (.const cst) = true → pureSem (.nilEq neg k) [a] = some v → ∃ b, isNil k a' = some b ∧ v = .bool (cond neg (!b) b) := by
      intro a a' cst ha hcst h
      simp only [pureSem] at h
      split at h
      · rename_i b hb
        cases h
        exact ⟨b, isNil_rel ha hb, rfl⟩
      · cases h
    have notagg : ∀ {a : Value} {b}, isNil k a = some b → (∀ c, a ≠ .agg c) ∧ a ≠ .nilIface ∧ (∀ q n, a ≠ .int q n) ∧ (∀ s, a ≠ .string s) ∧ (∀ q n, a ≠ .float q n) ∧ ∀ q n m, a ≠ .complex q n m := by
      intro a b hb
      cases a <;> cases k <;> simp [isNil] at hb <;> simp
    have notaggc : ∀ {c : Value}, isNilConst k (.const c) = true → (∀ q, c ≠ .agg q) ∧ c ≠ .nilIface ∧ (∀ q n, c ≠ .int q n) ∧ (∀ s, c ≠ .string s) ∧ (∀ q n, c ≠ .float q n) ∧ ∀ q n m, c ≠ .complex q n m := by
      intro c hb
      cases c <;> cases k <;> simp [isNilConst] at hb <;> simp
    split at hc
    · rename_i hy
      cases hc
      obtain ⟨a, rfl, ha⟩ := lr1 hv
      cases y with
      | const c =>
        obtain ⟨b, hb, rfl⟩ := key a _ c ha hy h
        obtain ⟨e1, _⟩ := nil_equal hu hk hb c hy
        rw [hρ c]
        obtain ⟨n1, n2, n3, n4, n5, n6⟩ := notagg hb
        rw [guard_scalar _ _ _ _ _ _ n1 n2]
        exact ⟨_, fun w => by simp [binOp_eqv (P := P) neg e1 n3 n4 n5 n6 w], .bool _⟩
      | _ => cases k <;> simp [isNilConst] at hy
    · split at hc
      · rename_i hx
        cases hc
        obtain ⟨a, rfl, ha⟩ := lr1 hv
        cases x with
        | const c =>
          obtain ⟨b, hb, rfl⟩ := key a _ c ha hx h
          obtain ⟨_, e1⟩ := nil_equal hu hk hb c hx
          rw [hρ c]
          obtain ⟨n1, n2, n3, n4, n5, n6⟩ := notaggc hx
          rw [guard_scalar _ _ _ _ _ _ n1 n2]
          exact ⟨_, fun w => by simp [binOp_eqv (P := P) neg e1 n3 n4 n5 n6 w], .bool _⟩
        | _ => cases k <;> simp [isNilConst] at hx
      · cases hc
  · cases hc

end
end Go.Proofs.YtdpbbppjjjhnoaaGreatDoor.D
