/- The abstract machine "D": each instruction that only reckons does what the model's operation does (the whole list). No statement of the seat is proved in this text. -/
import Derived.Test.YtdpbbppjjjhnoaaGreatDoorDf
set_option linter.unusedSimpArgs false
set_option linter.unusedVariables false
namespace Go.Proofs.YtdpbbppjjjhnoaaGreatDoor.D
open Go

theorem lr0 {n0 : Nat} {j : Inj} {l : List Value} (h : LRel n0 j l []) : l = [] := by have := h.1; cases l <;> simp at this; rfl
theorem lrc {n0 : Nat} {j : Inj} {l : List Value} {a : Value} {r : List Value} (h : LRel n0 j l (a :: r)) : ∃ x t, l = x :: t ∧ VRel n0 j x a ∧ LRel n0 j t r := by
  cases l with
  | nil => have := h.1; simp at this
  | cons x l => obtain ⟨v, t, e, h1, h2⟩ := h.uncons; cases e; exact ⟨x, l, rfl, h1, h2⟩
theorem lr1 {n0 : Nat} {j : Inj} {l : List Value} {a : Value} (h : LRel n0 j l [a]) : ∃ x, l = [x] ∧ VRel n0 j x a := by
  obtain ⟨x, t, e, h1, h2⟩ := lrc h; rw [lr0 h2] at e; exact ⟨x, e, h1⟩
theorem lr2 {n0 : Nat} {j : Inj} {l : List Value} {a b : Value} (h : LRel n0 j l [a, b]) : ∃ x y, l = [x, y] ∧ VRel n0 j x a ∧ VRel n0 j y b := by
  obtain ⟨x, t, e, h1, h2⟩ := lrc h; obtain ⟨y, e2, h3⟩ := lr1 h2; rw [e2] at e; exact ⟨x, y, e, h1, h3⟩
theorem lr3 {n0 : Nat} {j : Inj} {l : List Value} {a b c : Value} (h : LRel n0 j l [a, b, c]) : ∃ x y z, l = [x, y, z] ∧ VRel n0 j x a ∧ VRel n0 j y b ∧ VRel n0 j z c := by
  obtain ⟨x, t, e, h1, h2⟩ := lrc h; obtain ⟨y, z, e2, h3⟩ := lr2 h2; rw [e2] at e; exact ⟨x, y, z, e, h1, h3⟩

section
variable {P : Program} {n0 : Nat} {j : Inj}

def Yields1 (P : Program) (n0 : Nat) (j : Inj) (s : Sem Next) (v : Value) : Prop := ∃ v', (∀ w, s.run P w = .ok (.value v') w) ∧ VRel n0 j v v'

theorem y_of {s : Sem Value} {v v' : Value} (h : ∀ w, s.run P w = .ok v' w) (hr : VRel n0 j v v') : Yields1 P n0 j (do pure (Next.value (← s))) v :=
  ⟨v', fun w => by simp [h], hr⟩

theorem y_pure {v v' : Value} (hr : VRel n0 j v v') : Yields1 P n0 j (pure (Next.value v')) v := ⟨v', fun w => rfl, hr⟩

theorem bool_of {v' : Value} {b : Bool} (h : VRel n0 j (.bool b) v') : v' = .bool b := by cases h; rfl
theorem int_of {v' : Value} {k : IntKind} {n : Int} (h : VRel n0 j (.int k n) v') : v' = .int k n := by cases h; rfl
theorem string_of {v' : Value} {s : ByteArray} (h : VRel n0 j (.string s) v') : v' = .string s := by cases h; rfl
theorem agg_of {v' : Value} {c : Array Value} (h : VRel n0 j (.agg c) v') : ∃ c', v' = .agg c' ∧ LRel n0 j c.toList c'.toList := by cases h with | agg _ c' hs hc => exact ⟨c', rfl, LRel.of_arr hs hc⟩
theorem ptr_of {v' : Value} {a : Addr} (h : VRel n0 j (.pointer (some a)) v') : ∃ a', v' = .pointer (some a') ∧ ARel n0 j a a' := by cases h with | ptr _ a' ha => exact ⟨a', rfl, ha⟩

theorem guard_scalar (op : BinOp) (t : TypeId) (x y : Operand) (a b : Value) (h : ∀ c, a ≠ .agg c) (h2 : a ≠ .nilIface) : eqGuard op t x y a b = pure () := by
  cases a <;> first | exact absurd rfl (h _) | exact absurd rfl h2 | (cases b <;> cases op <;> rfl)

theorem bin_sound {op : BinOp} {t : TypeId} {x y : Operand} {a b a' b' v : Value} (ha : VRel n0 j a a') (hb : VRel n0 j b b') (h : binSem op a b = some v) :
    Yields1 P n0 j (do pure (Next.value (← (do eqGuard op t x y a' b'; binOp op t a' b')))) v := by
  cases a <;> cases b <;> simp only [binSem] at h <;> first | (cases h; done) | skip
  · rename_i k n k' n'
    rw [int_of ha, int_of hb, guard_scalar _ _ _ _ _ _ (by simp) (by simp)]
    have hv : VRel n0 j v v := by
      cases hs : isShift op with
      | true =>
        rw [hs] at h; simp only [cond_true] at h
        unfold ishift at h
        split at h
        · cases h
        · cases op <;> simp at h <;> subst h <;> exact .int _ _
      | false =>
        rw [hs] at h; simp only [cond_false] at h
        split at h
        · cases op <;> simp only [ibin] at h <;> first
            | (cases h; exact .int _ _)
            | (cases h; exact .bool _)
            | (split at h
               · cases h
               · cases h; exact .int _ _)
            | (cases h; done)
        · cases h
    refine ⟨v, fun w => ?_, hv⟩
    cases hs : isShift op with
    | true =>
      rw [hs] at h; simp only [cond_true] at h
      simp [ishift_sound t hs h]
    | false =>
      rw [hs] at h; simp only [cond_false] at h
      split at h
      · rename_i hk; subst hk
        simp [ibin_sound t hs h]
      · cases h
  · rename_i s s'
    rw [string_of ha, string_of hb, guard_scalar _ _ _ _ _ _ (by simp) (by simp)]
    have hv : VRel n0 j v v := by
      cases op <;> simp only [sbin] at h <;> first
        | (cases h; exact .bool _)
        | (split at h
           · cases h
           · cases h; exact .string _)
        | (cases h; done)
    exact ⟨v, fun w => by simp [sbin_sound t h], hv⟩

theorem boolEq_sound {neg : Bool} {t : TypeId} {x y : Operand} {a b : Bool} (hu : P.underlying t = some .bool) :
    Yields1 P n0 j (do pure (Next.value (← (do eqGuard (if neg then .neq else .eql) t x y (.bool a) (.bool b); binOp (if neg then .neq else .eql) t (.bool a) (.bool b))))) (.bool (cond neg (!(a == b)) (a == b))) := by
  rw [guard_scalar _ _ _ _ _ _ (by simp) (by simp)]
  refine ⟨_, fun w => ?_, .bool _⟩
  have he : ∀ w, (Op.equal t (.bool a) (.bool b)).run P w = .ok (a == b) w := fun w => run_equalIn_bool' w 9999 t a b hu
  cases neg <;> simp [binOp, he]

theorem nil_equalIn {t : TypeId} {d : TypeDesc} {k : NK} {a : Value} {b : Bool} (q : Nat) (hu : P.underlying t = some d) (hk : nkOf d = some k) (h : isNil k a = some b) :
    ∀ y, isNilConst k (.const y) = true → (∀ w, (Op.equalIn (q + 1) t a y).run P w = .ok b w) ∧ (∀ w, (Op.equalIn (q + 1) t y a).run P w = .ok b w) := by
  intro y hy
  cases k <;> cases y <;> simp only [isNilConst] at hy <;> first | (cases hy; done) | skip
  all_goals (cases d <;> simp only [nkOf] at hk <;> first | (cases hk; done) | skip)
  · rename_i p e
    cases p with
    | some _ => simp [isNilConst] at hy
    | none =>
      cases a <;> simp only [isNil] at h <;> first | (cases h; done) | skip
      rename_i p
      cases p <;> cases h <;> constructor <;> intro w <;> simp [Op.equalIn, run_underlying hu]
  · rename_i p l c e
    cases p with
    | some _ => simp [isNilConst] at hy
    | none =>
      cases a <;> simp only [isNil] at h <;> first | (cases h; done) | skip
      rename_i p _ _
      cases p <;> cases h <;> constructor <;> intro w <;> simp [Op.equalIn, run_underlying hu]
  · rename_i p e1 e2
    cases p with
    | some _ => simp [isNilConst] at hy
    | none =>
      cases a <;> simp only [isNil] at h <;> first | (cases h; done) | skip
      rename_i p
      cases p <;> cases h <;> constructor <;> intro w <;> simp [Op.equalIn, run_underlying hu]
  · cases a <;> simp only [isNil] at h <;> first | (cases h; done) | skip
    all_goals (cases h; constructor <;> intro w <;> simp [Op.equalIn, run_underlying hu])

theorem nil_equal {t : TypeId} {d : TypeDesc} {k : NK} {a : Value} {b : Bool} (hu : P.underlying t = some d) (hk : nkOf d = some k) (h : isNil k a = some b) (y : Value) (hy : isNilConst k (.const y) = true) :
    (∀ w, (Op.equal t a y).run P w = .ok b w) ∧ (∀ w, (Op.equal t y a).run P w = .ok b w) := nil_equalIn 9999 hu hk h y hy

theorem binOp_eqv (neg : Bool) {t : TypeId} {x y : Value} {b : Bool} (h : ∀ w, (Op.equal t x y).run P w = .ok b w) (hx : ∀ k n, x ≠ .int k n) (hs : ∀ s, x ≠ .string s) (hf : ∀ k n, x ≠ .float k n) (hc : ∀ k n m, x ≠ .complex k n m) (w : World) :
    (binOp (if neg then .neq else .eql) t x y).run P w = .ok (.bool (cond neg (!b) b)) w := by
  cases neg <;> cases x <;> first
    | exact absurd rfl (hx _ _)
    | exact absurd rfl (hs _)
    | exact absurd rfl (hf _ _)
    | exact absurd rfl (hc _ _ _)
    | (simp [binOp, h]; done)

end
end Go.Proofs.YtdpbbppjjjhnoaaGreatDoor.D
