/- The abstract machine "D": the instructions that only reckon do what the model's operations do. No statement of the seat is proved in this text. -/
import Derived.Test.YtdpbbppjjjhnoaaGreatDoorDc
namespace Go.Proofs.YtdpbbppjjjhnoaaGreatDoor.D
open Go

theorem foldD_nil (f : Value → Value → Option Value) (v : Value) : foldD f v [] = some v := rfl

section
variable {P : Program} {n0 : Nat} {j : Inj}

theorem run_sz {t : TypeId} {i : TypeInfo} (h : P.info? t = some i) (w : World) : (sizeOf t).run P w = .ok i.size w := by
  simp [sizeOf, typeInfo, h]

theorem run_zero {t : TypeId} {i : TypeInfo} {z : Value} (h : P.info? t = some i) (hz : i.zero = some z) (w : World) : (zeroValue t).run P w = .ok z w := by
  simp [zeroValue, typeInfo, h, hz]

theorem run_isAgg {t : TypeId} {d : TypeDesc} (h : P.underlying t = some d) (w : World) : (isAgg t).run P w = .ok (isAggD d) w := by
  simp only [isAgg, Sem.run_bind, run_underlying h, Result.andThen_ok]
  cases d <;> rfl

theorem ibin_sound {op : BinOp} {k : IntKind} {a b : Int} {v : Value} (t : TypeId) (hs : isShift op = false) (h : ibin op k a b = some v) (w : World) : (binOp op t (.int k a) (.int k b)).run P w = .ok v w := by
  cases op <;> simp only [ibin] at h <;> first
    | (simp [isShift] at hs; done)
    | (cases h; simp [binOp, Op.intArith, Op.intCmp, Op.intBits]; done)
    | (split at h
       · cases h
       · rename_i hb; cases h; simp [binOp, Op.intDiv, hb])
    | (cases h; done)

theorem ishift_sound {op : BinOp} {k k' : IntKind} {a b : Int} {v : Value} (t : TypeId) (hs : isShift op = true) (h : ishift op k a b = some v) (w : World) : (binOp op t (.int k a) (.int k' b)).run P w = .ok v w := by
  unfold ishift at h
  split at h
  · cases h
  · rename_i hb
    cases op <;> first
      | (simp [isShift] at hs; done)
      | (simp only [Option.some.injEq] at h; subst h; simp [binOp, Op.shift, hb]; done)

theorem sbin_sound {op : BinOp} {x y : ByteArray} {v : Value} (t : TypeId) (h : sbin op x y = some v) (w : World) : (binOp op t (.string x) (.string y)).run P w = .ok v w := by
  cases op <;> simp only [sbin] at h <;> first
    | (cases h; simp [binOp, Op.stringOp]; done)
    | (split at h
       · cases h
       · rename_i hb; cases h; simp only [binOp, Op.stringOp]; rw [if_neg hb]; rfl)
    | (cases h; done)

theorem guard_ok (op : BinOp) (t : TypeId) (x y : Operand) (a b : Value) (h : ∀ c d, a = .nilIface → b = .nilIface → (x = .const c ∨ y = .const d)) (h2 : (∃ c, a = .agg c) → (∃ c, b = .agg c) → P.eqGuardType P.depth t = false)
    (h3 : a = .nilIface → b = .nilIface → ∃ c, x = .const c ∨ y = .const c) (w : World) : (eqGuard op t x y a b).run P w = .ok () w := by
  cases a <;> cases b <;> first
    | (cases op <;> rfl)
    | skip
  · obtain ⟨c, hc | hc⟩ := h3 rfl rfl <;> subst hc <;> cases op <;> first | rfl | (cases x <;> rfl)
  · exact run_eqGuard_agg w op t x y _ _ (h2 ⟨_, rfl⟩ ⟨_, rfl⟩)

end
end Go.Proofs.YtdpbbppjjjhnoaaGreatDoor.D
