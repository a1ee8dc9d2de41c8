/- What comes to a node that knows of no chain: nothing is said. No statement of the seat is proved in this text. -/
import Derived.Test.YtdpbbppjjjhnoaaGreatDoorNa
set_option linter.unusedVariables false
set_option maxRecDepth 100000
namespace Go.Proofs.YtdpbbppjjjhnoaaGreatDoor.D
open Go

/-- The message that comes need not be the one in the first block. -/
noncomputable abbrev tk (W : World) (k' fn' k fn : Int) (m : M0) (now : Int) : Bool := chk (st 9 [.pointer (some ⟨13, 0, none⟩), .agg ⟨cells k fn m⟩, .int .i64 now] (h5 W k' fn' m now))

theorem tkNeg (W : World) (k' fn' : Int) (j : Nat) (fn : Int) (m : M0) (now : Int) : tk W k' fn' (.negSucc j) fn m now = true := by kernel_rfl
theorem tkLit (W : World) (k' fn' : Int) (fn : Int) (m : M0) (now : Int) : ([0, 1, 3, 4, 5, 6, 7, 8, 10, 11, 12].all fun j => tk W k' fn' (.ofNat j) fn m now) = true := by kernel_rfl
theorem tkBig (W : World) (k' fn' : Int) (j : Nat) (fn : Int) (m : M0) (now : Int) : tk W k' fn' (.ofNat (j + 14)) fn m now = true := by kernel_rfl
theorem tkAll (W : World) (k' fn' : Int) (fn : Int) (m : M0) (now : Int) : ∀ k : Int, k ≠ 2 → k ≠ 9 → k ≠ 13 → tk W k' fn' k fn m now = true
  | .negSucc n, _, _, _ => tkNeg W k' fn' n fn m now
  | .ofNat n, hk, hk9, hk13 => by
    by_cases h : n < 14
    · have e9 : n ≠ 9 := fun e => hk9 (by subst e; rfl)
      have e13 : n ≠ 13 := fun e => hk13 (by subst e; rfl)
      have e2 : n ≠ 2 := fun e => hk (by subst e; rfl)
      refine List.all_eq_true.mp (tkLit W k' fn' fn m now) n ?_
      have : n = 0 ∨ n = 1 ∨ n = 3 ∨ n = 4 ∨ n = 5 ∨ n = 6 ∨ n = 7 ∨ n = 8 ∨ n = 10 ∨ n = 11 ∨ n = 12 := by omega
      rcases this with rfl | rfl | rfl | rfl | rfl | rfl | rfl | rfl | rfl | rfl | rfl <;> decide
    · obtain ⟨j, rfl⟩ : ∃ j, n = j + 14 := ⟨n - 14, by omega⟩
      exact tkBig W k' fn' j fn m now

theorem chk_some {x : Option (Value × Heap)} (h : chk x = true) : ∃ H l, x = some (.slice none 0 0, H) ∧ H.get 0 = some (.row l 0) ∧ l.length = 28 ∧ l.all oneC = true ∧ 0 < H.next := by
  unfold chk at h
  split at h
  · rename_i H
    rw [Bool.and_eq_true] at h
    obtain ⟨h1, h2⟩ := h
    split at h1
    · rename_i l hl
      rw [Bool.and_eq_true] at h1
      exact ⟨H, l, rfl, hl, Nat.eq_of_beq_eq_true h1.1, h1.2, Nat.le_of_ble_eq_true h2⟩
    · cases h1
  · cases h
end Go.Proofs.YtdpbbppjjjhnoaaGreatDoor.D
