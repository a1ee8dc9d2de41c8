/- The law ClientReqs, walked: its loop, and itself. No statement of the seat is proved in this text. -/
import Derived.Test.YtfflfehfjgkcdaaCe
set_option linter.unusedSimpArgs false
set_option linter.unusedVariables false
set_option maxRecDepth 100000
namespace Go.Proofs.Ytfflfehfjgkcdaa.D
open Go

theorem reqs_loop {B : Nat → Nat → Option Value} {x len len1 : Nat} {a0 a1 : Value} {Q : Value → Heap → Prop} (hlen : len ≤ 100)
    (ha0 : ∀ i, i < len → ∃ b o cap cs, a0 = .slice (some ⟨b, o, some 0⟩) len cap ∧ rdBase B b (o + i * 5) 5 = some cs ∧ ShsOk B callSh cs)
    (ha1 : (∃ a cap, a1 = .slice a len1 cap) ∧ ∀ i, i < len1 → ∃ b o cap cs, a1 = .slice (some ⟨b, o, some 0⟩) len1 cap ∧ rdBase B b (o + i * 1) 1 = some cs ∧ ShsOk B [.i .u8] cs) (hlen1 : len1 ≤ 1000000)
    (q : ∀ H', Q (.bool true) H') : ∀ (d i : Nat) (req : Int) (H : Heap), i + d = len → RInv B x req H → 0 ≤ req ∧ req ≤ i →
      wLn (fun wf H Q => wC (look tb) nvNone c3_9 wf H Q) (some [1, 5, 7, 42, 43, 44]) (d + 1) (fr3 a1 x req a0 len i) H (q3_1 (look tb) nvNone Q)
  | 0, i, req, H, hd, hI, h0 => by
    show wC (look tb) nvNone c3_9 (fr3 a1 x req a0 len i) H _
    rw [l3_9]
    repeat (first | with_reducible refine atK.mk ?_ | with_reducible refine wChk_nil ?_ | with_reducible refine wChk1_nil ?_ | ((with_reducible refine id_wP ?_); first | refine xAdd ?_ | refine xSub ?_ | refine xConv ?_ | refine xMul ?_ | refine wP_max ?_ | refine xIaN ?_ | refine xIaO ?_ | refine xIaU ?_ | refine xBuild ?_ | refine xPure ?_) | ((with_reducible refine id_wR ?_); refine id_new ?_; refine xRead ?_) | ((with_reducible refine id_wA ?_); first | refine xBsl ?_ | refine xAlloc ?_) | ((with_reducible refine id_wE ?_); refine id_newS ?_; refine xStore ?_) | ((with_reducible refine id_asB ?_); first | refine xTt ?_ | refine xFf ?_))
    show q3_1 (look tb) nvNone Q (.exit 0) (mkW []) H
    rw [x3_9_1, e3_45]
    refine atK.mk ?_
    refine atK.mk ?_
    exact q _
  | d + 1, i, req, H, hd, hI, h0 => by
    refine reqs_iter hI h0 (by omega) hlen (ha0 i (by omega)) ha1 hlen1 fun H' req' hI' h0' => ?_
    have := reqs_loop hlen ha0 ha1 hlen1 q d (i + 1) req' H' (by omega) hI' (by omega)
    exact this

/-- A new client. -/
theorem s_new {H : Heap} {a : Int} {Q : Value → Heap → Prop} (h1 : 100 ≤ a) (h2 : a < 104)
    (q : Q (.tuple ⟨[pt (H.next + 1), iv 0]⟩) ((H.push (.map [] 0)).push (.row (clRow a 0 (.pointer none) 0 (.slice none 0 0) (.slice none 0 0) (.slice none 0 0) H.next 0) 0))) : EvC 8 [iv a] H Q := by
  refine Ev.fn (d := k8) rfl (Nat.le_of_ble_eq_true rfl) ?_
  rw [e8]
  repeat (first | with_reducible refine atK.mk ?_ | with_reducible refine wChk_nil ?_ | with_reducible refine wChk1_nil ?_ | ((with_reducible refine id_wP ?_); first | refine xAdd ?_ | refine xSub ?_ | refine xConv ?_ | refine xMul ?_ | refine wP_max ?_ | refine xIaN ?_ | refine xIaO ?_ | refine xIaU ?_ | refine xBuild ?_ | refine xPure ?_) | ((with_reducible refine id_wR ?_); refine id_new ?_; refine xRead ?_) | ((with_reducible refine id_wA ?_); first | refine xBsl ?_ | refine xAlloc ?_) | ((with_reducible refine id_wE ?_); refine id_newS ?_; refine xStore ?_) | ((with_reducible refine id_asB ?_); first | refine xTt ?_ | refine xFf ?_))
  exact q

/-! ### awake, run -/

/-- The heap behind awake. -/
def awk (H : Heap) : Heap := match callM (look tb) nvNone 300 9 [] H with | some (_, H') => H' | none => H
def awkOk (H : Heap) : Bool := match callM (look tb) nvNone 300 9 [] H with | some (.bool b, _) => b | _ => false

theorem s_awake {H : Heap} {Q : Value → Heap → Prop} (h : awkOk H = true) (q : Q (.bool true) (awk H)) : EvC 9 [] H Q := by
  unfold awkOk at h
  unfold awk at q
  split at h
  · rename_i b H' hr
    subst h
    rw [hr] at q
    exact Ev.run hr q
  · cases h

/-- A new client at the beginning of all. -/
abbrev hNew (W : World) (a : Int) : Heap := (((heap0 W).push (.map [] 0)).push (.row (clRow a 0 (.pointer none) 0 (.slice none 0 0) (.slice none 0 0) (.slice none 0 0) 0 0) 0))

theorem awk1 (W : World) (a : Int) : awkOk (hNew W a) = true := by kernel_rfl
theorem awk2 (W : World) (a : Int) : awkOk (awk (hNew W a)) = true := by kernel_rfl
theorem awk_row (W : World) (a : Int) : (awk (hNew W a)).get 1 = some (.row (clRow a 0 (.pointer none) 0 (.slice none 0 0) (.slice none 0 0) (.slice none 0 0) 0 0) 0) := by kernel_rfl
theorem awk_map (W : World) (a : Int) : (awk (hNew W a)).get 0 = some (.map [] 0) := by kernel_rfl
theorem awk_base (W : World) (a : Int) : (awk (hNew W a)).base = baseOf W := by kernel_rfl
theorem awk_next (W : World) (a : Int) : Nat.ble 2 (awk (hNew W a)).next = true := by kernel_rfl

theorem reqs_law {W : World} {a0 a1 : Value} (h0 : ShOk (baseOf W) (.sl 5 callSh) a0) (h1 : ShOk (baseOf W) (.sl 1 [.i .u8]) a1) : EvC 3 [a0, a1] (heap0 W) (fun v _ => v = .bool true) := by
  obtain ⟨len, hlen, ⟨s0, c0, rfl⟩, he0⟩ := h0.slice
  obtain ⟨len1, hlen1, ⟨s1, c1, rfl⟩, he1⟩ := h1.slice
  have hx : At (awk (hNew W 103)) 1 _ := ⟨awk_row W 103, Nat.le_of_ble_eq_true (awk_next W 103)⟩
  refine Ev.fn (d := k3) rfl (Nat.le_of_ble_eq_true rfl) ?_
  rw [e3]
  refine s_new (by decide) (by decide) ?_
  repeat (first | with_reducible refine atK.mk ?_ | with_reducible refine wChk_nil ?_ | with_reducible refine wChk1_nil ?_ | ((with_reducible refine id_wP ?_); first | refine xAdd ?_ | refine xSub ?_ | refine xConv ?_ | refine xMul ?_ | refine wP_max ?_ | refine xIaN ?_ | refine xIaO ?_ | refine xIaU ?_ | refine xBuild ?_ | refine xPure ?_) | ((with_reducible refine id_wR ?_); refine id_new ?_; refine xRead ?_) | ((with_reducible refine id_wA ?_); first | refine xBsl ?_ | refine xAlloc ?_) | ((with_reducible refine id_wE ?_); refine id_newS ?_; refine xStore ?_) | ((with_reducible refine id_asB ?_); first | refine xTt ?_ | refine xFf ?_))
  refine s_awake (awk1 W 103) ?_
  repeat (first | with_reducible refine atK.mk ?_ | with_reducible refine wChk_nil ?_ | with_reducible refine wChk1_nil ?_ | ((with_reducible refine id_wP ?_); first | refine xAdd ?_ | refine xSub ?_ | refine xConv ?_ | refine xMul ?_ | refine wP_max ?_ | refine xIaN ?_ | refine xIaO ?_ | refine xIaU ?_ | refine xBuild ?_ | refine xPure ?_) | ((with_reducible refine id_wR ?_); refine id_new ?_; refine xRead ?_) | ((with_reducible refine id_wA ?_); first | refine xBsl ?_ | refine xAlloc ?_) | ((with_reducible refine id_wE ?_); refine id_newS ?_; refine xStore ?_) | ((with_reducible refine id_asB ?_); first | refine xTt ?_ | refine xFf ?_))
  refine asB_both (fun h => ?_) fun h => ?_
  · refine s_awake (awk2 W 103) ?_
    repeat (first | with_reducible refine atK.mk ?_ | with_reducible refine wChk_nil ?_ | with_reducible refine wChk1_nil ?_ | ((with_reducible refine id_wP ?_); first | refine xAdd ?_ | refine xSub ?_ | refine xConv ?_ | refine xMul ?_ | refine wP_max ?_ | refine xIaN ?_ | refine xIaO ?_ | refine xIaU ?_ | refine xBuild ?_ | refine xPure ?_) | ((with_reducible refine id_wR ?_); refine id_new ?_; refine xRead ?_) | ((with_reducible refine id_wA ?_); first | refine xBsl ?_ | refine xAlloc ?_) | ((with_reducible refine id_wE ?_); refine id_newS ?_; refine xStore ?_) | ((with_reducible refine id_asB ?_); first | refine xTt ?_ | refine xFf ?_))
    rfl
  have hl : len ≤ 100 := by have h2 : (len : Int) ≤ 100 := by simpa using h
                            omega
  repeat (first | with_reducible refine atK.mk ?_ | with_reducible refine wChk_nil ?_ | with_reducible refine wChk1_nil ?_ | ((with_reducible refine id_wP ?_); first | refine xAdd ?_ | refine xSub ?_ | refine xConv ?_ | refine xMul ?_ | refine wP_max ?_ | refine xIaN ?_ | refine xIaO ?_ | refine xIaU ?_ | refine xBuild ?_ | refine xPure ?_) | ((with_reducible refine id_wR ?_); refine id_new ?_; refine xRead ?_) | ((with_reducible refine id_wA ?_); first | refine xBsl ?_ | refine xAlloc ?_) | ((with_reducible refine id_wE ?_); refine id_newS ?_; refine xStore ?_) | ((with_reducible refine id_asB ?_); first | refine xTt ?_ | refine xFf ?_))
  refine asB_both (fun h => ?_) fun h => ?_
  · refine s_awake (awk2 W 103) ?_
    repeat (first | with_reducible refine atK.mk ?_ | with_reducible refine wChk_nil ?_ | with_reducible refine wChk1_nil ?_ | ((with_reducible refine id_wP ?_); first | refine xAdd ?_ | refine xSub ?_ | refine xConv ?_ | refine xMul ?_ | refine wP_max ?_ | refine xIaN ?_ | refine xIaO ?_ | refine xIaU ?_ | refine xBuild ?_ | refine xPure ?_) | ((with_reducible refine id_wR ?_); refine id_new ?_; refine xRead ?_) | ((with_reducible refine id_wA ?_); first | refine xBsl ?_ | refine xAlloc ?_) | ((with_reducible refine id_wE ?_); refine id_newS ?_; refine xStore ?_) | ((with_reducible refine id_asB ?_); first | refine xTt ?_ | refine xFf ?_))
    rfl
  have hl1 : len1 ≤ 200 := by have h2 : (len1 : Int) ≤ 200 := by simpa using h
                              omega
  repeat (first | with_reducible refine atK.mk ?_ | with_reducible refine wChk_nil ?_ | with_reducible refine wChk1_nil ?_ | ((with_reducible refine id_wP ?_); first | refine xAdd ?_ | refine xSub ?_ | refine xConv ?_ | refine xMul ?_ | refine wP_max ?_ | refine xIaN ?_ | refine xIaO ?_ | refine xIaU ?_ | refine xBuild ?_ | refine xPure ?_) | ((with_reducible refine id_wR ?_); refine id_new ?_; refine xRead ?_) | ((with_reducible refine id_wA ?_); first | refine xBsl ?_ | refine xAlloc ?_) | ((with_reducible refine id_wE ?_); refine id_newS ?_; refine xStore ?_) | ((with_reducible refine id_asB ?_); first | refine xTt ?_ | refine xFf ?_))
  refine ⟨len + 1, ?_⟩
  exact reqs_loop hl he0 ⟨⟨_, _, rfl⟩, he1⟩ (by omega) (fun _ => rfl) len 0 0 (awk (hNew W 103)) (by omega) ⟨awk_base W 103, _, 0, [], hx, .nil⟩ ⟨by omega, by omega⟩

end Go.Proofs.Ytfflfehfjgkcdaa.D
