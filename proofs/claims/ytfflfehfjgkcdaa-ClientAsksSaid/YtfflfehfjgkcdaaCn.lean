/- The client's functions: its chain told, its asking where the chain is. No statement of the seat is proved in this text. -/
import Derived.Test.YtfflfehfjgkcdaaCm
set_option linter.unusedSimpArgs false
set_option linter.unusedVariables false
set_option maxRecDepth 100000
namespace Go.Proofs.Ytfflfehfjgkcdaa.D
open Go

/-- Another slice with the same. -/
theorem s_clone3 {H : Heap} {v : Value} {len : Nat} {L : List Value} {Q : Value → Heap → Prop} (h : RSl 3 H v len L) (hl1 : len ≤ 1000000)
    (q : ∀ H' v', Keeps H H' [] → RSl 3 H' v' len L → (∀ b ∈ newOf v', H.next ≤ b) → Q v' H') : EvC 24 [v] H Q := by
  refine Ev.fn (d := k24) rfl (Nat.le_of_ble_eq_true rfl) ?_
  rw [e24]
  obtain ⟨a, cap, rfl⟩ := h.isLen
  cases a with
  | none =>
    repeat (first | with_reducible refine atK.mk ?_ | with_reducible refine wChk_nil ?_ | with_reducible refine wChk1_nil ?_ | ((with_reducible refine id_wP ?_); first | refine xAdd ?_ | refine xSub ?_ | refine xConv ?_ | refine xMul ?_ | refine wP_max ?_ | refine xIaN ?_ | refine xIaO ?_ | refine xIaU ?_ | refine xBuild ?_ | refine xPure ?_) | ((with_reducible refine id_wR ?_); refine id_new ?_; refine xRead ?_) | ((with_reducible refine id_wA ?_); first | refine xBsl ?_ | refine xAlloc ?_) | ((with_reducible refine id_wE ?_); refine id_newS ?_; refine xStore ?_) | ((with_reducible refine id_asB ?_); first | refine xTt ?_ | refine xFf ?_))
    cases h with
    | nil => exact q _ _ Keeps.refl .nil (by simp [newOf])
  | some a =>
    repeat (first | with_reducible refine atK.mk ?_ | with_reducible refine wChk_nil ?_ | with_reducible refine wChk1_nil ?_ | ((with_reducible refine id_wP ?_); first | refine xAdd ?_ | refine xSub ?_ | refine xConv ?_ | refine xMul ?_ | refine wP_max ?_ | refine xIaN ?_ | refine xIaO ?_ | refine xIaU ?_ | refine xBuild ?_ | refine xPure ?_) | ((with_reducible refine id_wR ?_); refine id_new ?_; refine xRead ?_) | ((with_reducible refine id_wA ?_); first | refine xBsl ?_ | refine xAlloc ?_) | ((with_reducible refine id_wE ?_); refine id_newS ?_; refine xStore ?_) | ((with_reducible refine id_asB ?_); first | refine xTt ?_ | refine xFf ?_))
    have h1 := h.keep (H' := H.push (.row [] 3)) (M := []) (by exact kp) (by simp)
    have hL := h.length
    by_cases h0 : len = 0
    · subst h0
      refine wE_app0 h1.src ⟨_, _, _, rfl⟩ ?_
      repeat (first | with_reducible refine atK.mk ?_ | with_reducible refine wChk_nil ?_ | with_reducible refine wChk1_nil ?_ | ((with_reducible refine id_wP ?_); first | refine xAdd ?_ | refine xSub ?_ | refine xConv ?_ | refine xMul ?_ | refine wP_max ?_ | refine xIaN ?_ | refine xIaO ?_ | refine xIaU ?_ | refine xBuild ?_ | refine xPure ?_) | ((with_reducible refine id_wR ?_); refine id_new ?_; refine xRead ?_) | ((with_reducible refine id_wA ?_); first | refine xBsl ?_ | refine xAlloc ?_) | ((with_reducible refine id_wE ?_); refine id_newS ?_; refine xStore ?_) | ((with_reducible refine id_asB ?_); first | refine xTt ?_ | refine xFf ?_))
      refine q _ _ (Keeps.push' Keeps.refl') ?_ (by simp [newOf])
      have e : L = [] := List.eq_nil_of_length_eq_zero (by omega)
      rw [e]
      exact .new H.next 0 0 0 none (.inl rfl) [] [] 3 At.new rfl
    · refine wE_appFull (old := []) h1.src h0 (by omega) ?_ (roomD_le (by omega)) ?_
      · simp only [Heap.cells, At.new.get]
        rfl
      repeat (first | with_reducible refine atK.mk ?_ | with_reducible refine wChk_nil ?_ | with_reducible refine wChk1_nil ?_ | ((with_reducible refine id_wP ?_); first | refine xAdd ?_ | refine xSub ?_ | refine xConv ?_ | refine xMul ?_ | refine wP_max ?_ | refine xIaN ?_ | refine xIaO ?_ | refine xIaU ?_ | refine xBuild ?_ | refine xPure ?_) | ((with_reducible refine id_wR ?_); refine id_new ?_; refine xRead ?_) | ((with_reducible refine id_wA ?_); first | refine xBsl ?_ | refine xAlloc ?_) | ((with_reducible refine id_wE ?_); refine id_newS ?_; refine xStore ?_) | ((with_reducible refine id_asB ?_); first | refine xTt ?_ | refine xFf ?_))
      refine q _ _ (by exact kp) ?_ (by simp [newOf, next_push])
      have z := RSl.new (n := 3) (H := (H.push (.row [] 3)).push (.row ([] ++ L) 3)) (H.push (.row [] 3)).next 0 len 0 (some 4) (.inr ⟨3, rfl⟩) ([] ++ L) L 3 At.new (by
        rw [takeN_take (by simp only [List.drop_zero, List.nil_append]; omega)]
        simp only [List.drop_zero, List.nil_append]
        rw [List.take_of_length_le (by omega)])
      rw [Nat.zero_add]
      exact z

/-- The member at a place of a chain. -/
theorem s_at {H : Heap} {y e : Nat} {c0 chv : Value} {sl : List Se} {i : Int} {Q : Value → Heap → Prop} (hy : At H y (.row [c0, chv] e)) (hr : RSl 3 H chv sl.length (seL sl))
    (q0 : (i < 0 ∨ (sl.length : Int) ≤ i) → ∀ H', Keeps H H' [] → Q (.tuple ⟨[.agg ⟨[iv 0, iv 0]⟩, .bool false]⟩) H')
    (q1 : ∀ f, 0 ≤ i → sl[i.toNat]? = some f → ∀ H', Keeps H H' [] → Q (.tuple ⟨[.agg ⟨[iv f.node, iv f.life]⟩, .bool true]⟩) H') : EvC 34 [pt y, iv i] H Q := by
  have hyl := hy.lt
  refine Ev.fn (d := k34) rfl (Nat.le_of_ble_eq_true rfl) ?_
  rw [e34]
  repeat (first | with_reducible refine atK.mk ?_ | with_reducible refine wChk_nil ?_ | with_reducible refine wChk1_nil ?_ | ((with_reducible refine id_wP ?_); first | refine xAdd ?_ | refine xSub ?_ | refine xConv ?_ | refine xMul ?_ | refine wP_max ?_ | refine xIaN ?_ | refine xIaO ?_ | refine xIaU ?_ | refine xBuild ?_ | refine xPure ?_) | ((with_reducible refine id_wR ?_); refine id_new ?_; refine xRead ?_) | ((with_reducible refine id_wA ?_); first | refine xBsl ?_ | refine xAlloc ?_) | ((with_reducible refine id_wE ?_); refine id_newS ?_; refine xStore ?_) | ((with_reducible refine id_asB ?_); first | refine xTt ?_ | refine xFf ?_))
  refine asB_both (fun h => ?_) fun h => ?_
  · have h1 : i < 0 := by simpa using h
    repeat (first | with_reducible refine atK.mk ?_ | with_reducible refine wChk_nil ?_ | with_reducible refine wChk1_nil ?_ | ((with_reducible refine id_wP ?_); first | refine xAdd ?_ | refine xSub ?_ | refine xConv ?_ | refine xMul ?_ | refine wP_max ?_ | refine xIaN ?_ | refine xIaO ?_ | refine xIaU ?_ | refine xBuild ?_ | refine xPure ?_) | ((with_reducible refine id_wR ?_); refine id_new ?_; refine xRead ?_) | ((with_reducible refine id_wA ?_); first | refine xBsl ?_ | refine xAlloc ?_) | ((with_reducible refine id_wE ?_); refine id_newS ?_; refine xStore ?_) | ((with_reducible refine id_asB ?_); first | refine xTt ?_ | refine xFf ?_))
    exact q0 (.inl h1) _ (by exact kp)
  have h1 : ¬ i < 0 := by simpa using h
  repeat (first | with_reducible refine atK.mk ?_ | with_reducible refine wChk_nil ?_ | with_reducible refine wChk1_nil ?_ | ((with_reducible refine id_wP ?_); first | refine xAdd ?_ | refine xSub ?_ | refine xConv ?_ | refine xMul ?_ | refine wP_max ?_ | refine xIaN ?_ | refine xIaO ?_ | refine xIaU ?_ | refine xBuild ?_ | refine xPure ?_) | ((with_reducible refine id_wR ?_); refine id_new ?_; refine xRead ?_) | ((with_reducible refine id_wA ?_); first | refine xBsl ?_ | refine xAlloc ?_) | ((with_reducible refine id_wE ?_); refine id_newS ?_; refine xStore ?_) | ((with_reducible refine id_asB ?_); first | refine xTt ?_ | refine xFf ?_))
  have hr1 := hr.keep (H' := H.push (.row [iv 0, iv 0] 0)) (M := []) (by exact kp) (by simp)
  refine hr1.lenS ?_
  repeat (first | with_reducible refine atK.mk ?_ | with_reducible refine wChk_nil ?_ | with_reducible refine wChk1_nil ?_ | ((with_reducible refine id_wP ?_); first | refine xAdd ?_ | refine xSub ?_ | refine xConv ?_ | refine xMul ?_ | refine wP_max ?_ | refine xIaN ?_ | refine xIaO ?_ | refine xIaU ?_ | refine xBuild ?_ | refine xPure ?_) | ((with_reducible refine id_wR ?_); refine id_new ?_; refine xRead ?_) | ((with_reducible refine id_wA ?_); first | refine xBsl ?_ | refine xAlloc ?_) | ((with_reducible refine id_wE ?_); refine id_newS ?_; refine xStore ?_) | ((with_reducible refine id_asB ?_); first | refine xTt ?_ | refine xFf ?_))
  refine asB_both (fun h => ?_) fun h => ?_
  · have h2 : (sl.length : Int) ≤ i := by simpa using h
    repeat (first | with_reducible refine atK.mk ?_ | with_reducible refine wChk_nil ?_ | with_reducible refine wChk1_nil ?_ | ((with_reducible refine id_wP ?_); first | refine xAdd ?_ | refine xSub ?_ | refine xConv ?_ | refine xMul ?_ | refine wP_max ?_ | refine xIaN ?_ | refine xIaO ?_ | refine xIaU ?_ | refine xBuild ?_ | refine xPure ?_) | ((with_reducible refine id_wR ?_); refine id_new ?_; refine xRead ?_) | ((with_reducible refine id_wA ?_); first | refine xBsl ?_ | refine xAlloc ?_) | ((with_reducible refine id_wE ?_); refine id_newS ?_; refine xStore ?_) | ((with_reducible refine id_asB ?_); first | refine xTt ?_ | refine xFf ?_))
    exact q0 (.inr h2) _ (by exact kp)
  have h2 : ¬ (sl.length : Int) ≤ i := by simpa using h
  repeat (first | with_reducible refine atK.mk ?_ | with_reducible refine wChk_nil ?_ | with_reducible refine wChk1_nil ?_ | ((with_reducible refine id_wP ?_); first | refine xAdd ?_ | refine xSub ?_ | refine xConv ?_ | refine xMul ?_ | refine wP_max ?_ | refine xIaN ?_ | refine xIaO ?_ | refine xIaU ?_ | refine xBuild ?_ | refine xPure ?_) | ((with_reducible refine id_wR ?_); refine id_new ?_; refine xRead ?_) | ((with_reducible refine id_wA ?_); first | refine xBsl ?_ | refine xAlloc ?_) | ((with_reducible refine id_wE ?_); refine id_newS ?_; refine xStore ?_) | ((with_reducible refine id_asB ?_); first | refine xTt ?_ | refine xFf ?_))
  have hi : i.toNat < sl.length := by omega
  obtain ⟨f, hf⟩ : ∃ f, sl[i.toNat]? = some f := ⟨_, List.getElem?_eq_getElem hi⟩
  have ei : (i.toNat : Int) = i := by omega
  have main : ∀ Q' : Value → Prop, Q' (.agg ⟨[iv f.node, iv f.life]⟩) → wP (.iaddS 3) [chv, .int .i64 i] fun x21 => wP (.fadd 0) [x21] fun x22 => wR (.load 2 true) [x22] (H.push (.row [iv 0, iv 0] 0)) Q' := by
    intro Q' q'
    rw [← ei]
    refine hr1.iadd hi (seL_at hf) fun p hp => ?_
    have hp0 := hp _ [] Keeps.refl (by simp)
    cases hp0 with
    | new b o all cs e h hc =>
      refine wP.mk _ rfl ?_
      refine wR_new (v := .agg ⟨[iv f.node, iv f.life]⟩) h.get ?_ q'
      have hz := takeN_drop (i := 0) (n := 2) (cs := [iv f.node, iv f.life]) hc (by omega) rfl
      rw [List.drop_drop] at hz
      unfold ldv
      show (match takeN (all.drop (o + 0)) 2 with | some l => _ | none => _) = _
      rw [hz]
      rfl
    | old b o cs h =>
      refine wP.mk _ rfl ?_
      refine wR_old (v := .agg ⟨[iv f.node, iv f.life]⟩) ?_ q'
      exact ldb_agg (rdBase_drop (i := 0) (n := 2) h (by omega) rfl)
  refine main _ ?_
  repeat (first | with_reducible refine atK.mk ?_ | with_reducible refine wChk_nil ?_ | with_reducible refine wChk1_nil ?_ | ((with_reducible refine id_wP ?_); first | refine xAdd ?_ | refine xSub ?_ | refine xConv ?_ | refine xMul ?_ | refine wP_max ?_ | refine xIaN ?_ | refine xIaO ?_ | refine xIaU ?_ | refine xBuild ?_ | refine xPure ?_) | ((with_reducible refine id_wR ?_); refine id_new ?_; refine xRead ?_) | ((with_reducible refine id_wA ?_); first | refine xBsl ?_ | refine xAlloc ?_) | ((with_reducible refine id_wE ?_); refine id_newS ?_; refine xStore ?_) | ((with_reducible refine id_asB ?_); first | refine xTt ?_ | refine xFf ?_))
  exact q1 f (by omega) hf _ (by exact kp)

theorem s_tail {H : Heap} {ep : Int} {chv : Value} {sl : List Se} {Q : Value → Heap → Prop} (hr : RSl 3 H chv sl.length (seL sl)) (hlen : sl.length ≤ 1000000)
    (q0 : sl = [] → ∀ H', Keeps H H' [] → Q (.tuple ⟨[.agg ⟨[iv 0, iv 0]⟩, .bool false]⟩) H')
    (q1 : ∀ f, sl[sl.length - 1]? = some f → ∀ H', Keeps H H' [] → Q (.tuple ⟨[.agg ⟨[iv f.node, iv f.life]⟩, .bool true]⟩) H') : EvC 31 [.agg ⟨[iv ep, chv]⟩] H Q := by
  have ho := hr.isOne
  refine Ev.fn (d := k31) rfl (Nat.le_of_ble_eq_true rfl) ?_
  rw [e31]
  repeat (first | with_reducible refine atK.mk ?_ | with_reducible refine wChk_nil ?_ | with_reducible refine wChk1_nil ?_ | ((with_reducible refine id_wP ?_); first | refine xAdd ?_ | refine xSub ?_ | refine xConv ?_ | refine xMul ?_ | refine wP_max ?_ | refine xIaN ?_ | refine xIaO ?_ | refine xIaU ?_ | refine xBuild ?_ | refine xPure ?_) | ((with_reducible refine id_wR ?_); refine id_new ?_; refine xRead ?_) | ((with_reducible refine id_wA ?_); first | refine xBsl ?_ | refine xAlloc ?_) | ((with_reducible refine id_wE ?_); refine id_newS ?_; refine xStore ?_) | ((with_reducible refine id_asB ?_); first | refine xTt ?_ | refine xFf ?_))
  refine hr.lenS ?_
  repeat (first | with_reducible refine atK.mk ?_ | with_reducible refine wChk_nil ?_ | with_reducible refine wChk1_nil ?_ | ((with_reducible refine id_wP ?_); first | refine xAdd ?_ | refine xSub ?_ | refine xConv ?_ | refine xMul ?_ | refine wP_max ?_ | refine xIaN ?_ | refine xIaO ?_ | refine xIaU ?_ | refine xBuild ?_ | refine xPure ?_) | ((with_reducible refine id_wR ?_); refine id_new ?_; refine xRead ?_) | ((with_reducible refine id_wA ?_); first | refine xBsl ?_ | refine xAlloc ?_) | ((with_reducible refine id_wE ?_); refine id_newS ?_; refine xStore ?_) | ((with_reducible refine id_asB ?_); first | refine xTt ?_ | refine xFf ?_))
  refine s_at (y := H.next) (c0 := iv ep) (chv := chv) (sl := sl) (by exact atp) (hr.keep (M := []) (by exact kp) (by simp)) (fun hi H1 k1 => ?_) fun f h0 hf H1 k1 => ?_
  · have he : sl = [] := by
      rcases hi with h | h
      · exact List.eq_nil_of_length_eq_zero (by omega)
      · omega
    have hz : At H1 (H.push (.row [iv ep, chv] 0)).next (.row [iv 0, iv 0] 0) := At.new.keep0 k1
    have hzl := hz.lt
    repeat (first | with_reducible refine atK.mk ?_ | with_reducible refine wChk_nil ?_ | with_reducible refine wChk1_nil ?_ | ((with_reducible refine id_wP ?_); first | refine xAdd ?_ | refine xSub ?_ | refine xConv ?_ | refine xMul ?_ | refine wP_max ?_ | refine xIaN ?_ | refine xIaO ?_ | refine xIaU ?_ | refine xBuild ?_ | refine xPure ?_) | ((with_reducible refine id_wR ?_); refine id_new ?_; refine xRead ?_) | ((with_reducible refine id_wA ?_); first | refine xBsl ?_ | refine xAlloc ?_) | ((with_reducible refine id_wE ?_); refine id_newS ?_; refine xStore ?_) | ((with_reducible refine id_asB ?_); first | refine xTt ?_ | refine xFf ?_))
    exact q0 he _ (by exact kp)
  · have hz : At H1 (H.push (.row [iv ep, chv] 0)).next (.row [iv 0, iv 0] 0) := At.new.keep0 k1
    have hzl := hz.lt
    repeat (first | with_reducible refine atK.mk ?_ | with_reducible refine wChk_nil ?_ | with_reducible refine wChk1_nil ?_ | ((with_reducible refine id_wP ?_); first | refine xAdd ?_ | refine xSub ?_ | refine xConv ?_ | refine xMul ?_ | refine wP_max ?_ | refine xIaN ?_ | refine xIaO ?_ | refine xIaU ?_ | refine xBuild ?_ | refine xPure ?_) | ((with_reducible refine id_wR ?_); refine id_new ?_; refine xRead ?_) | ((with_reducible refine id_wA ?_); first | refine xBsl ?_ | refine xAlloc ?_) | ((with_reducible refine id_wE ?_); refine id_newS ?_; refine xStore ?_) | ((with_reducible refine id_asB ?_); first | refine xTt ?_ | refine xFf ?_))
    refine q1 f ?_ _ (by exact kp)
    rw [← hf]
    congr 1
    omega

theorem s_head {H : Heap} {ep : Int} {chv : Value} {sl : List Se} {Q : Value → Heap → Prop} (hr : RSl 3 H chv sl.length (seL sl))
    (q0 : sl = [] → ∀ H', Keeps H H' [] → Q (.tuple ⟨[.agg ⟨[iv 0, iv 0]⟩, .bool false]⟩) H')
    (q1 : ∀ f, sl[0]? = some f → ∀ H', Keeps H H' [] → Q (.tuple ⟨[.agg ⟨[iv f.node, iv f.life]⟩, .bool true]⟩) H') : EvC 32 [.agg ⟨[iv ep, chv]⟩] H Q := by
  have ho := hr.isOne
  refine Ev.fn (d := k32) rfl (Nat.le_of_ble_eq_true rfl) ?_
  rw [e32]
  repeat (first | with_reducible refine atK.mk ?_ | with_reducible refine wChk_nil ?_ | with_reducible refine wChk1_nil ?_ | ((with_reducible refine id_wP ?_); first | refine xAdd ?_ | refine xSub ?_ | refine xConv ?_ | refine xMul ?_ | refine wP_max ?_ | refine xIaN ?_ | refine xIaO ?_ | refine xIaU ?_ | refine xBuild ?_ | refine xPure ?_) | ((with_reducible refine id_wR ?_); refine id_new ?_; refine xRead ?_) | ((with_reducible refine id_wA ?_); first | refine xBsl ?_ | refine xAlloc ?_) | ((with_reducible refine id_wE ?_); refine id_newS ?_; refine xStore ?_) | ((with_reducible refine id_asB ?_); first | refine xTt ?_ | refine xFf ?_))
  refine s_at (y := H.next) (c0 := iv ep) (chv := chv) (sl := sl) (by exact atp) (hr.keep (M := []) (by exact kp) (by simp)) (fun hi H1 k1 => ?_) fun f h0 hf H1 k1 => ?_
  · have he : sl = [] := by
      rcases hi with h | h
      · omega
      · exact List.eq_nil_of_length_eq_zero (by omega)
    have hz : At H1 (H.push (.row [iv ep, chv] 0)).next (.row [iv 0, iv 0] 0) := At.new.keep0 k1
    have hzl := hz.lt
    repeat (first | with_reducible refine atK.mk ?_ | with_reducible refine wChk_nil ?_ | with_reducible refine wChk1_nil ?_ | ((with_reducible refine id_wP ?_); first | refine xAdd ?_ | refine xSub ?_ | refine xConv ?_ | refine xMul ?_ | refine wP_max ?_ | refine xIaN ?_ | refine xIaO ?_ | refine xIaU ?_ | refine xBuild ?_ | refine xPure ?_) | ((with_reducible refine id_wR ?_); refine id_new ?_; refine xRead ?_) | ((with_reducible refine id_wA ?_); first | refine xBsl ?_ | refine xAlloc ?_) | ((with_reducible refine id_wE ?_); refine id_newS ?_; refine xStore ?_) | ((with_reducible refine id_asB ?_); first | refine xTt ?_ | refine xFf ?_))
    exact q0 he _ (by exact kp)
  · have hz : At H1 (H.push (.row [iv ep, chv] 0)).next (.row [iv 0, iv 0] 0) := At.new.keep0 k1
    have hzl := hz.lt
    repeat (first | with_reducible refine atK.mk ?_ | with_reducible refine wChk_nil ?_ | with_reducible refine wChk1_nil ?_ | ((with_reducible refine id_wP ?_); first | refine xAdd ?_ | refine xSub ?_ | refine xConv ?_ | refine xMul ?_ | refine wP_max ?_ | refine xIaN ?_ | refine xIaO ?_ | refine xIaU ?_ | refine xBuild ?_ | refine xPure ?_) | ((with_reducible refine id_wR ?_); refine id_new ?_; refine xRead ?_) | ((with_reducible refine id_wA ?_); first | refine xBsl ?_ | refine xAlloc ?_) | ((with_reducible refine id_wE ?_); refine id_newS ?_; refine xStore ?_) | ((with_reducible refine id_asB ?_); first | refine xTt ?_ | refine xFf ?_))
    exact q1 f hf _ (by exact kp)

/-- A message that is sent. -/
structure Ms where
  c : List Value
  len : c.length = 28

abbrev msL (l : List Ms) : List Value := l.flatMap Ms.c
theorem msL_at {l : List Ms} {i : Nat} {f : Ms} (h : l[i]? = some f) : takeN ((msL l).drop (i * 28)) 28 = some f.c := takeN_flat Ms.len h

abbrev msgP (to a cu : Int) : List Value := [iv 13, iv to, iv a, iv 0, iv 0, iv cu, iv 0, iv 0, iv 0, iv 0, .bool false, iv 0, iv 0, iv 0, iv 0, iv 0, iv 0, iv 0, iv 0, iv 0, .string ⟨⟨[]⟩⟩, iv 0, iv 0, iv 0, iv 0, .slice none 0 0, .slice none 0 0, iv 0]

/-- What is sent at a tick beside what is asked: where the chain is, and, to its tail, for fires. -/
def polls (a cu : Int) (sl : List Se) : List Ms :=
  ⟨msg0 15 200 a, rfl⟩ :: (match sl[sl.length - 1]? with | some f => [⟨msgP f.node a cu, rfl⟩] | none => [])

/-- The second half of a tick. -/
theorem s_polls {H : Heap} {x e : Nat} {a ep cu : Int} {c1 c2 chv c5 c6 c7 t4 : Value} {sl : List Se} {pre : List Ms} {Q : Value → Heap → Prop} (hx : At H x (.row [iv a, c1, c2, iv ep, chv, c5, c6, c7, iv cu] e)) (hr : RSl 3 H chv sl.length (seL sl)) (hd : x ∉ newOf chv) (hlen : sl.length ≤ 1000000)
    (ht : (pre = [] ∧ t4 = .slice none 0 0) ∨ (∃ b, ∃ f : Ms, pre = [f] ∧ t4 = .slice (some ⟨b, 0, none⟩) 1 1 ∧ At H b (.row f.c 28) ∧ b ≠ x ∧ b ∉ newOf chv ∧ f.c.all oneC = true))
    (q : ∀ H' v, Keeps H H' [] → RSl 28 H' v (pre ++ polls a cu sl).length (msL (pre ++ polls a cu sl)) → Q v H') : w17_8 (look tb) nvNone (pt x) t4 H Q := by
  have hxl := hx.lt
  have ho := hr.isOne
  rw [e17_8]
  refine s_from hx fun H1 k1 => ?_
  have hx1 := hx.keep0 k1
  have hxl1 := hx1.lt
  have hr1 := hr.keep k1 (by simp)
  repeat (first | with_reducible refine atK.mk ?_ | with_reducible refine wChk_nil ?_ | with_reducible refine wChk1_nil ?_ | ((with_reducible refine id_wP ?_); first | refine xAdd ?_ | refine xSub ?_ | refine xConv ?_ | refine xMul ?_ | refine wP_max ?_ | refine xIaN ?_ | refine xIaO ?_ | refine xIaU ?_ | refine xBuild ?_ | refine xPure ?_) | ((with_reducible refine id_wR ?_); refine id_new ?_; refine xRead ?_) | ((with_reducible refine id_wA ?_); first | refine xBsl ?_ | refine xAlloc ?_) | ((with_reducible refine id_wE ?_); refine id_newS ?_; refine xStore ?_) | ((with_reducible refine id_asB ?_); first | refine xTt ?_ | refine xFf ?_))
  have app1 : ∀ Q' : Value → Heap → Prop, (∀ v' H', USl 28 H' v' (pre.length + 1) (msL (pre ++ [⟨msg0 15 200 a, rfl⟩])) → Keeps H H' [] → (∀ b ∈ blkOf v', H.next ≤ b) → Q' v' H') →
      wE (.app 28 264) [t4, .slice (some ⟨H1.next, 0, none⟩) 1 1] (H1.push (.row (msg0 15 200 a) 28)) Q' := by
    intro Q' q'
    have hsrc : srcD 28 (.slice (some ⟨H1.next, 0, none⟩) 1 1) (H1.push (.row (msg0 15 200 a) 28)) = some (1, msg0 15 200 a) := srcD_new At.new.get rfl (by decide)
    have hn1 := k1.next
    rcases ht with ⟨rfl, rfl⟩ | ⟨b, f, rfl, rfl, hb, hbx, hbc, hfo⟩
    · refine USl.app (USl.nil (n := 28)) hsrc (by decide) rfl rfl (roomD_le (by decide)) fun v' H' hu' k' hb hn => ?_
      refine q' v' H' (by simpa using hu') (Keeps.comp (M := []) (Ha := H1.push _) (Keeps.push' k1) k' (by simp [blkOf])) fun b h => ?_
      rw [hb] at h
      simp only [List.mem_singleton] at h
      subst h
      simp only [next_push]
      omega
    · have hb1 := (hb.keep0 k1).push (Y := .row (msg0 15 200 a) 28)
      refine wE_appFull (old := f.c) hsrc (by decide) (by decide) ?_ (roomD_le (by decide)) ?_
      · simp only [Heap.cells, hb1.get, List.drop_zero]
        rw [takeN_take (by rw [f.len]; exact Nat.le_refl _), List.take_of_length_le (by rw [f.len]; exact Nat.le_refl _)]
      · refine q' _ _ ?_ (by exact kp) ?_
        · have z := USl.mk (n := 28) (H := (H1.push (.row (msg0 15 200 a) 28)).push (.row (f.c ++ msg0 15 200 a) 28)) (H1.push (.row (msg0 15 200 a) 28)).next 0 2 (f.c ++ msg0 15 200 a) At.new (by rw [List.length_append, f.len]; rfl)
          have e2 : msL ([f] ++ [⟨msg0 15 200 a, rfl⟩]) = f.c ++ msg0 15 200 a := by simp
          rw [e2]
          exact z
        · intro c hc
          simp only [blkOf, List.mem_singleton] at hc
          subst hc
          simp only [next_push]
          omega
  refine app1 _ fun v2 H2 hu2 k2 hge2 => ?_
  have hx2 := hx.keep0 k2
  have hxl2 := hx2.lt
  have hr2 := hr.keep k2 (by simp)
  have hn2 := k2.next
  repeat (first | with_reducible refine atK.mk ?_ | with_reducible refine wChk_nil ?_ | with_reducible refine wChk1_nil ?_ | ((with_reducible refine id_wP ?_); first | refine xAdd ?_ | refine xSub ?_ | refine xConv ?_ | refine xMul ?_ | refine wP_max ?_ | refine xIaN ?_ | refine xIaO ?_ | refine xIaU ?_ | refine xBuild ?_ | refine xPure ?_) | ((with_reducible refine id_wR ?_); refine id_new ?_; refine xRead ?_) | ((with_reducible refine id_wA ?_); first | refine xBsl ?_ | refine xAlloc ?_) | ((with_reducible refine id_wE ?_); refine id_newS ?_; refine xStore ?_) | ((with_reducible refine id_asB ?_); first | refine xTt ?_ | refine xFf ?_))
  refine s_tail hr2 hlen (fun hnil H3 k3 => ?_) fun f hf H3 k3 => ?_
  · have hu3 := hu2.keep k3 (by simp)
    repeat (first | with_reducible refine atK.mk ?_ | with_reducible refine wChk_nil ?_ | with_reducible refine wChk1_nil ?_ | ((with_reducible refine id_wP ?_); first | refine xAdd ?_ | refine xSub ?_ | refine xConv ?_ | refine xMul ?_ | refine wP_max ?_ | refine xIaN ?_ | refine xIaO ?_ | refine xIaU ?_ | refine xBuild ?_ | refine xPure ?_) | ((with_reducible refine id_wR ?_); refine id_new ?_; refine xRead ?_) | ((with_reducible refine id_wA ?_); first | refine xBsl ?_ | refine xAlloc ?_) | ((with_reducible refine id_wE ?_); refine id_newS ?_; refine xStore ?_) | ((with_reducible refine id_asB ?_); first | refine xTt ?_ | refine xFf ?_))
    rw [e17_15]
    repeat (first | with_reducible refine atK.mk ?_ | with_reducible refine wChk_nil ?_ | with_reducible refine wChk1_nil ?_ | ((with_reducible refine id_wP ?_); first | refine xAdd ?_ | refine xSub ?_ | refine xConv ?_ | refine xMul ?_ | refine wP_max ?_ | refine xIaN ?_ | refine xIaO ?_ | refine xIaU ?_ | refine xBuild ?_ | refine xPure ?_) | ((with_reducible refine id_wR ?_); refine id_new ?_; refine xRead ?_) | ((with_reducible refine id_wA ?_); first | refine xBsl ?_ | refine xAlloc ?_) | ((with_reducible refine id_wE ?_); refine id_newS ?_; refine xStore ?_) | ((with_reducible refine id_asB ?_); first | refine xTt ?_ | refine xFf ?_))
    refine q _ v2 ((k2.comp0 k3).comp0 (by exact kp)) ?_
    have e : polls a cu sl = [⟨msg0 15 200 a, rfl⟩] := by subst hnil; rfl
    rw [e, List.length_append]
    exact (hu3.keep (M := [H3.next]) (by exact kp) (fun b hb h => by simp only [List.mem_singleton] at h; have := hu3.lt b hb; omega)).rsl
  · have hx3 := hx2.keep0 k3
    have hxl3 := hx3.lt
    have hu3 := hu2.keep k3 (by simp)
    repeat (first | with_reducible refine atK.mk ?_ | with_reducible refine wChk_nil ?_ | with_reducible refine wChk1_nil ?_ | ((with_reducible refine id_wP ?_); first | refine xAdd ?_ | refine xSub ?_ | refine xConv ?_ | refine xMul ?_ | refine wP_max ?_ | refine xIaN ?_ | refine xIaO ?_ | refine xIaU ?_ | refine xBuild ?_ | refine xPure ?_) | ((with_reducible refine id_wR ?_); refine id_new ?_; refine xRead ?_) | ((with_reducible refine id_wA ?_); first | refine xBsl ?_ | refine xAlloc ?_) | ((with_reducible refine id_wE ?_); refine id_newS ?_; refine xStore ?_) | ((with_reducible refine id_asB ?_); first | refine xTt ?_ | refine xFf ?_))
    refine s_from (a := a) (by exact atp) fun H4 k4 => ?_
    have hx4 : At H4 x _ := At.keep0 (H := (H3.push _).set H3.next (.row [iv f.node, iv f.life] 0)) (by exact atp) k4
    have hxl4 := hx4.lt
    have k34 : Keeps H3 H4 [] := Keeps.comp0 (Ha := (H3.push (.row [iv 0, iv 0] 0)).set H3.next (.row [iv f.node, iv f.life] 0)) (by exact kp) k4
    have hu4 := hu3.keep k34 (by simp)
    repeat (first | with_reducible refine atK.mk ?_ | with_reducible refine wChk_nil ?_ | with_reducible refine wChk1_nil ?_ | ((with_reducible refine id_wP ?_); first | refine xAdd ?_ | refine xSub ?_ | refine xConv ?_ | refine xMul ?_ | refine wP_max ?_ | refine xIaN ?_ | refine xIaO ?_ | refine xIaU ?_ | refine xBuild ?_ | refine xPure ?_) | ((with_reducible refine id_wR ?_); refine id_new ?_; refine xRead ?_) | ((with_reducible refine id_wA ?_); first | refine xBsl ?_ | refine xAlloc ?_) | ((with_reducible refine id_wE ?_); refine id_newS ?_; refine xStore ?_) | ((with_reducible refine id_asB ?_); first | refine xTt ?_ | refine xFf ?_))
    have hul := hu4.lt
    refine USl.app (hu4.keep (M := []) (by exact kp) (by simp)) (srcD_new At.new.get rfl (by decide)) (by decide) rfl rfl (roomD_le ?_) fun v5 H5 hu5 k5 hb5 hn5 => ?_
    · rcases ht with ⟨rfl, _⟩ | ⟨b, g, rfl, _⟩ <;> simp
    repeat (first | with_reducible refine atK.mk ?_ | with_reducible refine wChk_nil ?_ | with_reducible refine wChk1_nil ?_ | ((with_reducible refine id_wP ?_); first | refine xAdd ?_ | refine xSub ?_ | refine xConv ?_ | refine xMul ?_ | refine wP_max ?_ | refine xIaN ?_ | refine xIaO ?_ | refine xIaU ?_ | refine xBuild ?_ | refine xPure ?_) | ((with_reducible refine id_wR ?_); refine id_new ?_; refine xRead ?_) | ((with_reducible refine id_wA ?_); first | refine xBsl ?_ | refine xAlloc ?_) | ((with_reducible refine id_wE ?_); refine id_newS ?_; refine xStore ?_) | ((with_reducible refine id_asB ?_); first | refine xTt ?_ | refine xFf ?_))
    rw [e17_15]
    repeat (first | with_reducible refine atK.mk ?_ | with_reducible refine wChk_nil ?_ | with_reducible refine wChk1_nil ?_ | ((with_reducible refine id_wP ?_); first | refine xAdd ?_ | refine xSub ?_ | refine xConv ?_ | refine xMul ?_ | refine wP_max ?_ | refine xIaN ?_ | refine xIaO ?_ | refine xIaU ?_ | refine xBuild ?_ | refine xPure ?_) | ((with_reducible refine id_wR ?_); refine id_new ?_; refine xRead ?_) | ((with_reducible refine id_wA ?_); first | refine xBsl ?_ | refine xAlloc ?_) | ((with_reducible refine id_wE ?_); refine id_newS ?_; refine xStore ?_) | ((with_reducible refine id_asB ?_); first | refine xTt ?_ | refine xFf ?_))
    refine q _ v5 (Keeps.comp (M := []) (((k2.comp0 k3).comp0 k34).comp0 (by exact kp)) k5 fun b hb => .inr (hge2 b hb)) ?_
    have e : polls a cu sl = [⟨msg0 15 200 a, rfl⟩, ⟨msgP f.node a cu, rfl⟩] := by simp only [polls, hf]
    rw [e]
    have e2 : msL (pre ++ [⟨msg0 15 200 a, rfl⟩, ⟨msgP f.node a cu, rfl⟩]) = msL (pre ++ [⟨msg0 15 200 a, rfl⟩]) ++ msgP f.node a cu := by simp
    have e3 : (pre ++ [(⟨msg0 15 200 a, rfl⟩ : Ms), ⟨msgP f.node a cu, rfl⟩]).length = pre.length + 1 + 1 := by simp
    rw [e2, e3]
    exact hu5.rsl

end Go.Proofs.Ytfflfehfjgkcdaa.D
