/- The client's functions: what each does, as lemmas. No statement of the seat is proved in this text. -/
import Derived.Test.YtfflfehfjgkcdaaEa
import Derived.Test.YtfflfehfjgkcdaaTb
set_option linter.unusedSimpArgs false
set_option linter.unusedVariables false
set_option maxRecDepth 100000
namespace Go.Proofs.Ytfflfehfjgkcdaa.D
open Go

abbrev iv (n : Int) : Value := .int .i64 n
abbrev pt (b : Nat) : Value := .pointer (some ⟨b, 0, none⟩)
abbrev EvC (f : Nat) (vs : List Value) (H : Heap) (Q : Value → Heap → Prop) : Prop := Ev (look tb) nvNone f vs H Q
/-- A client's cells. -/
abbrev clRow (a reqs : Int) (cv : Value) (ep : Int) (ch en ha : Value) (m : Nat) (cu : Int) : List Value := [iv a, iv reqs, cv, iv ep, ch, en, ha, .map (some m), iv cu]
/-- A message of its own. -/
abbrev msg0 (kind to a : Int) : List Value := [iv kind, iv to, iv a, iv 0, iv 0, iv 0, iv 0, iv 0, iv 0, iv 0, .bool false, iv 0, iv 0, iv 0, iv 0, iv 0, iv 0, iv 0, iv 0, iv 0, .string ⟨⟨[]⟩⟩, iv 0, iv 0, iv 0, iv 0, .slice none 0 0, .slice none 0 0, iv 0]

theorem s_from {H : Heap} {x e : Nat} {a kind to : Int} {c1 c2 c3 c4 c5 c6 c7 c8 : Value} {Q : Value → Heap → Prop} (hx : At H x (.row [iv a, c1, c2, c3, c4, c5, c6, c7, c8] e)) (q : ∀ H', Keeps H H' [] → Q (.agg ⟨msg0 kind to a⟩) H') :
    EvC 30 [pt x, iv kind, iv to] H Q := by
  have hl := hx.lt
  refine Ev.fn (d := k30) rfl (Nat.le_of_ble_eq_true rfl) ?_
  rw [e30]
  repeat (first | with_reducible refine atK.mk ?_ | with_reducible refine wChk_nil ?_ | with_reducible refine wChk1_nil ?_ | ((with_reducible refine id_wP ?_); first | refine xAdd ?_ | refine xSub ?_ | refine xConv ?_ | refine xMul ?_ | refine wP_max ?_ | refine xIaN ?_ | refine xIaO ?_ | refine xIaU ?_ | refine xBuild ?_ | refine xPure ?_) | ((with_reducible refine id_wR ?_); refine id_new ?_; refine xRead ?_) | ((with_reducible refine id_wA ?_); first | refine xBsl ?_ | refine xAlloc ?_) | ((with_reducible refine id_wE ?_); refine id_newS ?_; refine xStore ?_) | ((with_reducible refine id_asB ?_); first | refine xTt ?_ | refine xFf ?_))
  exact q _ (by exact kp)

theorem s_pending0 {H : Heap} {x e : Nat} {a b c3 c4 c5 c6 c7 c8 : Value} {Q : Value → Heap → Prop} (hx : At H x (.row [a, b, .pointer none, c3, c4, c5, c6, c7, c8] e)) (q : Q (.tuple ⟨[iv 0, .bool false]⟩) H) :
    EvC 12 [pt x] H Q := by
  have hl := hx.lt
  refine Ev.fn (d := k12) rfl (Nat.le_of_ble_eq_true rfl) ?_
  rw [e12]
  repeat (first | with_reducible refine atK.mk ?_ | with_reducible refine wChk_nil ?_ | with_reducible refine wChk1_nil ?_ | ((with_reducible refine id_wP ?_); first | refine xAdd ?_ | refine xSub ?_ | refine xConv ?_ | refine xMul ?_ | refine wP_max ?_ | refine xIaN ?_ | refine xIaO ?_ | refine xIaU ?_ | refine xBuild ?_ | refine xPure ?_) | ((with_reducible refine id_wR ?_); refine id_new ?_; refine xRead ?_) | ((with_reducible refine id_wA ?_); first | refine xBsl ?_ | refine xAlloc ?_) | ((with_reducible refine id_wE ?_); refine id_newS ?_; refine xStore ?_) | ((with_reducible refine id_asB ?_); first | refine xTt ?_ | refine xFf ?_))
  exact q

theorem s_pending1 {H : Heap} {x e c : Nat} {a b c3 c4 c5 c6 c7 c8 : Value} {k0 k1 k2 k3 k4 r n : Value} {Q : Value → Heap → Prop} (hx : At H x (.row [a, b, pt c, c3, c4, c5, c6, c7, c8] e)) (hc : At H c (.row [k0, k1, k2, k3, k4, r, n] 0))
    (q : Q (.tuple ⟨[r, .bool true]⟩) H) : EvC 12 [pt x] H Q := by
  have hl := hx.lt
  refine Ev.fn (d := k12) rfl (Nat.le_of_ble_eq_true rfl) ?_
  rw [e12]
  repeat (first | with_reducible refine atK.mk ?_ | with_reducible refine wChk_nil ?_ | with_reducible refine wChk1_nil ?_ | ((with_reducible refine id_wP ?_); first | refine xAdd ?_ | refine xSub ?_ | refine xConv ?_ | refine xMul ?_ | refine wP_max ?_ | refine xIaN ?_ | refine xIaO ?_ | refine xIaU ?_ | refine xBuild ?_ | refine xPure ?_) | ((with_reducible refine id_wR ?_); refine id_new ?_; refine xRead ?_) | ((with_reducible refine id_wA ?_); first | refine xBsl ?_ | refine xAlloc ?_) | ((with_reducible refine id_wE ?_); refine id_newS ?_; refine xStore ?_) | ((with_reducible refine id_asB ?_); first | refine xTt ?_ | refine xFf ?_))
  exact q

/-- Head of no chain. -/
theorem s_head0 {H : Heap} {ep : Int} {Q : Value → Heap → Prop} (q : ∀ H', Keeps H H' [] → Q (.tuple ⟨[.agg ⟨[iv 0, iv 0]⟩, .bool false]⟩) H') : EvC 32 [.agg ⟨[iv ep, .slice none 0 0]⟩] H Q := by
  refine Ev.fn (d := k32) rfl (Nat.le_of_ble_eq_true rfl) ?_
  rw [e32]
  repeat (first | with_reducible refine atK.mk ?_ | with_reducible refine wChk_nil ?_ | with_reducible refine wChk1_nil ?_ | ((with_reducible refine id_wP ?_); first | refine xAdd ?_ | refine xSub ?_ | refine xConv ?_ | refine xMul ?_ | refine wP_max ?_ | refine xIaN ?_ | refine xIaO ?_ | refine xIaU ?_ | refine xBuild ?_ | refine xPure ?_) | ((with_reducible refine id_wR ?_); refine id_new ?_; refine xRead ?_) | ((with_reducible refine id_wA ?_); first | refine xBsl ?_ | refine xAlloc ?_) | ((with_reducible refine id_wE ?_); refine id_newS ?_; refine xStore ?_) | ((with_reducible refine id_asB ?_); first | refine xTt ?_ | refine xFf ?_))
  refine Ev.fn (d := k34) rfl (Nat.le_of_ble_eq_true rfl) ?_
  rw [e34]
  repeat (first | with_reducible refine atK.mk ?_ | with_reducible refine wChk_nil ?_ | with_reducible refine wChk1_nil ?_ | ((with_reducible refine id_wP ?_); first | refine xAdd ?_ | refine xSub ?_ | refine xConv ?_ | refine xMul ?_ | refine wP_max ?_ | refine xIaN ?_ | refine xIaO ?_ | refine xIaU ?_ | refine xBuild ?_ | refine xPure ?_) | ((with_reducible refine id_wR ?_); refine id_new ?_; refine xRead ?_) | ((with_reducible refine id_wA ?_); first | refine xBsl ?_ | refine xAlloc ?_) | ((with_reducible refine id_wE ?_); refine id_newS ?_; refine xStore ?_) | ((with_reducible refine id_asB ?_); first | refine xTt ?_ | refine xFf ?_))
  exact q _ (by exact kp)

theorem s_ask0 {H : Heap} {x : Nat} {a reqs ep cu : Int} {cv en ha : Value} {m : Nat} {Q : Value → Heap → Prop} (hx : At H x (.row (clRow a reqs cv ep (.slice none 0 0) en ha m cu) 0))
    (q : ∀ H' b, Keeps H H' [] → At H' b (.row (msg0 15 200 a) 28) → Q (.slice (some ⟨b, 0, none⟩) 1 1) H') : EvC 22 [pt x] H Q := by
  have hl := hx.lt
  refine Ev.fn (d := k22) rfl (Nat.le_of_ble_eq_true rfl) ?_
  rw [e22]
  repeat (first | with_reducible refine atK.mk ?_ | with_reducible refine wChk_nil ?_ | with_reducible refine wChk1_nil ?_ | ((with_reducible refine id_wP ?_); first | refine xAdd ?_ | refine xSub ?_ | refine xConv ?_ | refine xMul ?_ | refine wP_max ?_ | refine xIaN ?_ | refine xIaO ?_ | refine xIaU ?_ | refine xBuild ?_ | refine xPure ?_) | ((with_reducible refine id_wR ?_); refine id_new ?_; refine xRead ?_) | ((with_reducible refine id_wA ?_); first | refine xBsl ?_ | refine xAlloc ?_) | ((with_reducible refine id_wE ?_); refine id_newS ?_; refine xStore ?_) | ((with_reducible refine id_asB ?_); first | refine xTt ?_ | refine xFf ?_))
  refine s_head0 fun H1 k1 => ?_
  have hx1 := hx.keep0 k1
  have hn1 := k1.next
  repeat (first | with_reducible refine atK.mk ?_ | with_reducible refine wChk_nil ?_ | with_reducible refine wChk1_nil ?_ | ((with_reducible refine id_wP ?_); first | refine xAdd ?_ | refine xSub ?_ | refine xConv ?_ | refine xMul ?_ | refine wP_max ?_ | refine xIaN ?_ | refine xIaO ?_ | refine xIaU ?_ | refine xBuild ?_ | refine xPure ?_) | ((with_reducible refine id_wR ?_); refine id_new ?_; refine xRead ?_) | ((with_reducible refine id_wA ?_); first | refine xBsl ?_ | refine xAlloc ?_) | ((with_reducible refine id_wE ?_); refine id_newS ?_; refine xStore ?_) | ((with_reducible refine id_asB ?_); first | refine xTt ?_ | refine xFf ?_))
  refine s_from (a := a) (by exact atp) fun H2 k2 => ?_
  repeat (first | with_reducible refine atK.mk ?_ | with_reducible refine wChk_nil ?_ | with_reducible refine wChk1_nil ?_ | ((with_reducible refine id_wP ?_); first | refine xAdd ?_ | refine xSub ?_ | refine xConv ?_ | refine xMul ?_ | refine wP_max ?_ | refine xIaN ?_ | refine xIaO ?_ | refine xIaU ?_ | refine xBuild ?_ | refine xPure ?_) | ((with_reducible refine id_wR ?_); refine id_new ?_; refine xRead ?_) | ((with_reducible refine id_wA ?_); first | refine xBsl ?_ | refine xAlloc ?_) | ((with_reducible refine id_wE ?_); refine id_newS ?_; refine xStore ?_) | ((with_reducible refine id_asB ?_); first | refine xTt ?_ | refine xFf ?_))
  exact q _ _ (by exact kp) (by exact atp)

/-- A call that may be is begun; there is no chain. -/
theorem s_call {H : Heap} {x : Nat} {a reqs ep cu now k id due node : Int} {s : ByteArray} {en ha : Value} {m : Nat} {Q : Value → Heap → Prop} (hx : At H x (.row (clRow a reqs (.pointer none) ep (.slice none 0 0) en ha m cu) 0))
    (h1 : 1 ≤ k) (h3 : k ≤ 3) (hs : (s.size : Int) ≤ 256) (hr : 0 ≤ reqs ∧ reqs < 1000000)
    (q : ∀ H' c v, Keeps H H' [x] → At H' x (.row (clRow a (reqs + 1) (pt c) ep (.slice none 0 0) en ha m cu) 0) → At H' c (.row [iv k, iv id, iv due, iv node, .string s, iv (reqs + 1), iv now] 0) → x ≠ c → Q (.tuple ⟨[v, iv 0]⟩) H') :
    EvC 10 [pt x, .agg ⟨[iv k, iv id, iv due, iv node, .string s]⟩, iv now] H Q := by
  have hl := hx.lt
  refine Ev.fn (d := k10) rfl (Nat.le_of_ble_eq_true rfl) ?_
  rw [e10]
  repeat (first | with_reducible refine atK.mk ?_ | with_reducible refine wChk_nil ?_ | with_reducible refine wChk1_nil ?_ | ((with_reducible refine id_wP ?_); first | refine xAdd ?_ | refine xSub ?_ | refine xConv ?_ | refine xMul ?_ | refine wP_max ?_ | refine xIaN ?_ | refine xIaO ?_ | refine xIaU ?_ | refine xBuild ?_ | refine xPure ?_) | ((with_reducible refine id_wR ?_); refine id_new ?_; refine xRead ?_) | ((with_reducible refine id_wA ?_); first | refine xBsl ?_ | refine xAlloc ?_) | ((with_reducible refine id_wE ?_); refine id_newS ?_; refine xStore ?_) | ((with_reducible refine id_asB ?_); first | refine xTt ?_ | refine xFf ?_))
  refine s_ask0 (a := a) (reqs := reqs + 1) (ep := ep) (cu := cu) (cv := pt (H.next + 1)) (en := en) (ha := ha) (m := m) (by exact atp) fun H1 b k1 hb => ?_
  repeat (first | with_reducible refine atK.mk ?_ | with_reducible refine wChk_nil ?_ | with_reducible refine wChk1_nil ?_ | ((with_reducible refine id_wP ?_); first | refine xAdd ?_ | refine xSub ?_ | refine xConv ?_ | refine xMul ?_ | refine wP_max ?_ | refine xIaN ?_ | refine xIaO ?_ | refine xIaU ?_ | refine xBuild ?_ | refine xPure ?_) | ((with_reducible refine id_wR ?_); refine id_new ?_; refine xRead ?_) | ((with_reducible refine id_wA ?_); first | refine xBsl ?_ | refine xAlloc ?_) | ((with_reducible refine id_wE ?_); refine id_newS ?_; refine xStore ?_) | ((with_reducible refine id_asB ?_); first | refine xTt ?_ | refine xFf ?_))
  exact q _ (H.next + 1) _ (by exact kp) (by exact atp) (by exact atp) (by omega)

end Go.Proofs.Ytfflfehfjgkcdaa.D
