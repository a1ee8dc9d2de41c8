/- The law NodeNil walked. No statement of the seat is proved in this text. -/
import Derived.Test.YtdpbbppjjjhnoaaGreatDoorNd
set_option linter.unusedSimpArgs false
set_option linter.unusedVariables false
set_option maxRecDepth 100000
namespace Go.Proofs.YtdpbbppjjjhnoaaGreatDoor.D
open Go

theorem z8 (now : Int) (H : Heap) : st 8 [np, iv now] H = some (.slice none 0 0, H) := by kernel_rfl
theorem z10 (H : Heap) : st 10 [np] H = some (.bool false, H) := by kernel_rfl
theorem z13 (H : Heap) : st 13 [np] H = some (.bool false, H) := by kernel_rfl
theorem z14 (H : Heap) : st 14 [np] H = some (iv 0, H) := by kernel_rfl
theorem z15 (H : Heap) : st 15 [np] H = some (.slice none 0 0, H) := by kernel_rfl
theorem z16 (H : Heap) : st 16 [np] H = some (iv 0, H) := by kernel_rfl

theorem z9 {l : List Value} {now : Int} {H : Heap} {Q : Value → Heap → Prop} (q : ∀ H', Q (.slice none 0 0) H') : EvC 9 [np, .agg ⟨l⟩, iv now] H Q := by
  refine Ev.fn (d := k9) rfl (Nat.le_of_ble_eq_true rfl) ?_
  rw [e9]
  refine xAlloc (x := .row l 0) (f := fun b => .pointer (some ⟨b, 0, none⟩)) ?_ rfl
  repeat (first | with_reducible refine atK.mk ?_ | with_reducible refine wChk_nil ?_ | with_reducible refine wChk1_nil ?_ | ((with_reducible refine id_wP ?_); first | refine xAdd ?_ | refine xSub ?_ | refine xConv ?_ | refine xMul ?_ | refine wP_max ?_ | refine xIaN ?_ | refine xIaO ?_ | refine xIaU ?_ | refine xBuild ?_ | refine xPure ?_) | ((with_reducible refine id_wR ?_); refine id_new ?_; refine xRead ?_) | ((with_reducible refine id_wA ?_); first | refine xBsl ?_ | refine xAlloc ?_) | ((with_reducible refine id_wE ?_); refine id_newS ?_; refine xStore ?_) | ((with_reducible refine id_asB ?_); first | refine xTt ?_ | refine xFf ?_))
  exact q _

theorem z11 {H : Heap} {Q : Value → Heap → Prop} (q : ∀ H', Q (.agg ⟨[iv 0, iv 0]⟩) H') : EvC 11 [np] H Q := by
  refine Ev.fn (d := k11) rfl (Nat.le_of_ble_eq_true rfl) ?_
  rw [e11]
  repeat (first | with_reducible refine atK.mk ?_ | with_reducible refine wChk_nil ?_ | with_reducible refine wChk1_nil ?_ | ((with_reducible refine id_wP ?_); first | refine xAdd ?_ | refine xSub ?_ | refine xConv ?_ | refine xMul ?_ | refine wP_max ?_ | refine xIaN ?_ | refine xIaO ?_ | refine xIaU ?_ | refine xBuild ?_ | refine xPure ?_) | ((with_reducible refine id_wR ?_); refine id_new ?_; refine xRead ?_) | ((with_reducible refine id_wA ?_); first | refine xBsl ?_ | refine xAlloc ?_) | ((with_reducible refine id_wE ?_); refine id_newS ?_; refine xStore ?_) | ((with_reducible refine id_asB ?_); first | refine xTt ?_ | refine xFf ?_))
  exact q _

theorem z12 {H : Heap} {Q : Value → Heap → Prop} (q : ∀ H', Q (.agg ⟨[iv 0, .slice none 0 0]⟩) H') : EvC 12 [np] H Q := by
  refine Ev.fn (d := k12) rfl (Nat.le_of_ble_eq_true rfl) ?_
  rw [e12]
  repeat (first | with_reducible refine atK.mk ?_ | with_reducible refine wChk_nil ?_ | with_reducible refine wChk1_nil ?_ | ((with_reducible refine id_wP ?_); first | refine xAdd ?_ | refine xSub ?_ | refine xConv ?_ | refine xMul ?_ | refine wP_max ?_ | refine xIaN ?_ | refine xIaO ?_ | refine xIaU ?_ | refine xBuild ?_ | refine xPure ?_) | ((with_reducible refine id_wR ?_); refine id_new ?_; refine xRead ?_) | ((with_reducible refine id_wA ?_); first | refine xBsl ?_ | refine xAlloc ?_) | ((with_reducible refine id_wE ?_); refine id_newS ?_; refine xStore ?_) | ((with_reducible refine id_asB ?_); first | refine xTt ?_ | refine xFf ?_))
  exact q _

theorem takeN_self : ∀ {l : List Value}, takeN l l.length = some l
  | [] => rfl
  | v :: l => by
    simp only [List.length_cons, takeN, takeN_self]

theorem nn_tail {H : Heap} {l : List Value} {now : Int} (hl : l.length = 28) (hb : H.get 0 = some (.row l 0)) : (
    wR (.load 28 true) [.pointer (some ⟨0, 0, none⟩)] H fun x112 =>
    Ev (look tb) nvNone 9 [(.pointer none), x112, .int .i64 now] H fun x113 H114 =>
    wP .lenS [x113] fun x115 =>
    wP (.bin .eql) [x115, (.int .i64 0)] fun x116 =>
    asB x116 fun b117 => onB b117 (Ev (look tb) nvNone 8 [(.pointer none), .int .i64 now] H114 fun x118 H119 =>
    wP .lenS [x118] fun x120 =>
    wP (.bin .eql) [x120, (.int .i64 0)] fun x121 =>
    asB x121 fun b122 => onB b122 (Ev (look tb) nvNone 10 [(.pointer none)] H119 fun x123 H124 =>
    wP (.un .not) [x123] fun x125 =>
    asB x125 fun b126 => onB b126 (Ev (look tb) nvNone 11 [(.pointer none)] H124 fun x127 H128 =>
    wP (.build [(.int .i64 0), (.int .i64 0)] []) [] fun x129 =>
    wP (.aggEq false [.i, .i]) [x127, x129] fun x130 =>
    asB x130 fun b131 => onB b131 (Ev (look tb) nvNone 12 [(.pointer none)] H128 fun x132 H133 =>
    wP (.field 0 1 false) [x132] fun x134 =>
    wP (.bin .eql) [x134, (.int .i64 0)] fun x135 =>
    asB x135 fun b136 => onB b136 (Ev (look tb) nvNone 13 [(.pointer none)] H133 fun x137 H138 =>
    wP (.un .not) [x137] fun x139 =>
    asB x139 fun b140 => onB b140 (Ev (look tb) nvNone 14 [(.pointer none)] H138 fun x141 H142 =>
    wP (.bin .eql) [x141, (.int .i64 0)] fun x143 =>
    asB x143 fun b144 => onB b144 (Ev (look tb) nvNone 15 [(.pointer none)] H142 fun x145 H146 =>
    wP .lenS [x145] fun x147 =>
    wP (.bin .eql) [x147, (.int .i64 0)] fun x148 =>
    asB x148 fun b149 => onB b149 (Ev (look tb) nvNone 16 [(.pointer none)] H146 fun x150 H151 =>
    wP (.bin .eql) [x150, (.int .i64 0)] fun x152 =>
    atK (x152 = Value.bool true))
    (atK (Value.bool false = .bool true)))
    (atK (Value.bool false = .bool true)))
    (atK (Value.bool false = .bool true)))
    (atK (Value.bool false = .bool true)))
    (atK (Value.bool false = .bool true)))
    (atK (Value.bool false = .bool true)))
    (atK (Value.bool false = .bool true)))
    (atK (Value.bool false = .bool true))) := by
  refine wR_new (v := .agg ⟨l⟩) hb (by unfold ldv; rw [List.drop_zero, ← hl, takeN_self]; rfl) ?_
  refine z9 fun H1 => ?_
  repeat (first | with_reducible refine atK.mk ?_ | with_reducible refine wChk_nil ?_ | with_reducible refine wChk1_nil ?_ | ((with_reducible refine id_wP ?_); first | refine xAdd ?_ | refine xSub ?_ | refine xConv ?_ | refine xMul ?_ | refine wP_max ?_ | refine xIaN ?_ | refine xIaO ?_ | refine xIaU ?_ | refine xBuild ?_ | refine xPure ?_) | ((with_reducible refine id_wR ?_); refine id_new ?_; refine xRead ?_) | ((with_reducible refine id_wA ?_); first | refine xBsl ?_ | refine xAlloc ?_) | ((with_reducible refine id_wE ?_); refine id_newS ?_; refine xStore ?_) | ((with_reducible refine id_asB ?_); first | refine xTt ?_ | refine xFf ?_))
  refine Ev.st (z8 _ _) ?_
  repeat (first | with_reducible refine atK.mk ?_ | with_reducible refine wChk_nil ?_ | with_reducible refine wChk1_nil ?_ | ((with_reducible refine id_wP ?_); first | refine xAdd ?_ | refine xSub ?_ | refine xConv ?_ | refine xMul ?_ | refine wP_max ?_ | refine xIaN ?_ | refine xIaO ?_ | refine xIaU ?_ | refine xBuild ?_ | refine xPure ?_) | ((with_reducible refine id_wR ?_); refine id_new ?_; refine xRead ?_) | ((with_reducible refine id_wA ?_); first | refine xBsl ?_ | refine xAlloc ?_) | ((with_reducible refine id_wE ?_); refine id_newS ?_; refine xStore ?_) | ((with_reducible refine id_asB ?_); first | refine xTt ?_ | refine xFf ?_))
  refine Ev.st (z10 _) ?_
  repeat (first | with_reducible refine atK.mk ?_ | with_reducible refine wChk_nil ?_ | with_reducible refine wChk1_nil ?_ | ((with_reducible refine id_wP ?_); first | refine xAdd ?_ | refine xSub ?_ | refine xConv ?_ | refine xMul ?_ | refine wP_max ?_ | refine xIaN ?_ | refine xIaO ?_ | refine xIaU ?_ | refine xBuild ?_ | refine xPure ?_) | ((with_reducible refine id_wR ?_); refine id_new ?_; refine xRead ?_) | ((with_reducible refine id_wA ?_); first | refine xBsl ?_ | refine xAlloc ?_) | ((with_reducible refine id_wE ?_); refine id_newS ?_; refine xStore ?_) | ((with_reducible refine id_asB ?_); first | refine xTt ?_ | refine xFf ?_))
  refine z11 fun H1 => ?_
  repeat (first | with_reducible refine atK.mk ?_ | with_reducible refine wChk_nil ?_ | with_reducible refine wChk1_nil ?_ | ((with_reducible refine id_wP ?_); first | refine xAdd ?_ | refine xSub ?_ | refine xConv ?_ | refine xMul ?_ | refine wP_max ?_ | refine xIaN ?_ | refine xIaO ?_ | refine xIaU ?_ | refine xBuild ?_ | refine xPure ?_) | ((with_reducible refine id_wR ?_); refine id_new ?_; refine xRead ?_) | ((with_reducible refine id_wA ?_); first | refine xBsl ?_ | refine xAlloc ?_) | ((with_reducible refine id_wE ?_); refine id_newS ?_; refine xStore ?_) | ((with_reducible refine id_asB ?_); first | refine xTt ?_ | refine xFf ?_))
  repeat (first | with_reducible refine atK.mk ?_ | with_reducible refine wChk_nil ?_ | with_reducible refine wChk1_nil ?_ | ((with_reducible refine id_wP ?_); first | refine xAdd ?_ | refine xSub ?_ | refine xConv ?_ | refine xMul ?_ | refine wP_max ?_ | refine xIaN ?_ | refine xIaO ?_ | refine xIaU ?_ | refine xBuild ?_ | refine xPure ?_) | ((with_reducible refine id_wR ?_); refine id_new ?_; refine xRead ?_) | ((with_reducible refine id_wA ?_); first | refine xBsl ?_ | refine xAlloc ?_) | ((with_reducible refine id_wE ?_); refine id_newS ?_; refine xStore ?_) | ((with_reducible refine id_asB ?_); first | refine xTt ?_ | refine xFf ?_))
  refine z12 fun H1 => ?_
  repeat (first | with_reducible refine atK.mk ?_ | with_reducible refine wChk_nil ?_ | with_reducible refine wChk1_nil ?_ | ((with_reducible refine id_wP ?_); first | refine xAdd ?_ | refine xSub ?_ | refine xConv ?_ | refine xMul ?_ | refine wP_max ?_ | refine xIaN ?_ | refine xIaO ?_ | refine xIaU ?_ | refine xBuild ?_ | refine xPure ?_) | ((with_reducible refine id_wR ?_); refine id_new ?_; refine xRead ?_) | ((with_reducible refine id_wA ?_); first | refine xBsl ?_ | refine xAlloc ?_) | ((with_reducible refine id_wE ?_); refine id_newS ?_; refine xStore ?_) | ((with_reducible refine id_asB ?_); first | refine xTt ?_ | refine xFf ?_))
  refine Ev.st (z13 _) ?_
  repeat (first | with_reducible refine atK.mk ?_ | with_reducible refine wChk_nil ?_ | with_reducible refine wChk1_nil ?_ | ((with_reducible refine id_wP ?_); first | refine xAdd ?_ | refine xSub ?_ | refine xConv ?_ | refine xMul ?_ | refine wP_max ?_ | refine xIaN ?_ | refine xIaO ?_ | refine xIaU ?_ | refine xBuild ?_ | refine xPure ?_) | ((with_reducible refine id_wR ?_); refine id_new ?_; refine xRead ?_) | ((with_reducible refine id_wA ?_); first | refine xBsl ?_ | refine xAlloc ?_) | ((with_reducible refine id_wE ?_); refine id_newS ?_; refine xStore ?_) | ((with_reducible refine id_asB ?_); first | refine xTt ?_ | refine xFf ?_))
  refine Ev.st (z14 _) ?_
  repeat (first | with_reducible refine atK.mk ?_ | with_reducible refine wChk_nil ?_ | with_reducible refine wChk1_nil ?_ | ((with_reducible refine id_wP ?_); first | refine xAdd ?_ | refine xSub ?_ | refine xConv ?_ | refine xMul ?_ | refine wP_max ?_ | refine xIaN ?_ | refine xIaO ?_ | refine xIaU ?_ | refine xBuild ?_ | refine xPure ?_) | ((with_reducible refine id_wR ?_); refine id_new ?_; refine xRead ?_) | ((with_reducible refine id_wA ?_); first | refine xBsl ?_ | refine xAlloc ?_) | ((with_reducible refine id_wE ?_); refine id_newS ?_; refine xStore ?_) | ((with_reducible refine id_asB ?_); first | refine xTt ?_ | refine xFf ?_))
  refine Ev.st (z15 _) ?_
  repeat (first | with_reducible refine atK.mk ?_ | with_reducible refine wChk_nil ?_ | with_reducible refine wChk1_nil ?_ | ((with_reducible refine id_wP ?_); first | refine xAdd ?_ | refine xSub ?_ | refine xConv ?_ | refine xMul ?_ | refine wP_max ?_ | refine xIaN ?_ | refine xIaO ?_ | refine xIaU ?_ | refine xBuild ?_ | refine xPure ?_) | ((with_reducible refine id_wR ?_); refine id_new ?_; refine xRead ?_) | ((with_reducible refine id_wA ?_); first | refine xBsl ?_ | refine xAlloc ?_) | ((with_reducible refine id_wE ?_); refine id_newS ?_; refine xStore ?_) | ((with_reducible refine id_asB ?_); first | refine xTt ?_ | refine xFf ?_))
  refine Ev.st (z16 _) ?_
  repeat (first | with_reducible refine atK.mk ?_ | with_reducible refine wChk_nil ?_ | with_reducible refine wChk1_nil ?_ | ((with_reducible refine id_wP ?_); first | refine xAdd ?_ | refine xSub ?_ | refine xConv ?_ | refine xMul ?_ | refine wP_max ?_ | refine xIaN ?_ | refine xIaO ?_ | refine xIaU ?_ | refine xBuild ?_ | refine xPure ?_) | ((with_reducible refine id_wR ?_); refine id_new ?_; refine xRead ?_) | ((with_reducible refine id_wA ?_); first | refine xBsl ?_ | refine xAlloc ?_) | ((with_reducible refine id_wE ?_); refine id_newS ?_; refine xStore ?_) | ((with_reducible refine id_asB ?_); first | refine xTt ?_ | refine xFf ?_))
  rfl

theorem box0 {W : World} {k fn : Int} {m : M0} {Q : Value → Heap → Prop} (q : Q (.pointer (some ⟨0, 0, none⟩)) (h0 W k fn m)) : wA .box [.agg ⟨cells k fn m⟩] (heapG W G) Q :=
  ⟨.row (cells k fn m) 0, fun b => .pointer (some ⟨b, 0, none⟩), rfl, q⟩

theorem nn_law (W : World) (k fn now : Int) (m : M0) : EvC 3 [.agg ⟨cells k fn m⟩, iv now] (heapG W G) (fun v _ => v = .bool true) := by
  refine Ev.fn (d := k3) rfl (Nat.le_of_ble_eq_true rfl) ?_
  rw [e3]
  refine box0 ?_
  refine Ev.st (r5 W k fn m) ?_
  refine wP_build (l := [iv 2, iv 4]) rfl ?_
  refine Ev.st (r4 W k fn m) ?_
  repeat (first | with_reducible refine atK.mk ?_ | with_reducible refine wChk_nil ?_ | with_reducible refine wChk1_nil ?_ | ((with_reducible refine id_wP ?_); first | refine xAdd ?_ | refine xSub ?_ | refine xConv ?_ | refine xMul ?_ | refine wP_max ?_ | refine xIaN ?_ | refine xIaO ?_ | refine xIaU ?_ | refine xBuild ?_ | refine xPure ?_) | ((with_reducible refine id_wR ?_); refine id_new ?_; refine xRead ?_) | ((with_reducible refine id_wA ?_); first | refine xBsl ?_ | refine xAlloc ?_) | ((with_reducible refine id_wE ?_); refine id_newS ?_; refine xStore ?_) | ((with_reducible refine id_asB ?_); first | refine xTt ?_ | refine xFf ?_))
  have hr6 := r6 W k fn m
  have hA : At (h3 W k fn m) 0 (.row (cells k fn m) 0) := ⟨g3 W k fn m, Nat.le_of_ble_eq_true (n3 W k fn m)⟩
  have h6 := r6' W k fn m
  have h8 : st 8 [.pointer (some ⟨13, 0, none⟩), iv now] ((h3 W k fn m).push (.row [iv m.ce, .slice m.ca m.cln m.ccp] 0)) = some (.slice (some ⟨253, 0, none⟩) 1 1, h5 W k fn m now) := r8 W k fn m now
  have h9 : k ≠ 2 → k ≠ 9 → k ≠ 13 → chk (st 9 [.pointer (some ⟨13, 0, none⟩), .agg ⟨cells k fn m⟩, iv now] (h5 W k fn m now)) = true := tkAll W k fn fn m now k
  have hY : At (h5 W k fn m now) 13 (.row yRow 0) := ⟨y5 W k fn m now, Nat.lt_of_lt_of_le (by decide) (Nat.le_of_ble_eq_true (n5 W k fn m now))⟩
  have hB : At (h5 W k fn m now) 0 (.row (cells k fn m) 0) := ⟨g5 W k fn m now, Nat.lt_of_lt_of_le (by decide) (Nat.le_of_ble_eq_true (n5 W k fn m now))⟩
  have hT : At (h5 W k fn m now) 253 _ := ⟨t5 W k fn m now, Nat.le_of_ble_eq_true (n5 W k fn m now)⟩
  generalize h5 W k fn m now = HT at h8 h9 hB hT hY
  generalize h3 W k fn m = HH at hA h6 h8 hr6
  refine Ev.st hr6 ?_
  clear hr6
  repeat (first | with_reducible refine atK.mk ?_ | with_reducible refine wChk_nil ?_ | with_reducible refine wChk1_nil ?_ | ((with_reducible refine id_wP ?_); first | refine xAdd ?_ | refine xSub ?_ | refine xConv ?_ | refine xMul ?_ | refine wP_max ?_ | refine xIaN ?_ | refine xIaO ?_ | refine xIaU ?_ | refine xBuild ?_ | refine xPure ?_) | ((with_reducible refine id_wR ?_); refine id_new ?_; refine xRead ?_) | ((with_reducible refine id_wA ?_); first | refine xBsl ?_ | refine xAlloc ?_) | ((with_reducible refine id_wE ?_); refine id_newS ?_; refine xStore ?_) | ((with_reducible refine id_asB ?_); first | refine xTt ?_ | refine xFf ?_))
  refine asB_both (fun h => ?_) fun h => ?_
  · obtain ⟨H', hr⟩ := tru_some h6
    refine Ev.st hr ?_
    repeat (first | with_reducible refine atK.mk ?_ | with_reducible refine wChk_nil ?_ | with_reducible refine wChk1_nil ?_ | ((with_reducible refine id_wP ?_); first | refine xAdd ?_ | refine xSub ?_ | refine xConv ?_ | refine xMul ?_ | refine wP_max ?_ | refine xIaN ?_ | refine xIaO ?_ | refine xIaU ?_ | refine xBuild ?_ | refine xPure ?_) | ((with_reducible refine id_wR ?_); refine id_new ?_; refine xRead ?_) | ((with_reducible refine id_wA ?_); first | refine xBsl ?_ | refine xAlloc ?_) | ((with_reducible refine id_wE ?_); refine id_newS ?_; refine xStore ?_) | ((with_reducible refine id_asB ?_); first | refine xTt ?_ | refine xFf ?_))
    rfl
  repeat (first | with_reducible refine atK.mk ?_ | with_reducible refine wChk_nil ?_ | with_reducible refine wChk1_nil ?_ | ((with_reducible refine id_wP ?_); first | refine xAdd ?_ | refine xSub ?_ | refine xConv ?_ | refine xMul ?_ | refine wP_max ?_ | refine xIaN ?_ | refine xIaO ?_ | refine xIaU ?_ | refine xBuild ?_ | refine xPure ?_) | ((with_reducible refine id_wR ?_); refine id_new ?_; refine xRead ?_) | ((with_reducible refine id_wA ?_); first | refine xBsl ?_ | refine xAlloc ?_) | ((with_reducible refine id_wE ?_); refine id_newS ?_; refine xStore ?_) | ((with_reducible refine id_asB ?_); first | refine xTt ?_ | refine xFf ?_))
  refine asB_both (fun h => ?_) fun h => ?_
  · obtain ⟨H', hr⟩ := tru_some h6
    refine Ev.st hr ?_
    repeat (first | with_reducible refine atK.mk ?_ | with_reducible refine wChk_nil ?_ | with_reducible refine wChk1_nil ?_ | ((with_reducible refine id_wP ?_); first | refine xAdd ?_ | refine xSub ?_ | refine xConv ?_ | refine xMul ?_ | refine wP_max ?_ | refine xIaN ?_ | refine xIaO ?_ | refine xIaU ?_ | refine xBuild ?_ | refine xPure ?_) | ((with_reducible refine id_wR ?_); refine id_new ?_; refine xRead ?_) | ((with_reducible refine id_wA ?_); first | refine xBsl ?_ | refine xAlloc ?_) | ((with_reducible refine id_wE ?_); refine id_newS ?_; refine xStore ?_) | ((with_reducible refine id_asB ?_); first | refine xTt ?_ | refine xFf ?_))
    rfl
  repeat (first | with_reducible refine atK.mk ?_ | with_reducible refine wChk_nil ?_ | with_reducible refine wChk1_nil ?_ | ((with_reducible refine id_wP ?_); first | refine xAdd ?_ | refine xSub ?_ | refine xConv ?_ | refine xMul ?_ | refine wP_max ?_ | refine xIaN ?_ | refine xIaO ?_ | refine xIaU ?_ | refine xBuild ?_ | refine xPure ?_) | ((with_reducible refine id_wR ?_); refine id_new ?_; refine xRead ?_) | ((with_reducible refine id_wA ?_); first | refine xBsl ?_ | refine xAlloc ?_) | ((with_reducible refine id_wE ?_); refine id_newS ?_; refine xStore ?_) | ((with_reducible refine id_asB ?_); first | refine xTt ?_ | refine xFf ?_))
  refine Ev.st (r7 m.ce m.ca m.cln m.ccp _) ?_
  refine Ev.st h8 ?_
  repeat (first | with_reducible refine atK.mk ?_ | with_reducible refine wChk_nil ?_ | with_reducible refine wChk1_nil ?_ | ((with_reducible refine id_wP ?_); first | refine xAdd ?_ | refine xSub ?_ | refine xConv ?_ | refine xMul ?_ | refine wP_max ?_ | refine xIaN ?_ | refine xIaO ?_ | refine xIaU ?_ | refine xBuild ?_ | refine xPure ?_) | ((with_reducible refine id_wR ?_); refine id_new ?_; refine xRead ?_) | ((with_reducible refine id_wA ?_); first | refine xBsl ?_ | refine xAlloc ?_) | ((with_reducible refine id_wE ?_); refine id_newS ?_; refine xStore ?_) | ((with_reducible refine id_asB ?_); first | refine xTt ?_ | refine xFf ?_))
  refine asB_both (fun h => ?_) fun h => ?_
  · have hk : k ≠ 2 := by simpa using h
    repeat (first | with_reducible refine atK.mk ?_ | with_reducible refine wChk_nil ?_ | with_reducible refine wChk1_nil ?_ | ((with_reducible refine id_wP ?_); first | refine xAdd ?_ | refine xSub ?_ | refine xConv ?_ | refine xMul ?_ | refine wP_max ?_ | refine xIaN ?_ | refine xIaO ?_ | refine xIaU ?_ | refine xBuild ?_ | refine xPure ?_) | ((with_reducible refine id_wR ?_); refine id_new ?_; refine xRead ?_) | ((with_reducible refine id_wA ?_); first | refine xBsl ?_ | refine xAlloc ?_) | ((with_reducible refine id_wE ?_); refine id_newS ?_; refine xStore ?_) | ((with_reducible refine id_asB ?_); first | refine xTt ?_ | refine xFf ?_))
    by_cases hc : k = 9 ∨ k = 13
    · refine s_take (m := m) (fn := fn) hY hc fun H6 k6 => ?_
      iterate 3 (first | with_reducible refine atK.mk ?_ | with_reducible refine wChk_nil ?_ | with_reducible refine wChk1_nil ?_ | ((with_reducible refine id_wP ?_); first | refine xAdd ?_ | refine xSub ?_ | refine xConv ?_ | refine xMul ?_ | refine wP_max ?_ | refine xIaN ?_ | refine xIaO ?_ | refine xIaU ?_ | refine xBuild ?_ | refine xPure ?_) | ((with_reducible refine id_wR ?_); refine id_new ?_; refine xRead ?_) | ((with_reducible refine id_wA ?_); first | refine xBsl ?_ | refine xAlloc ?_) | ((with_reducible refine id_wE ?_); refine id_newS ?_; refine xStore ?_) | ((with_reducible refine id_asB ?_); first | refine xTt ?_ | refine xFf ?_))
      exact nn_tail (l := cells k fn m) rfl (hB.keep0 k6).get
    obtain ⟨H6, l, hr, hg, hl, _, hn⟩ := chk_some (h9 hk (fun e => hc (.inl e)) (fun e => hc (.inr e)))
    refine Ev.st hr ?_
    repeat (first | with_reducible refine atK.mk ?_ | with_reducible refine wChk_nil ?_ | with_reducible refine wChk1_nil ?_ | ((with_reducible refine id_wP ?_); first | refine xAdd ?_ | refine xSub ?_ | refine xConv ?_ | refine xMul ?_ | refine wP_max ?_ | refine xIaN ?_ | refine xIaO ?_ | refine xIaU ?_ | refine xBuild ?_ | refine xPure ?_) | ((with_reducible refine id_wR ?_); refine id_new ?_; refine xRead ?_) | ((with_reducible refine id_wA ?_); first | refine xBsl ?_ | refine xAlloc ?_) | ((with_reducible refine id_wE ?_); refine id_newS ?_; refine xStore ?_) | ((with_reducible refine id_asB ?_); first | refine xTt ?_ | refine xFf ?_))
    exact nn_tail hl hg
  · exact nn_tail (l := cells k fn m) rfl hB.get
end Go.Proofs.YtdpbbppjjjhnoaaGreatDoor.D
